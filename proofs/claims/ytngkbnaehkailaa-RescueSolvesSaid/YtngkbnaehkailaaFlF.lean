import Derived.Test.YtngkbnaehkailaaFlE
namespace Go.Proofs.Ytngkbnaehkailaa
open Go Go.RowKit Eng
set_option linter.unusedVariables false
set_option linter.unusedSimpArgs false

set_option maxHeartbeats 4000000 in
set_option maxRecDepth 100000 in
theorem runa_ok (b nu : Nat) (l : List Ed) (ea : Option Addr) (m ec : Nat) (hm : m = l.length) (hmb : m ≤ 2048) (f : List Int) (fa : Option Addr) (q fc : Nat) (hq : q = f.length) (hqm : q = m) (c la : List Int) (cb lb : Nat) (lo : Int) (hE : EdOk nu l) (hc : Bd nu lo c) (hla : la.length = nu) (hlo : -1152921504606846976 ≤ lo) (hn : nu ≤ 128) (hlo2 : -576460752303423488 ≤ lo) (w0 : World) (sE : SliceIn w0 4 ea m ec (rowsF encEd l)) (sF : SliceIn w0 1 fa q fc (rowsF encI f)) : MC Try.prog 42 [.pointer (some ⟨b, 0, none⟩)] w0 [Item.cells b [.slice ea m ec, .slice fa q fc, .slice (some ⟨cb, 0, none⟩) nu nu, .slice (some ⟨lb, 0, none⟩) nu nu] 67, Item.own w0.heap.size (some ⟨cb, 0, none⟩) nu nu 3 1 (cellsOf encI c), Item.own w0.heap.size (some ⟨lb, 0, none⟩) nu nu 3 1 (cellsOf encI la)] (fun _ : Unit => .bool (runF l f (nu + 1) c la).2.2) (fun _ => [Item.cells b [.slice ea m ec, .slice fa q fc, .slice (some ⟨cb, 0, none⟩) nu nu, .slice (some ⟨lb, 0, none⟩) nu nu] 67, Item.own w0.heap.size (some ⟨cb, 0, none⟩) nu nu 3 1 (cellsOf encI ((runF l f (nu + 1) c la).1)), Item.own w0.heap.size (some ⟨lb, 0, none⟩) nu nu 3 1 (cellsOf encI ((runF l f (nu + 1) c la).2.1))]) (fun _ => Bd nu (-1152921504606846976) (runF l f (nu + 1) c la).1 ∧ (runF l f (nu + 1) c la).2.1.length = nu) (fun _ => []) := by
  refine mcalls (N := 41) Try.func42 rfl rfl rfl ?_
  intro X
  show WC _ _ _ _ _ _ _ [Item.cells b [.slice ea m ec, .slice fa q fc, .slice (some ⟨cb, 0, none⟩) nu nu, .slice (some ⟨lb, 0, none⟩) nu nu] 67, Item.own w0.heap.size (some ⟨cb, 0, none⟩) nu nu 3 1 (cellsOf encI c), Item.own w0.heap.size (some ⟨lb, 0, none⟩) nu nu 3 1 (cellsOf encI la), X]
  refine WC.seq ?_
  refine WC.region ?_
  refine SL.pure rfl rfl rfl (PureOp.assign rfl) ?_
  refine SL.nil_then ?_
  refine WC.seq ?_
  refine WC.region ?_
  refine SL.pure rfl rfl rfl (PureOp.move rfl) ?_
  refine SL.pure rfl rfl rfl (PureOp.makeFunc rfl rfl) ?_
  refine SL.pure rfl rfl rfl (PureOp.move rfl) ?_
  refine SL.pure rfl rfl rfl (PureOp.makeFunc rfl rfl) ?_
  refine SL.pure rfl rfl rfl (PureOp.build bld88 rfl rfl) ?_
  refine SL.alloc rfl rfl zero88 (fun b1 hb1 => ?_)
  refine SL.norm [_, _, _, _, _] rfl ?_
  refine SL.store 4 rfl rfl rfl rfl sz88 rfl rfl ?_
  refine SL.norm [_, _, _, _, _] rfl ?_
  refine SL.nil_then ?_
  refine WC.seq ?_
  refine WC.seq ?_
  refine WC.region ?_
  refine SL.pure rfl rfl rfl (PureOp.move rfl) ?_
  refine SL.pure rfl rfl rfl (PureOp.nilCheckp rfl) ?_
  refine SL.pure rfl rfl rfl (PureOp.fieldAddrT 2 Try.underlying67 rfl sz29 rfl rfl) ?_
  refine SL.pure rfl rfl rfl (PureOp.load (v := .slice (some ⟨cb, 0, none⟩) nu nu) Try.underlying29 rfl rfl (fun _ => (CellIs.cells 0 rfl rfl))) ?_
  refine SL.pure rfl rfl rfl (PureOp.len rfl Try.underlying29) ?_
  refine SL.pure rfl rfl rfl (PureOp.addN (k := 1) rfl rfl (fun _ => by omega)) ?_
  refine SL.pure rfl rfl rfl (PureOp.move rfl) ?_
  refine SL.nil_then ?_
  refine WC.block ?_
  refine WC.loop (σ := Nat × List Int × List Int) (fun q_ => [(0, 0, .pointer (some ⟨b, 0, none⟩)), (3, 0, .pointer (some ⟨b1, 0, none⟩)), (8, 0, .pointer (some ⟨b, 0, none⟩)), (9, 0, .func (.func 54) #[.pointer (some ⟨b, 0, none⟩)] #[]), (10, 0, .pointer (some ⟨b, 0, none⟩)), (11, 0, .func (.func 55) #[.pointer (some ⟨b, 0, none⟩)] #[]), (12, 0, .agg #[.func (.func 54) #[.pointer (some ⟨b, 0, none⟩)] #[], .func (.func 55) #[.pointer (some ⟨b, 0, none⟩)] #[]]), (13, 0, .pointer (some ⟨b, 0, none⟩)), (14, 0, .pointer (some ⟨b, 0, none⟩)), (15, 0, .pointer (some ⟨b, 2, none⟩)), (16, 0, .slice (some ⟨cb, 0, none⟩) nu nu), (17, 0, .int .i64 ((nu : Nat) : Int)), (18, 0, .int .i64 ((nu + 1 : Nat) : Int)), (19, 0, .int .i64 ((q_.1 : Nat) : Int))]) (fun q_ => [Item.cells b [.slice ea m ec, .slice fa q fc, .slice (some ⟨cb, 0, none⟩) nu nu, .slice (some ⟨lb, 0, none⟩) nu nu] 67, Item.own w0.heap.size (some ⟨cb, 0, none⟩) nu nu 3 1 (cellsOf encI (q_.2.1)), Item.own w0.heap.size (some ⟨lb, 0, none⟩) nu nu 3 1 (cellsOf encI (q_.2.2)), X, Item.cells b1 [.func (.func 54) #[.pointer (some ⟨b, 0, none⟩)] #[], .func (.func 55) #[.pointer (some ⟨b, 0, none⟩)] #[]] 88]) (fun q_ => q_.1 ≤ nu + 1 ∧ runF l f (nu + 1 - q_.1) q_.2.1 q_.2.2 = runF l f (nu + 1) c la ∧ Bd nu (lo - ((q_.1 : Nat) : Int) * 17592186044416) q_.2.1 ∧ q_.2.2.length = nu) (fun q_ => nu + 1 - q_.1) 5 ((0, c, la)) (⟨Nat.zero_le _, rfl, hc.mono (by omega), hla⟩) ⟨rfl, rfl, rfl, rfl, rfl, rfl, rfl, rfl, rfl, rfl, rfl, rfl, rfl, rfl, rfl, rfl, rfl, rfl, rfl, rfl, rfl, rfl, rfl, rfl, rfl, rfl, rfl, rfl, trivial⟩ rfl ?_
  rintro ⟨r, C, La⟩ ⟨hr, hrun, hC, hLa⟩
  try dsimp only at *
  refine WC.seq ?_
  refine WC.region ?_
  refine SL.pure rfl rfl rfl (PureOp.lss rfl rfl) ?_
  refine SL.nil_then ?_
  refine WC.seq ?_
  refine WC.cond rfl (fun h1 => ?_) (fun h1 => ?_)
  · try simp only [Bool.and_eq_true, Bool.or_eq_true, Bool.not_eq_true', Bool.not_eq_false', Bool.and_eq_false_iff, Bool.or_eq_false_iff, decide_eq_true_eq, decide_eq_false_iff_not, Int.not_lt, Int.not_le, ne_eq, Decidable.not_not] at h1
    refine WC.skip ?_
    refine QX.then_ ?_
    refine WC.seq ?_
    refine WC.block ?_
    refine WC.seq ?_
    refine WC.region ?_
    refine SL.pure rfl rfl rfl (PureOp.assign rfl) ?_
    refine SL.nil_then ?_
    refine WC.seq ?_
    refine WC.seq ?_
    refine WC.region ?_
    refine SL.pure rfl rfl rfl (PureOp.move rfl) ?_
    refine SL.pure rfl rfl rfl (PureOp.nilCheckp rfl) ?_
    refine SL.pure rfl rfl rfl (PureOp.fieldAddrT 0 Try.underlying67 rfl sz22 rfl rfl) ?_
    refine SL.pure rfl rfl rfl (PureOp.load (v := .slice ea m ec) Try.underlying22 rfl rfl (fun _ => (CellIs.cells 0 rfl rfl))) ?_
    refine SL.pure rfl rfl rfl (PureOp.len rfl Try.underlying22) ?_
    refine SL.pure rfl rfl rfl (PureOp.move rfl) ?_
    refine SL.nil_then ?_
    refine WC.block ?_
    refine WC.loop (σ := Nat × List Int × List Int × Bool) (fun q_ => [(0, 0, .pointer (some ⟨b, 0, none⟩)), (3, 0, .pointer (some ⟨b1, 0, none⟩)), (8, 0, .pointer (some ⟨b, 0, none⟩)), (9, 0, .func (.func 54) #[.pointer (some ⟨b, 0, none⟩)] #[]), (10, 0, .pointer (some ⟨b, 0, none⟩)), (11, 0, .func (.func 55) #[.pointer (some ⟨b, 0, none⟩)] #[]), (12, 0, .agg #[.func (.func 54) #[.pointer (some ⟨b, 0, none⟩)] #[], .func (.func 55) #[.pointer (some ⟨b, 0, none⟩)] #[]]), (13, 0, .pointer (some ⟨b, 0, none⟩)), (14, 0, .pointer (some ⟨b, 0, none⟩)), (15, 0, .pointer (some ⟨b, 2, none⟩)), (16, 0, .slice (some ⟨cb, 0, none⟩) nu nu), (17, 0, .int .i64 ((nu : Nat) : Int)), (18, 0, .int .i64 ((nu + 1 : Nat) : Int)), (19, 0, .int .i64 ((r : Nat) : Int)), (20, 0, .bool (decide (((r : Nat) : Int) < ((nu + 1 : Nat) : Int)))), (21, 0, .pointer (some ⟨b, 0, none⟩)), (22, 0, .pointer (some ⟨b, 0, none⟩)), (23, 0, .pointer (some ⟨b, 0, none⟩)), (24, 0, .slice ea m ec), (25, 0, .int .i64 ((m : Nat) : Int)), (26, 0, .int .i64 ((q_.1 : Nat) : Int)), (4, 0, .bool q_.2.2.2)]) (fun q_ => [Item.cells b [.slice ea m ec, .slice fa q fc, .slice (some ⟨cb, 0, none⟩) nu nu, .slice (some ⟨lb, 0, none⟩) nu nu] 67, Item.own w0.heap.size (some ⟨cb, 0, none⟩) nu nu 3 1 (cellsOf encI (q_.2.1)), Item.own w0.heap.size (some ⟨lb, 0, none⟩) nu nu 3 1 (cellsOf encI (q_.2.2.1)), X, Item.cells b1 [.func (.func 54) #[.pointer (some ⟨b, 0, none⟩)] #[], .func (.func 55) #[.pointer (some ⟨b, 0, none⟩)] #[]] 88]) (fun q_ => q_.1 ≤ m ∧ sweep l f C La q_.1 = (q_.2.1, q_.2.2.1, q_.2.2.2) ∧ Bd nu (lo - (r : Int) * 17592186044416 - ((q_.1 : Nat) : Int) * 8589934592) q_.2.1 ∧ q_.2.2.1.length = nu) (fun q_ => m - q_.1) 5 ((0, C, La, false)) (⟨Nat.zero_le _, rfl, hC.mono (by omega), hLa⟩) ⟨rfl, rfl, rfl, rfl, rfl, rfl, rfl, rfl, rfl, rfl, rfl, rfl, rfl, rfl, rfl, rfl, rfl, rfl, rfl, rfl, rfl, rfl, rfl, rfl, rfl, rfl, rfl, rfl, rfl, rfl, rfl, rfl, rfl, rfl, rfl, rfl, rfl, rfl, rfl, rfl, rfl, rfl, rfl, rfl, trivial⟩ rfl ?_
    rintro ⟨i, D, M, mo⟩ ⟨hi, hsw, hD, hMl⟩
    try dsimp only at *
    refine WC.seq ?_
    refine WC.region ?_
    refine SL.pure rfl rfl rfl (PureOp.lss rfl rfl) ?_
    refine SL.nil_then ?_
    refine WC.seq ?_
    refine WC.cond rfl (fun h2 => ?_) (fun h2 => ?_)
    · try simp only [Bool.and_eq_true, Bool.or_eq_true, Bool.not_eq_true', Bool.not_eq_false', Bool.and_eq_false_iff, Bool.or_eq_false_iff, decide_eq_true_eq, decide_eq_false_iff_not, Int.not_lt, Int.not_le, ne_eq, Decidable.not_not] at h2
      refine WC.skip ?_
      refine QX.then_ ?_
      refine WC.seq ?_
      refine WC.block ?_
      refine WC.seq ?_
      refine WC.region ?_
      refine SL.pure rfl rfl rfl (PureOp.move rfl) ?_
      refine SL.pure rfl rfl rfl (PureOp.assign rfl) ?_
      refine SL.nil_then ?_
      refine WC.seq ?_
      refine WC.region ?_
      refine SL.pure rfl rfl rfl (PureOp.loads (vs := [.func (.func 54) #[.pointer (some ⟨b, 0, none⟩)] #[], .func (.func 55) #[.pointer (some ⟨b, 0, none⟩)] #[]]) Try.underlying88 rfl rfl (fun _ => (RowIs.cells 4 0 2 rfl rfl)) sz88) ?_
      refine SL.pure rfl rfl rfl (PureOp.move rfl) ?_
      refine SL.nil_then ?_
      refine WC.block ?_
      refine WC.loop (σ := Nat × List Int × List Int × Bool) (fun q_ => [(0, 0, .pointer (some ⟨b, 0, none⟩)), (3, 0, .pointer (some ⟨b1, 0, none⟩)), (5, 0, .int .i64 ((i : Nat) : Int)), (8, 0, .pointer (some ⟨b, 0, none⟩)), (9, 0, .func (.func 54) #[.pointer (some ⟨b, 0, none⟩)] #[]), (10, 0, .pointer (some ⟨b, 0, none⟩)), (11, 0, .func (.func 55) #[.pointer (some ⟨b, 0, none⟩)] #[]), (12, 0, .agg #[.func (.func 54) #[.pointer (some ⟨b, 0, none⟩)] #[], .func (.func 55) #[.pointer (some ⟨b, 0, none⟩)] #[]]), (13, 0, .pointer (some ⟨b, 0, none⟩)), (14, 0, .pointer (some ⟨b, 0, none⟩)), (15, 0, .pointer (some ⟨b, 2, none⟩)), (16, 0, .slice (some ⟨cb, 0, none⟩) nu nu), (17, 0, .int .i64 ((nu : Nat) : Int)), (18, 0, .int .i64 ((nu + 1 : Nat) : Int)), (19, 0, .int .i64 ((r : Nat) : Int)), (20, 0, .bool (decide (((r : Nat) : Int) < ((nu + 1 : Nat) : Int)))), (21, 0, .pointer (some ⟨b, 0, none⟩)), (22, 0, .pointer (some ⟨b, 0, none⟩)), (23, 0, .pointer (some ⟨b, 0, none⟩)), (24, 0, .slice ea m ec), (25, 0, .int .i64 ((m : Nat) : Int)), (26, 0, .int .i64 ((i : Nat) : Int)), (27, 0, .bool (decide (((i : Nat) : Int) < ((m : Nat) : Int)))), (28, 0, .int .i64 ((i : Nat) : Int)), (29, 0, .agg #[.func (.func 54) #[.pointer (some ⟨b, 0, none⟩)] #[], .func (.func 55) #[.pointer (some ⟨b, 0, none⟩)] #[]]), (30, 0, .int .i64 ((q_.1 : Nat) : Int)), (4, 0, .bool q_.2.2.2)]) (fun q_ => [Item.cells b [.slice ea m ec, .slice fa q fc, .slice (some ⟨cb, 0, none⟩) nu nu, .slice (some ⟨lb, 0, none⟩) nu nu] 67, Item.own w0.heap.size (some ⟨cb, 0, none⟩) nu nu 3 1 (cellsOf encI (q_.2.1)), Item.own w0.heap.size (some ⟨lb, 0, none⟩) nu nu 3 1 (cellsOf encI (q_.2.2.1)), X, Item.cells b1 [.func (.func 54) #[.pointer (some ⟨b, 0, none⟩)] #[], .func (.func 55) #[.pointer (some ⟨b, 0, none⟩)] #[]] 88]) (fun q_ => q_.1 ≤ 2 ∧ stp l f i q_.1 (D, M, mo) = (q_.2.1, q_.2.2.1, q_.2.2.2) ∧ Bd nu (lo - (r : Int) * 17592186044416 - (i : Int) * 8589934592 - ((q_.1 : Nat) : Int) * 4294967296) q_.2.1 ∧ q_.2.2.1.length = nu) (fun q_ => 2 - q_.1) 5 ((0, D, M, mo)) (⟨Nat.zero_le _, rfl, hD.mono (by omega), hMl⟩) ⟨rfl, rfl, rfl, rfl, rfl, rfl, rfl, rfl, rfl, rfl, rfl, rfl, rfl, rfl, rfl, rfl, rfl, rfl, rfl, rfl, rfl, rfl, rfl, rfl, rfl, rfl, rfl, rfl, rfl, rfl, rfl, rfl, rfl, rfl, rfl, rfl, rfl, rfl, rfl, rfl, rfl, rfl, rfl, rfl, rfl, rfl, rfl, rfl, rfl, rfl, rfl, rfl, rfl, rfl, trivial⟩ rfl ?_
      rintro ⟨jj_, X_, Y_, mx⟩ ⟨hj, hst, hX, hY⟩
      try dsimp only at *
      refine WC.seq ?_
      refine WC.region ?_
      refine SL.pure rfl rfl rfl (PureOp.lss rfl rfl) ?_
      refine SL.nil_then ?_
      refine WC.seq ?_
      refine WC.cond rfl (fun h3 => ?_) (fun h3 => ?_)
      · try simp only [Bool.and_eq_true, Bool.or_eq_true, Bool.not_eq_true', Bool.not_eq_false', Bool.and_eq_false_iff, Bool.or_eq_false_iff, decide_eq_true_eq, decide_eq_false_iff_not, Int.not_lt, Int.not_le, ne_eq, Decidable.not_not] at h3
        rcases (show jj_ = 0 ∨ jj_ = 1 by omega) with rfl | rfl
        · skip
          refine WC.skip ?_
          refine QX.then_ ?_
          refine WC.seq ?_
          refine WC.block ?_
          refine WC.seq ?_
          refine WC.region ?_
          refine SL.pure rfl rfl rfl (PureOp.indexa (v := .func (.func 54) #[.pointer (some ⟨b, 0, none⟩)] #[]) Try.underlying88 Try.underlying87 rfl sz87 rfl rfl (by decide) rfl) ?_
          refine SL.pure rfl rfl rfl (PureOp.assign rfl) ?_
          refine SL.nil_then ?_
          refine WC.seq ?_
          refine WC.region ?_
          refine SL.pure rfl rfl rfl (PureOp.move rfl) ?_
          refine SL.pure rfl rfl rfl (PureOp.move rfl) ?_
          refine SL.callMf [.pointer (some ⟨b, 0, none⟩)] [0, 1, 2] rfl rfl rfl rfl rfl rfl callable54 (by decide) (fwa_ok b nu l ea m ec hm hmb f fa q fc hq hqm X_ Y_ cb lb (lo - (r : Int) * 17592186044416 - (i : Int) * 8589934592 - ((0 : Nat) : Int) * 4294967296) hE hX hY (by omega) hn i (by omega) w0 sE sF) rfl (fun _ _ => rfl) ?_
          rintro ⟨⟩ _
          refine SL.norm [_, _, _, _, _] rfl ?_
          refine SL.nil_then ?_
          refine WC.cond rfl (fun h4 => ?_) (fun h4 => ?_)
          · try simp only [Bool.and_eq_true, Bool.or_eq_true, Bool.not_eq_true', Bool.not_eq_false', Bool.and_eq_false_iff, Bool.or_eq_false_iff, decide_eq_true_eq, decide_eq_false_iff_not, Int.not_lt, Int.not_le, ne_eq, Decidable.not_not] at h4
            refine WC.region ?_
            refine SL.pure rfl rfl rfl (PureOp.assign rfl) ?_
            refine SL.nil ?_
            refine QX.normal_in ?_
            refine QX.then_ ?_
            refine WC.region ?_
            refine SL.pure rfl rfl rfl (PureOp.addN (k := 1) rfl rfl (fun _ => by omega)) ?_
            refine SL.pure rfl rfl rfl (PureOp.move rfl) ?_
            refine SL.nil ?_
            refine QX.round (σ := Nat × List Int × List Int × Bool) (Ef := fun q_ => [(0, 0, .pointer (some ⟨b, 0, none⟩)), (3, 0, .pointer (some ⟨b1, 0, none⟩)), (5, 0, .int .i64 ((i : Nat) : Int)), (8, 0, .pointer (some ⟨b, 0, none⟩)), (9, 0, .func (.func 54) #[.pointer (some ⟨b, 0, none⟩)] #[]), (10, 0, .pointer (some ⟨b, 0, none⟩)), (11, 0, .func (.func 55) #[.pointer (some ⟨b, 0, none⟩)] #[]), (12, 0, .agg #[.func (.func 54) #[.pointer (some ⟨b, 0, none⟩)] #[], .func (.func 55) #[.pointer (some ⟨b, 0, none⟩)] #[]]), (13, 0, .pointer (some ⟨b, 0, none⟩)), (14, 0, .pointer (some ⟨b, 0, none⟩)), (15, 0, .pointer (some ⟨b, 2, none⟩)), (16, 0, .slice (some ⟨cb, 0, none⟩) nu nu), (17, 0, .int .i64 ((nu : Nat) : Int)), (18, 0, .int .i64 ((nu + 1 : Nat) : Int)), (19, 0, .int .i64 ((r : Nat) : Int)), (20, 0, .bool (decide (((r : Nat) : Int) < ((nu + 1 : Nat) : Int)))), (21, 0, .pointer (some ⟨b, 0, none⟩)), (22, 0, .pointer (some ⟨b, 0, none⟩)), (23, 0, .pointer (some ⟨b, 0, none⟩)), (24, 0, .slice ea m ec), (25, 0, .int .i64 ((m : Nat) : Int)), (26, 0, .int .i64 ((i : Nat) : Int)), (27, 0, .bool (decide (((i : Nat) : Int) < ((m : Nat) : Int)))), (28, 0, .int .i64 ((i : Nat) : Int)), (29, 0, .agg #[.func (.func 54) #[.pointer (some ⟨b, 0, none⟩)] #[], .func (.func 55) #[.pointer (some ⟨b, 0, none⟩)] #[]]), (30, 0, .int .i64 ((q_.1 : Nat) : Int)), (4, 0, .bool q_.2.2.2)]) (Hf := fun q_ => [Item.cells b [.slice ea m ec, .slice fa q fc, .slice (some ⟨cb, 0, none⟩) nu nu, .slice (some ⟨lb, 0, none⟩) nu nu] 67, Item.own w0.heap.size (some ⟨cb, 0, none⟩) nu nu 3 1 (cellsOf encI (q_.2.1)), Item.own w0.heap.size (some ⟨lb, 0, none⟩) nu nu 3 1 (cellsOf encI (q_.2.2.1)), X, Item.cells b1 [.func (.func 54) #[.pointer (some ⟨b, 0, none⟩)] #[], .func (.func 55) #[.pointer (some ⟨b, 0, none⟩)] #[]] 88]) (I := fun q_ => q_.1 ≤ 2 ∧ stp l f i q_.1 (D, M, mo) = (q_.2.1, q_.2.2.1, q_.2.2.2) ∧ Bd nu (lo - (r : Int) * 17592186044416 - (i : Int) * 8589934592 - ((q_.1 : Nat) : Int) * 4294967296) q_.2.1 ∧ q_.2.2.1.length = nu) (μ := fun q_ => 2 - q_.1) (s := (0, X_, Y_, mx)) 5 ((0 + 1, fwS l f i X_, fwL l f i X_ Y_, true)) ⟨⟨(by first | omega | (dsimp only; omega)), stp_fw hst (by simp_all), (fwS_bd hE (by omega) hX).mono (by first | omega | (dsimp only; omega)), by show (fwL l f i X_ Y_).length = nu; rw [fwL_len]; exact hY⟩, by first | omega | (dsimp only; omega)⟩ ⟨rfl, rfl, rfl, rfl, rfl, rfl, rfl, rfl, rfl, rfl, rfl, rfl, rfl, rfl, rfl, rfl, rfl, rfl, rfl, rfl, rfl, rfl, rfl, rfl, rfl, rfl, rfl, rfl, rfl, rfl, rfl, rfl, rfl, rfl, rfl, rfl, rfl, rfl, rfl, rfl, rfl, rfl, rfl, rfl, rfl, rfl, rfl, rfl, rfl, rfl, rfl, rfl, rfl, rfl, trivial⟩ rfl
          · try simp only [Bool.and_eq_true, Bool.or_eq_true, Bool.not_eq_true', Bool.not_eq_false', Bool.and_eq_false_iff, Bool.or_eq_false_iff, decide_eq_true_eq, decide_eq_false_iff_not, Int.not_lt, Int.not_le, ne_eq, Decidable.not_not] at h4
            refine WC.skip ?_
            refine QX.normal_in ?_
            refine QX.then_ ?_
            refine WC.region ?_
            refine SL.pure rfl rfl rfl (PureOp.addN (k := 1) rfl rfl (fun _ => by omega)) ?_
            refine SL.pure rfl rfl rfl (PureOp.move rfl) ?_
            refine SL.nil ?_
            refine QX.round (σ := Nat × List Int × List Int × Bool) (Ef := fun q_ => [(0, 0, .pointer (some ⟨b, 0, none⟩)), (3, 0, .pointer (some ⟨b1, 0, none⟩)), (5, 0, .int .i64 ((i : Nat) : Int)), (8, 0, .pointer (some ⟨b, 0, none⟩)), (9, 0, .func (.func 54) #[.pointer (some ⟨b, 0, none⟩)] #[]), (10, 0, .pointer (some ⟨b, 0, none⟩)), (11, 0, .func (.func 55) #[.pointer (some ⟨b, 0, none⟩)] #[]), (12, 0, .agg #[.func (.func 54) #[.pointer (some ⟨b, 0, none⟩)] #[], .func (.func 55) #[.pointer (some ⟨b, 0, none⟩)] #[]]), (13, 0, .pointer (some ⟨b, 0, none⟩)), (14, 0, .pointer (some ⟨b, 0, none⟩)), (15, 0, .pointer (some ⟨b, 2, none⟩)), (16, 0, .slice (some ⟨cb, 0, none⟩) nu nu), (17, 0, .int .i64 ((nu : Nat) : Int)), (18, 0, .int .i64 ((nu + 1 : Nat) : Int)), (19, 0, .int .i64 ((r : Nat) : Int)), (20, 0, .bool (decide (((r : Nat) : Int) < ((nu + 1 : Nat) : Int)))), (21, 0, .pointer (some ⟨b, 0, none⟩)), (22, 0, .pointer (some ⟨b, 0, none⟩)), (23, 0, .pointer (some ⟨b, 0, none⟩)), (24, 0, .slice ea m ec), (25, 0, .int .i64 ((m : Nat) : Int)), (26, 0, .int .i64 ((i : Nat) : Int)), (27, 0, .bool (decide (((i : Nat) : Int) < ((m : Nat) : Int)))), (28, 0, .int .i64 ((i : Nat) : Int)), (29, 0, .agg #[.func (.func 54) #[.pointer (some ⟨b, 0, none⟩)] #[], .func (.func 55) #[.pointer (some ⟨b, 0, none⟩)] #[]]), (30, 0, .int .i64 ((q_.1 : Nat) : Int)), (4, 0, .bool q_.2.2.2)]) (Hf := fun q_ => [Item.cells b [.slice ea m ec, .slice fa q fc, .slice (some ⟨cb, 0, none⟩) nu nu, .slice (some ⟨lb, 0, none⟩) nu nu] 67, Item.own w0.heap.size (some ⟨cb, 0, none⟩) nu nu 3 1 (cellsOf encI (q_.2.1)), Item.own w0.heap.size (some ⟨lb, 0, none⟩) nu nu 3 1 (cellsOf encI (q_.2.2.1)), X, Item.cells b1 [.func (.func 54) #[.pointer (some ⟨b, 0, none⟩)] #[], .func (.func 55) #[.pointer (some ⟨b, 0, none⟩)] #[]] 88]) (I := fun q_ => q_.1 ≤ 2 ∧ stp l f i q_.1 (D, M, mo) = (q_.2.1, q_.2.2.1, q_.2.2.2) ∧ Bd nu (lo - (r : Int) * 17592186044416 - (i : Int) * 8589934592 - ((q_.1 : Nat) : Int) * 4294967296) q_.2.1 ∧ q_.2.2.1.length = nu) (μ := fun q_ => 2 - q_.1) (s := (0, X_, Y_, mx)) 5 ((0 + 1, fwS l f i X_, fwL l f i X_ Y_, mx)) ⟨⟨(by first | omega | (dsimp only; omega)), stp_fw hst (by simp_all), (fwS_bd hE (by omega) hX).mono (by first | omega | (dsimp only; omega)), by show (fwL l f i X_ Y_).length = nu; rw [fwL_len]; exact hY⟩, by first | omega | (dsimp only; omega)⟩ ⟨rfl, rfl, rfl, rfl, rfl, rfl, rfl, rfl, rfl, rfl, rfl, rfl, rfl, rfl, rfl, rfl, rfl, rfl, rfl, rfl, rfl, rfl, rfl, rfl, rfl, rfl, rfl, rfl, rfl, rfl, rfl, rfl, rfl, rfl, rfl, rfl, rfl, rfl, rfl, rfl, rfl, rfl, rfl, rfl, rfl, rfl, rfl, rfl, rfl, rfl, rfl, rfl, rfl, rfl, trivial⟩ rfl
        · skip
          refine WC.skip ?_
          refine QX.then_ ?_
          refine WC.seq ?_
          refine WC.block ?_
          refine WC.seq ?_
          refine WC.region ?_
          refine SL.pure rfl rfl rfl (PureOp.indexa (v := .func (.func 55) #[.pointer (some ⟨b, 0, none⟩)] #[]) Try.underlying88 Try.underlying87 rfl sz87 rfl rfl (by decide) rfl) ?_
          refine SL.pure rfl rfl rfl (PureOp.assign rfl) ?_
          refine SL.nil_then ?_
          refine WC.seq ?_
          refine WC.region ?_
          refine SL.pure rfl rfl rfl (PureOp.move rfl) ?_
          refine SL.pure rfl rfl rfl (PureOp.move rfl) ?_
          refine SL.callMf [.pointer (some ⟨b, 0, none⟩)] [0, 1, 2] rfl rfl rfl rfl rfl rfl callable55 (by decide) (bwa_ok b nu l ea m ec hm hmb f fa q fc hq hqm X_ Y_ cb lb (lo - (r : Int) * 17592186044416 - (i : Int) * 8589934592 - ((1 : Nat) : Int) * 4294967296) hE hX hY (by omega) hn i (by omega) w0 sE sF) rfl (fun _ _ => rfl) ?_
          rintro ⟨⟩ _
          refine SL.norm [_, _, _, _, _] rfl ?_
          refine SL.nil_then ?_
          refine WC.cond rfl (fun h5 => ?_) (fun h5 => ?_)
          · try simp only [Bool.and_eq_true, Bool.or_eq_true, Bool.not_eq_true', Bool.not_eq_false', Bool.and_eq_false_iff, Bool.or_eq_false_iff, decide_eq_true_eq, decide_eq_false_iff_not, Int.not_lt, Int.not_le, ne_eq, Decidable.not_not] at h5
            refine WC.region ?_
            refine SL.pure rfl rfl rfl (PureOp.assign rfl) ?_
            refine SL.nil ?_
            refine QX.normal_in ?_
            refine QX.then_ ?_
            refine WC.region ?_
            refine SL.pure rfl rfl rfl (PureOp.addN (k := 1) rfl rfl (fun _ => by omega)) ?_
            refine SL.pure rfl rfl rfl (PureOp.move rfl) ?_
            refine SL.nil ?_
            refine QX.round (σ := Nat × List Int × List Int × Bool) (Ef := fun q_ => [(0, 0, .pointer (some ⟨b, 0, none⟩)), (3, 0, .pointer (some ⟨b1, 0, none⟩)), (5, 0, .int .i64 ((i : Nat) : Int)), (8, 0, .pointer (some ⟨b, 0, none⟩)), (9, 0, .func (.func 54) #[.pointer (some ⟨b, 0, none⟩)] #[]), (10, 0, .pointer (some ⟨b, 0, none⟩)), (11, 0, .func (.func 55) #[.pointer (some ⟨b, 0, none⟩)] #[]), (12, 0, .agg #[.func (.func 54) #[.pointer (some ⟨b, 0, none⟩)] #[], .func (.func 55) #[.pointer (some ⟨b, 0, none⟩)] #[]]), (13, 0, .pointer (some ⟨b, 0, none⟩)), (14, 0, .pointer (some ⟨b, 0, none⟩)), (15, 0, .pointer (some ⟨b, 2, none⟩)), (16, 0, .slice (some ⟨cb, 0, none⟩) nu nu), (17, 0, .int .i64 ((nu : Nat) : Int)), (18, 0, .int .i64 ((nu + 1 : Nat) : Int)), (19, 0, .int .i64 ((r : Nat) : Int)), (20, 0, .bool (decide (((r : Nat) : Int) < ((nu + 1 : Nat) : Int)))), (21, 0, .pointer (some ⟨b, 0, none⟩)), (22, 0, .pointer (some ⟨b, 0, none⟩)), (23, 0, .pointer (some ⟨b, 0, none⟩)), (24, 0, .slice ea m ec), (25, 0, .int .i64 ((m : Nat) : Int)), (26, 0, .int .i64 ((i : Nat) : Int)), (27, 0, .bool (decide (((i : Nat) : Int) < ((m : Nat) : Int)))), (28, 0, .int .i64 ((i : Nat) : Int)), (29, 0, .agg #[.func (.func 54) #[.pointer (some ⟨b, 0, none⟩)] #[], .func (.func 55) #[.pointer (some ⟨b, 0, none⟩)] #[]]), (30, 0, .int .i64 ((q_.1 : Nat) : Int)), (4, 0, .bool q_.2.2.2)]) (Hf := fun q_ => [Item.cells b [.slice ea m ec, .slice fa q fc, .slice (some ⟨cb, 0, none⟩) nu nu, .slice (some ⟨lb, 0, none⟩) nu nu] 67, Item.own w0.heap.size (some ⟨cb, 0, none⟩) nu nu 3 1 (cellsOf encI (q_.2.1)), Item.own w0.heap.size (some ⟨lb, 0, none⟩) nu nu 3 1 (cellsOf encI (q_.2.2.1)), X, Item.cells b1 [.func (.func 54) #[.pointer (some ⟨b, 0, none⟩)] #[], .func (.func 55) #[.pointer (some ⟨b, 0, none⟩)] #[]] 88]) (I := fun q_ => q_.1 ≤ 2 ∧ stp l f i q_.1 (D, M, mo) = (q_.2.1, q_.2.2.1, q_.2.2.2) ∧ Bd nu (lo - (r : Int) * 17592186044416 - (i : Int) * 8589934592 - ((q_.1 : Nat) : Int) * 4294967296) q_.2.1 ∧ q_.2.2.1.length = nu) (μ := fun q_ => 2 - q_.1) (s := (1, X_, Y_, mx)) 5 ((1 + 1, bwS l f i X_, bwL l f i X_ Y_, true)) ⟨⟨(by first | omega | (dsimp only; omega)), stp_bw hst (by simp_all), (bwS_bd hE (by omega) hX).mono (by first | omega | (dsimp only; omega)), by show (bwL l f i X_ Y_).length = nu; rw [bwL_len]; exact hY⟩, by first | omega | (dsimp only; omega)⟩ ⟨rfl, rfl, rfl, rfl, rfl, rfl, rfl, rfl, rfl, rfl, rfl, rfl, rfl, rfl, rfl, rfl, rfl, rfl, rfl, rfl, rfl, rfl, rfl, rfl, rfl, rfl, rfl, rfl, rfl, rfl, rfl, rfl, rfl, rfl, rfl, rfl, rfl, rfl, rfl, rfl, rfl, rfl, rfl, rfl, rfl, rfl, rfl, rfl, rfl, rfl, rfl, rfl, rfl, rfl, trivial⟩ rfl
          · try simp only [Bool.and_eq_true, Bool.or_eq_true, Bool.not_eq_true', Bool.not_eq_false', Bool.and_eq_false_iff, Bool.or_eq_false_iff, decide_eq_true_eq, decide_eq_false_iff_not, Int.not_lt, Int.not_le, ne_eq, Decidable.not_not] at h5
            refine WC.skip ?_
            refine QX.normal_in ?_
            refine QX.then_ ?_
            refine WC.region ?_
            refine SL.pure rfl rfl rfl (PureOp.addN (k := 1) rfl rfl (fun _ => by omega)) ?_
            refine SL.pure rfl rfl rfl (PureOp.move rfl) ?_
            refine SL.nil ?_
            refine QX.round (σ := Nat × List Int × List Int × Bool) (Ef := fun q_ => [(0, 0, .pointer (some ⟨b, 0, none⟩)), (3, 0, .pointer (some ⟨b1, 0, none⟩)), (5, 0, .int .i64 ((i : Nat) : Int)), (8, 0, .pointer (some ⟨b, 0, none⟩)), (9, 0, .func (.func 54) #[.pointer (some ⟨b, 0, none⟩)] #[]), (10, 0, .pointer (some ⟨b, 0, none⟩)), (11, 0, .func (.func 55) #[.pointer (some ⟨b, 0, none⟩)] #[]), (12, 0, .agg #[.func (.func 54) #[.pointer (some ⟨b, 0, none⟩)] #[], .func (.func 55) #[.pointer (some ⟨b, 0, none⟩)] #[]]), (13, 0, .pointer (some ⟨b, 0, none⟩)), (14, 0, .pointer (some ⟨b, 0, none⟩)), (15, 0, .pointer (some ⟨b, 2, none⟩)), (16, 0, .slice (some ⟨cb, 0, none⟩) nu nu), (17, 0, .int .i64 ((nu : Nat) : Int)), (18, 0, .int .i64 ((nu + 1 : Nat) : Int)), (19, 0, .int .i64 ((r : Nat) : Int)), (20, 0, .bool (decide (((r : Nat) : Int) < ((nu + 1 : Nat) : Int)))), (21, 0, .pointer (some ⟨b, 0, none⟩)), (22, 0, .pointer (some ⟨b, 0, none⟩)), (23, 0, .pointer (some ⟨b, 0, none⟩)), (24, 0, .slice ea m ec), (25, 0, .int .i64 ((m : Nat) : Int)), (26, 0, .int .i64 ((i : Nat) : Int)), (27, 0, .bool (decide (((i : Nat) : Int) < ((m : Nat) : Int)))), (28, 0, .int .i64 ((i : Nat) : Int)), (29, 0, .agg #[.func (.func 54) #[.pointer (some ⟨b, 0, none⟩)] #[], .func (.func 55) #[.pointer (some ⟨b, 0, none⟩)] #[]]), (30, 0, .int .i64 ((q_.1 : Nat) : Int)), (4, 0, .bool q_.2.2.2)]) (Hf := fun q_ => [Item.cells b [.slice ea m ec, .slice fa q fc, .slice (some ⟨cb, 0, none⟩) nu nu, .slice (some ⟨lb, 0, none⟩) nu nu] 67, Item.own w0.heap.size (some ⟨cb, 0, none⟩) nu nu 3 1 (cellsOf encI (q_.2.1)), Item.own w0.heap.size (some ⟨lb, 0, none⟩) nu nu 3 1 (cellsOf encI (q_.2.2.1)), X, Item.cells b1 [.func (.func 54) #[.pointer (some ⟨b, 0, none⟩)] #[], .func (.func 55) #[.pointer (some ⟨b, 0, none⟩)] #[]] 88]) (I := fun q_ => q_.1 ≤ 2 ∧ stp l f i q_.1 (D, M, mo) = (q_.2.1, q_.2.2.1, q_.2.2.2) ∧ Bd nu (lo - (r : Int) * 17592186044416 - (i : Int) * 8589934592 - ((q_.1 : Nat) : Int) * 4294967296) q_.2.1 ∧ q_.2.2.1.length = nu) (μ := fun q_ => 2 - q_.1) (s := (1, X_, Y_, mx)) 5 ((1 + 1, bwS l f i X_, bwL l f i X_ Y_, mx)) ⟨⟨(by first | omega | (dsimp only; omega)), stp_bw hst (by simp_all), (bwS_bd hE (by omega) hX).mono (by first | omega | (dsimp only; omega)), by show (bwL l f i X_ Y_).length = nu; rw [bwL_len]; exact hY⟩, by first | omega | (dsimp only; omega)⟩ ⟨rfl, rfl, rfl, rfl, rfl, rfl, rfl, rfl, rfl, rfl, rfl, rfl, rfl, rfl, rfl, rfl, rfl, rfl, rfl, rfl, rfl, rfl, rfl, rfl, rfl, rfl, rfl, rfl, rfl, rfl, rfl, rfl, rfl, rfl, rfl, rfl, rfl, rfl, rfl, rfl, rfl, rfl, rfl, rfl, rfl, rfl, rfl, rfl, rfl, rfl, rfl, rfl, rfl, rfl, trivial⟩ rfl
      · try simp only [Bool.and_eq_true, Bool.or_eq_true, Bool.not_eq_true', Bool.not_eq_false', Bool.and_eq_false_iff, Bool.or_eq_false_iff, decide_eq_true_eq, decide_eq_false_iff_not, Int.not_lt, Int.not_le, ne_eq, Decidable.not_not] at h3
        refine WC.exit ?_
        refine QX.exit_then ?_
        refine QX.exit_then ?_
        refine QX.exit_hit ?_
        refine QX.normal_in ?_
        refine QX.then_ ?_
        refine WC.region ?_
        refine SL.pure rfl rfl rfl (PureOp.addN (k := 1) rfl rfl (fun _ => by omega)) ?_
        refine SL.pure rfl rfl rfl (PureOp.move rfl) ?_
        refine SL.nil ?_
        refine QX.round (σ := Nat × List Int × List Int × Bool) (Ef := fun q_ => [(0, 0, .pointer (some ⟨b, 0, none⟩)), (3, 0, .pointer (some ⟨b1, 0, none⟩)), (8, 0, .pointer (some ⟨b, 0, none⟩)), (9, 0, .func (.func 54) #[.pointer (some ⟨b, 0, none⟩)] #[]), (10, 0, .pointer (some ⟨b, 0, none⟩)), (11, 0, .func (.func 55) #[.pointer (some ⟨b, 0, none⟩)] #[]), (12, 0, .agg #[.func (.func 54) #[.pointer (some ⟨b, 0, none⟩)] #[], .func (.func 55) #[.pointer (some ⟨b, 0, none⟩)] #[]]), (13, 0, .pointer (some ⟨b, 0, none⟩)), (14, 0, .pointer (some ⟨b, 0, none⟩)), (15, 0, .pointer (some ⟨b, 2, none⟩)), (16, 0, .slice (some ⟨cb, 0, none⟩) nu nu), (17, 0, .int .i64 ((nu : Nat) : Int)), (18, 0, .int .i64 ((nu + 1 : Nat) : Int)), (19, 0, .int .i64 ((r : Nat) : Int)), (20, 0, .bool (decide (((r : Nat) : Int) < ((nu + 1 : Nat) : Int)))), (21, 0, .pointer (some ⟨b, 0, none⟩)), (22, 0, .pointer (some ⟨b, 0, none⟩)), (23, 0, .pointer (some ⟨b, 0, none⟩)), (24, 0, .slice ea m ec), (25, 0, .int .i64 ((m : Nat) : Int)), (26, 0, .int .i64 ((q_.1 : Nat) : Int)), (4, 0, .bool q_.2.2.2)]) (Hf := fun q_ => [Item.cells b [.slice ea m ec, .slice fa q fc, .slice (some ⟨cb, 0, none⟩) nu nu, .slice (some ⟨lb, 0, none⟩) nu nu] 67, Item.own w0.heap.size (some ⟨cb, 0, none⟩) nu nu 3 1 (cellsOf encI (q_.2.1)), Item.own w0.heap.size (some ⟨lb, 0, none⟩) nu nu 3 1 (cellsOf encI (q_.2.2.1)), X, Item.cells b1 [.func (.func 54) #[.pointer (some ⟨b, 0, none⟩)] #[], .func (.func 55) #[.pointer (some ⟨b, 0, none⟩)] #[]] 88]) (I := fun q_ => q_.1 ≤ m ∧ sweep l f C La q_.1 = (q_.2.1, q_.2.2.1, q_.2.2.2) ∧ Bd nu (lo - (r : Int) * 17592186044416 - ((q_.1 : Nat) : Int) * 8589934592) q_.2.1 ∧ q_.2.2.1.length = nu) (μ := fun q_ => m - q_.1) (s := (i, D, M, mo)) 5 ((i + 1, X_, Y_, mx)) ⟨⟨(by first | omega | (dsimp only; omega)), sweep_next hsw (by rw [← hst, show jj_ = 2 from by omega]), hX.mono (by first | omega | (dsimp only; omega)), hY⟩, by first | omega | (dsimp only; omega)⟩ ⟨rfl, rfl, rfl, rfl, rfl, rfl, rfl, rfl, rfl, rfl, rfl, rfl, rfl, rfl, rfl, rfl, rfl, rfl, rfl, rfl, rfl, rfl, rfl, rfl, rfl, rfl, rfl, rfl, rfl, rfl, rfl, rfl, rfl, rfl, rfl, rfl, rfl, rfl, rfl, rfl, rfl, rfl, rfl, rfl, trivial⟩ rfl
    · try simp only [Bool.and_eq_true, Bool.or_eq_true, Bool.not_eq_true', Bool.not_eq_false', Bool.and_eq_false_iff, Bool.or_eq_false_iff, decide_eq_true_eq, decide_eq_false_iff_not, Int.not_lt, Int.not_le, ne_eq, Decidable.not_not] at h2
      refine WC.exit ?_
      refine QX.exit_then ?_
      refine QX.exit_then ?_
      refine QX.exit_hit ?_
      refine QX.then_ ?_
      refine WC.seq ?_
      refine WC.region ?_
      refine SL.pure rfl rfl rfl (PureOp.move rfl) ?_
      refine SL.pure rfl rfl rfl (PureOp.not rfl) ?_
      refine SL.nil_then ?_
      refine WC.cond rfl (fun h6 => ?_) (fun h6 => ?_)
      · try simp only [Bool.and_eq_true, Bool.or_eq_true, Bool.not_eq_true', Bool.not_eq_false', Bool.and_eq_false_iff, Bool.or_eq_false_iff, decide_eq_true_eq, decide_eq_false_iff_not, Int.not_lt, Int.not_le, ne_eq, Decidable.not_not] at h6
        refine WC.seq ?_
        refine WC.region ?_
        refine SL.pure rfl rfl rfl (PureOp.assign rfl) ?_
        refine SL.nil_then ?_
        refine WC.ret ?_
        refine QX.ret_in ?_
        refine QX.ret_then ?_
        refine QX.ret_then ?_
        refine QX.ret_in ?_
        refine QX.ret_then ?_
        refine QX.body1 rfl rfl ?_
        intro w hw
        have e : runF l f (nu + 1) c la = (D, M, true) := by rw [← hrun, show nu + 1 - r = (nu + 1 - (r + 1)) + 1 from by omega, run_stop (D := D) (M := M) (by rw [← hm, show m = i from by omega, hsw, h6])]
        refine ⟨(), by rw [e], ⟨by rw [e]; exact hD.mono (by omega), by rw [e]; exact hMl⟩, ?_⟩
        rw [e]
        exact HeapOk.pick [0, 1, 2, 3] (by decide) hw
      · try simp only [Bool.and_eq_true, Bool.or_eq_true, Bool.not_eq_true', Bool.not_eq_false', Bool.and_eq_false_iff, Bool.or_eq_false_iff, decide_eq_true_eq, decide_eq_false_iff_not, Int.not_lt, Int.not_le, ne_eq, Decidable.not_not] at h6
        refine WC.skip ?_
        refine QX.normal_in ?_
        refine QX.then_ ?_
        refine WC.region ?_
        refine SL.pure rfl rfl rfl (PureOp.addN (k := 1) rfl rfl (fun _ => by omega)) ?_
        refine SL.pure rfl rfl rfl (PureOp.move rfl) ?_
        refine SL.nil ?_
        refine QX.round (σ := Nat × List Int × List Int) (Ef := fun q_ => [(0, 0, .pointer (some ⟨b, 0, none⟩)), (3, 0, .pointer (some ⟨b1, 0, none⟩)), (8, 0, .pointer (some ⟨b, 0, none⟩)), (9, 0, .func (.func 54) #[.pointer (some ⟨b, 0, none⟩)] #[]), (10, 0, .pointer (some ⟨b, 0, none⟩)), (11, 0, .func (.func 55) #[.pointer (some ⟨b, 0, none⟩)] #[]), (12, 0, .agg #[.func (.func 54) #[.pointer (some ⟨b, 0, none⟩)] #[], .func (.func 55) #[.pointer (some ⟨b, 0, none⟩)] #[]]), (13, 0, .pointer (some ⟨b, 0, none⟩)), (14, 0, .pointer (some ⟨b, 0, none⟩)), (15, 0, .pointer (some ⟨b, 2, none⟩)), (16, 0, .slice (some ⟨cb, 0, none⟩) nu nu), (17, 0, .int .i64 ((nu : Nat) : Int)), (18, 0, .int .i64 ((nu + 1 : Nat) : Int)), (19, 0, .int .i64 ((q_.1 : Nat) : Int))]) (Hf := fun q_ => [Item.cells b [.slice ea m ec, .slice fa q fc, .slice (some ⟨cb, 0, none⟩) nu nu, .slice (some ⟨lb, 0, none⟩) nu nu] 67, Item.own w0.heap.size (some ⟨cb, 0, none⟩) nu nu 3 1 (cellsOf encI (q_.2.1)), Item.own w0.heap.size (some ⟨lb, 0, none⟩) nu nu 3 1 (cellsOf encI (q_.2.2)), X, Item.cells b1 [.func (.func 54) #[.pointer (some ⟨b, 0, none⟩)] #[], .func (.func 55) #[.pointer (some ⟨b, 0, none⟩)] #[]] 88]) (I := fun q_ => q_.1 ≤ nu + 1 ∧ runF l f (nu + 1 - q_.1) q_.2.1 q_.2.2 = runF l f (nu + 1) c la ∧ Bd nu (lo - ((q_.1 : Nat) : Int) * 17592186044416) q_.2.1 ∧ q_.2.2.length = nu) (μ := fun q_ => nu + 1 - q_.1) (s := (r, C, La)) 5 ((r + 1, D, M)) ⟨⟨(by first | omega | (dsimp only; omega)), by rw [← hrun, show nu + 1 - r = (nu + 1 - (r + 1)) + 1 from by omega, run_more (D := D) (M := M) (by rw [← hm, show m = i from by omega, hsw, h6])], hD.mono (by first | omega | (dsimp only; omega)), hMl⟩, by first | omega | (dsimp only; omega)⟩ ⟨rfl, rfl, rfl, rfl, rfl, rfl, rfl, rfl, rfl, rfl, rfl, rfl, rfl, rfl, rfl, rfl, rfl, rfl, rfl, rfl, rfl, rfl, rfl, rfl, rfl, rfl, rfl, rfl, trivial⟩ rfl
  · try simp only [Bool.and_eq_true, Bool.or_eq_true, Bool.not_eq_true', Bool.not_eq_false', Bool.and_eq_false_iff, Bool.or_eq_false_iff, decide_eq_true_eq, decide_eq_false_iff_not, Int.not_lt, Int.not_le, ne_eq, Decidable.not_not] at h1
    refine WC.exit ?_
    refine QX.exit_then ?_
    refine QX.exit_then ?_
    refine QX.exit_hit ?_
    refine QX.then_ ?_
    refine WC.seq ?_
    refine WC.region ?_
    refine SL.pure rfl rfl rfl (PureOp.assign rfl) ?_
    refine SL.nil_then ?_
    refine WC.ret ?_
    refine QX.body1 rfl rfl ?_
    intro w hw
    have e : runF l f (nu + 1) c la = (C, La, false) := by rw [← hrun, show nu + 1 - r = 0 from by omega]; rfl
    refine ⟨(), by rw [e], ⟨by rw [e]; exact hC.mono (by omega), by rw [e]; exact hLa⟩, ?_⟩
    rw [e]
    exact HeapOk.pick [0, 1, 2, 3] (by decide) hw

set_option maxHeartbeats 4000000 in
set_option maxRecDepth 100000 in
theorem runo_ok (b nu : Nat) (l : List Ed) (ea : Option Addr) (m ec : Nat) (hm : m = l.length) (hmb : m ≤ 2048) (f : List Int) (fa : Option Addr) (q fc : Nat) (hq : q = f.length) (hqm : q = m) (c la : List Int) (cb lb : Nat) (lo : Int) (hE : EdOk nu l) (hc : Bd nu lo c) (hla : la.length = nu) (hlo : -1152921504606846976 ≤ lo) (hn : nu ≤ 128) (hlo2 : -576460752303423488 ≤ lo) (w0 : World) (sE : SliceIn w0 4 ea m ec (rowsF encEd l)) : MC Try.prog 42 [.pointer (some ⟨b, 0, none⟩)] w0 [Item.cells b [.slice ea m ec, .slice fa q fc, .slice (some ⟨cb, 0, none⟩) nu nu, .slice (some ⟨lb, 0, none⟩) nu nu] 67, Item.own w0.heap.size (some ⟨cb, 0, none⟩) nu nu 3 1 (cellsOf encI c), Item.own w0.heap.size (some ⟨lb, 0, none⟩) nu nu 3 1 (cellsOf encI la), Item.own w0.heap.size fa q fc 3 1 (cellsOf encI f)] (fun _ : Unit => .bool (runF l f (nu + 1) c la).2.2) (fun _ => [Item.cells b [.slice ea m ec, .slice fa q fc, .slice (some ⟨cb, 0, none⟩) nu nu, .slice (some ⟨lb, 0, none⟩) nu nu] 67, Item.own w0.heap.size (some ⟨cb, 0, none⟩) nu nu 3 1 (cellsOf encI ((runF l f (nu + 1) c la).1)), Item.own w0.heap.size (some ⟨lb, 0, none⟩) nu nu 3 1 (cellsOf encI ((runF l f (nu + 1) c la).2.1)), Item.own w0.heap.size fa q fc 3 1 (cellsOf encI f)]) (fun _ => Bd nu (-1152921504606846976) (runF l f (nu + 1) c la).1 ∧ (runF l f (nu + 1) c la).2.1.length = nu) (fun _ => []) := by
  refine mcalls (N := 41) Try.func42 rfl rfl rfl ?_
  intro X
  show WC _ _ _ _ _ _ _ [Item.cells b [.slice ea m ec, .slice fa q fc, .slice (some ⟨cb, 0, none⟩) nu nu, .slice (some ⟨lb, 0, none⟩) nu nu] 67, Item.own w0.heap.size (some ⟨cb, 0, none⟩) nu nu 3 1 (cellsOf encI c), Item.own w0.heap.size (some ⟨lb, 0, none⟩) nu nu 3 1 (cellsOf encI la), Item.own w0.heap.size fa q fc 3 1 (cellsOf encI f), X]
  refine WC.seq ?_
  refine WC.region ?_
  refine SL.pure rfl rfl rfl (PureOp.assign rfl) ?_
  refine SL.nil_then ?_
  refine WC.seq ?_
  refine WC.region ?_
  refine SL.pure rfl rfl rfl (PureOp.move rfl) ?_
  refine SL.pure rfl rfl rfl (PureOp.makeFunc rfl rfl) ?_
  refine SL.pure rfl rfl rfl (PureOp.move rfl) ?_
  refine SL.pure rfl rfl rfl (PureOp.makeFunc rfl rfl) ?_
  refine SL.pure rfl rfl rfl (PureOp.build bld88 rfl rfl) ?_
  refine SL.alloc rfl rfl zero88 (fun b1 hb1 => ?_)
  refine SL.norm [_, _, _, _, _, _] rfl ?_
  refine SL.store 5 rfl rfl rfl rfl sz88 rfl rfl ?_
  refine SL.norm [_, _, _, _, _, _] rfl ?_
  refine SL.nil_then ?_
  refine WC.seq ?_
  refine WC.seq ?_
  refine WC.region ?_
  refine SL.pure rfl rfl rfl (PureOp.move rfl) ?_
  refine SL.pure rfl rfl rfl (PureOp.nilCheckp rfl) ?_
  refine SL.pure rfl rfl rfl (PureOp.fieldAddrT 2 Try.underlying67 rfl sz29 rfl rfl) ?_
  refine SL.pure rfl rfl rfl (PureOp.load (v := .slice (some ⟨cb, 0, none⟩) nu nu) Try.underlying29 rfl rfl (fun _ => (CellIs.cells 0 rfl rfl))) ?_
  refine SL.pure rfl rfl rfl (PureOp.len rfl Try.underlying29) ?_
  refine SL.pure rfl rfl rfl (PureOp.addN (k := 1) rfl rfl (fun _ => by omega)) ?_
  refine SL.pure rfl rfl rfl (PureOp.move rfl) ?_
  refine SL.nil_then ?_
  refine WC.block ?_
  refine WC.loop (σ := Nat × List Int × List Int) (fun q_ => [(0, 0, .pointer (some ⟨b, 0, none⟩)), (3, 0, .pointer (some ⟨b1, 0, none⟩)), (8, 0, .pointer (some ⟨b, 0, none⟩)), (9, 0, .func (.func 54) #[.pointer (some ⟨b, 0, none⟩)] #[]), (10, 0, .pointer (some ⟨b, 0, none⟩)), (11, 0, .func (.func 55) #[.pointer (some ⟨b, 0, none⟩)] #[]), (12, 0, .agg #[.func (.func 54) #[.pointer (some ⟨b, 0, none⟩)] #[], .func (.func 55) #[.pointer (some ⟨b, 0, none⟩)] #[]]), (13, 0, .pointer (some ⟨b, 0, none⟩)), (14, 0, .pointer (some ⟨b, 0, none⟩)), (15, 0, .pointer (some ⟨b, 2, none⟩)), (16, 0, .slice (some ⟨cb, 0, none⟩) nu nu), (17, 0, .int .i64 ((nu : Nat) : Int)), (18, 0, .int .i64 ((nu + 1 : Nat) : Int)), (19, 0, .int .i64 ((q_.1 : Nat) : Int))]) (fun q_ => [Item.cells b [.slice ea m ec, .slice fa q fc, .slice (some ⟨cb, 0, none⟩) nu nu, .slice (some ⟨lb, 0, none⟩) nu nu] 67, Item.own w0.heap.size (some ⟨cb, 0, none⟩) nu nu 3 1 (cellsOf encI (q_.2.1)), Item.own w0.heap.size (some ⟨lb, 0, none⟩) nu nu 3 1 (cellsOf encI (q_.2.2)), Item.own w0.heap.size fa q fc 3 1 (cellsOf encI f), X, Item.cells b1 [.func (.func 54) #[.pointer (some ⟨b, 0, none⟩)] #[], .func (.func 55) #[.pointer (some ⟨b, 0, none⟩)] #[]] 88]) (fun q_ => q_.1 ≤ nu + 1 ∧ runF l f (nu + 1 - q_.1) q_.2.1 q_.2.2 = runF l f (nu + 1) c la ∧ Bd nu (lo - ((q_.1 : Nat) : Int) * 17592186044416) q_.2.1 ∧ q_.2.2.length = nu) (fun q_ => nu + 1 - q_.1) 6 ((0, c, la)) (⟨Nat.zero_le _, rfl, hc.mono (by omega), hla⟩) ⟨rfl, rfl, rfl, rfl, rfl, rfl, rfl, rfl, rfl, rfl, rfl, rfl, rfl, rfl, rfl, rfl, rfl, rfl, rfl, rfl, rfl, rfl, rfl, rfl, rfl, rfl, rfl, rfl, trivial⟩ rfl ?_
  rintro ⟨r, C, La⟩ ⟨hr, hrun, hC, hLa⟩
  try dsimp only at *
  refine WC.seq ?_
  refine WC.region ?_
  refine SL.pure rfl rfl rfl (PureOp.lss rfl rfl) ?_
  refine SL.nil_then ?_
  refine WC.seq ?_
  refine WC.cond rfl (fun h1 => ?_) (fun h1 => ?_)
  · try simp only [Bool.and_eq_true, Bool.or_eq_true, Bool.not_eq_true', Bool.not_eq_false', Bool.and_eq_false_iff, Bool.or_eq_false_iff, decide_eq_true_eq, decide_eq_false_iff_not, Int.not_lt, Int.not_le, ne_eq, Decidable.not_not] at h1
    refine WC.skip ?_
    refine QX.then_ ?_
    refine WC.seq ?_
    refine WC.block ?_
    refine WC.seq ?_
    refine WC.region ?_
    refine SL.pure rfl rfl rfl (PureOp.assign rfl) ?_
    refine SL.nil_then ?_
    refine WC.seq ?_
    refine WC.seq ?_
    refine WC.region ?_
    refine SL.pure rfl rfl rfl (PureOp.move rfl) ?_
    refine SL.pure rfl rfl rfl (PureOp.nilCheckp rfl) ?_
    refine SL.pure rfl rfl rfl (PureOp.fieldAddrT 0 Try.underlying67 rfl sz22 rfl rfl) ?_
    refine SL.pure rfl rfl rfl (PureOp.load (v := .slice ea m ec) Try.underlying22 rfl rfl (fun _ => (CellIs.cells 0 rfl rfl))) ?_
    refine SL.pure rfl rfl rfl (PureOp.len rfl Try.underlying22) ?_
    refine SL.pure rfl rfl rfl (PureOp.move rfl) ?_
    refine SL.nil_then ?_
    refine WC.block ?_
    refine WC.loop (σ := Nat × List Int × List Int × Bool) (fun q_ => [(0, 0, .pointer (some ⟨b, 0, none⟩)), (3, 0, .pointer (some ⟨b1, 0, none⟩)), (8, 0, .pointer (some ⟨b, 0, none⟩)), (9, 0, .func (.func 54) #[.pointer (some ⟨b, 0, none⟩)] #[]), (10, 0, .pointer (some ⟨b, 0, none⟩)), (11, 0, .func (.func 55) #[.pointer (some ⟨b, 0, none⟩)] #[]), (12, 0, .agg #[.func (.func 54) #[.pointer (some ⟨b, 0, none⟩)] #[], .func (.func 55) #[.pointer (some ⟨b, 0, none⟩)] #[]]), (13, 0, .pointer (some ⟨b, 0, none⟩)), (14, 0, .pointer (some ⟨b, 0, none⟩)), (15, 0, .pointer (some ⟨b, 2, none⟩)), (16, 0, .slice (some ⟨cb, 0, none⟩) nu nu), (17, 0, .int .i64 ((nu : Nat) : Int)), (18, 0, .int .i64 ((nu + 1 : Nat) : Int)), (19, 0, .int .i64 ((r : Nat) : Int)), (20, 0, .bool (decide (((r : Nat) : Int) < ((nu + 1 : Nat) : Int)))), (21, 0, .pointer (some ⟨b, 0, none⟩)), (22, 0, .pointer (some ⟨b, 0, none⟩)), (23, 0, .pointer (some ⟨b, 0, none⟩)), (24, 0, .slice ea m ec), (25, 0, .int .i64 ((m : Nat) : Int)), (26, 0, .int .i64 ((q_.1 : Nat) : Int)), (4, 0, .bool q_.2.2.2)]) (fun q_ => [Item.cells b [.slice ea m ec, .slice fa q fc, .slice (some ⟨cb, 0, none⟩) nu nu, .slice (some ⟨lb, 0, none⟩) nu nu] 67, Item.own w0.heap.size (some ⟨cb, 0, none⟩) nu nu 3 1 (cellsOf encI (q_.2.1)), Item.own w0.heap.size (some ⟨lb, 0, none⟩) nu nu 3 1 (cellsOf encI (q_.2.2.1)), Item.own w0.heap.size fa q fc 3 1 (cellsOf encI f), X, Item.cells b1 [.func (.func 54) #[.pointer (some ⟨b, 0, none⟩)] #[], .func (.func 55) #[.pointer (some ⟨b, 0, none⟩)] #[]] 88]) (fun q_ => q_.1 ≤ m ∧ sweep l f C La q_.1 = (q_.2.1, q_.2.2.1, q_.2.2.2) ∧ Bd nu (lo - (r : Int) * 17592186044416 - ((q_.1 : Nat) : Int) * 8589934592) q_.2.1 ∧ q_.2.2.1.length = nu) (fun q_ => m - q_.1) 6 ((0, C, La, false)) (⟨Nat.zero_le _, rfl, hC.mono (by omega), hLa⟩) ⟨rfl, rfl, rfl, rfl, rfl, rfl, rfl, rfl, rfl, rfl, rfl, rfl, rfl, rfl, rfl, rfl, rfl, rfl, rfl, rfl, rfl, rfl, rfl, rfl, rfl, rfl, rfl, rfl, rfl, rfl, rfl, rfl, rfl, rfl, rfl, rfl, rfl, rfl, rfl, rfl, rfl, rfl, rfl, rfl, trivial⟩ rfl ?_
    rintro ⟨i, D, M, mo⟩ ⟨hi, hsw, hD, hMl⟩
    try dsimp only at *
    refine WC.seq ?_
    refine WC.region ?_
    refine SL.pure rfl rfl rfl (PureOp.lss rfl rfl) ?_
    refine SL.nil_then ?_
    refine WC.seq ?_
    refine WC.cond rfl (fun h2 => ?_) (fun h2 => ?_)
    · try simp only [Bool.and_eq_true, Bool.or_eq_true, Bool.not_eq_true', Bool.not_eq_false', Bool.and_eq_false_iff, Bool.or_eq_false_iff, decide_eq_true_eq, decide_eq_false_iff_not, Int.not_lt, Int.not_le, ne_eq, Decidable.not_not] at h2
      refine WC.skip ?_
      refine QX.then_ ?_
      refine WC.seq ?_
      refine WC.block ?_
      refine WC.seq ?_
      refine WC.region ?_
      refine SL.pure rfl rfl rfl (PureOp.move rfl) ?_
      refine SL.pure rfl rfl rfl (PureOp.assign rfl) ?_
      refine SL.nil_then ?_
      refine WC.seq ?_
      refine WC.region ?_
      refine SL.pure rfl rfl rfl (PureOp.loads (vs := [.func (.func 54) #[.pointer (some ⟨b, 0, none⟩)] #[], .func (.func 55) #[.pointer (some ⟨b, 0, none⟩)] #[]]) Try.underlying88 rfl rfl (fun _ => (RowIs.cells 5 0 2 rfl rfl)) sz88) ?_
      refine SL.pure rfl rfl rfl (PureOp.move rfl) ?_
      refine SL.nil_then ?_
      refine WC.block ?_
      refine WC.loop (σ := Nat × List Int × List Int × Bool) (fun q_ => [(0, 0, .pointer (some ⟨b, 0, none⟩)), (3, 0, .pointer (some ⟨b1, 0, none⟩)), (5, 0, .int .i64 ((i : Nat) : Int)), (8, 0, .pointer (some ⟨b, 0, none⟩)), (9, 0, .func (.func 54) #[.pointer (some ⟨b, 0, none⟩)] #[]), (10, 0, .pointer (some ⟨b, 0, none⟩)), (11, 0, .func (.func 55) #[.pointer (some ⟨b, 0, none⟩)] #[]), (12, 0, .agg #[.func (.func 54) #[.pointer (some ⟨b, 0, none⟩)] #[], .func (.func 55) #[.pointer (some ⟨b, 0, none⟩)] #[]]), (13, 0, .pointer (some ⟨b, 0, none⟩)), (14, 0, .pointer (some ⟨b, 0, none⟩)), (15, 0, .pointer (some ⟨b, 2, none⟩)), (16, 0, .slice (some ⟨cb, 0, none⟩) nu nu), (17, 0, .int .i64 ((nu : Nat) : Int)), (18, 0, .int .i64 ((nu + 1 : Nat) : Int)), (19, 0, .int .i64 ((r : Nat) : Int)), (20, 0, .bool (decide (((r : Nat) : Int) < ((nu + 1 : Nat) : Int)))), (21, 0, .pointer (some ⟨b, 0, none⟩)), (22, 0, .pointer (some ⟨b, 0, none⟩)), (23, 0, .pointer (some ⟨b, 0, none⟩)), (24, 0, .slice ea m ec), (25, 0, .int .i64 ((m : Nat) : Int)), (26, 0, .int .i64 ((i : Nat) : Int)), (27, 0, .bool (decide (((i : Nat) : Int) < ((m : Nat) : Int)))), (28, 0, .int .i64 ((i : Nat) : Int)), (29, 0, .agg #[.func (.func 54) #[.pointer (some ⟨b, 0, none⟩)] #[], .func (.func 55) #[.pointer (some ⟨b, 0, none⟩)] #[]]), (30, 0, .int .i64 ((q_.1 : Nat) : Int)), (4, 0, .bool q_.2.2.2)]) (fun q_ => [Item.cells b [.slice ea m ec, .slice fa q fc, .slice (some ⟨cb, 0, none⟩) nu nu, .slice (some ⟨lb, 0, none⟩) nu nu] 67, Item.own w0.heap.size (some ⟨cb, 0, none⟩) nu nu 3 1 (cellsOf encI (q_.2.1)), Item.own w0.heap.size (some ⟨lb, 0, none⟩) nu nu 3 1 (cellsOf encI (q_.2.2.1)), Item.own w0.heap.size fa q fc 3 1 (cellsOf encI f), X, Item.cells b1 [.func (.func 54) #[.pointer (some ⟨b, 0, none⟩)] #[], .func (.func 55) #[.pointer (some ⟨b, 0, none⟩)] #[]] 88]) (fun q_ => q_.1 ≤ 2 ∧ stp l f i q_.1 (D, M, mo) = (q_.2.1, q_.2.2.1, q_.2.2.2) ∧ Bd nu (lo - (r : Int) * 17592186044416 - (i : Int) * 8589934592 - ((q_.1 : Nat) : Int) * 4294967296) q_.2.1 ∧ q_.2.2.1.length = nu) (fun q_ => 2 - q_.1) 6 ((0, D, M, mo)) (⟨Nat.zero_le _, rfl, hD.mono (by omega), hMl⟩) ⟨rfl, rfl, rfl, rfl, rfl, rfl, rfl, rfl, rfl, rfl, rfl, rfl, rfl, rfl, rfl, rfl, rfl, rfl, rfl, rfl, rfl, rfl, rfl, rfl, rfl, rfl, rfl, rfl, rfl, rfl, rfl, rfl, rfl, rfl, rfl, rfl, rfl, rfl, rfl, rfl, rfl, rfl, rfl, rfl, rfl, rfl, rfl, rfl, rfl, rfl, rfl, rfl, rfl, rfl, trivial⟩ rfl ?_
      rintro ⟨jj_, X_, Y_, mx⟩ ⟨hj, hst, hX, hY⟩
      try dsimp only at *
      refine WC.seq ?_
      refine WC.region ?_
      refine SL.pure rfl rfl rfl (PureOp.lss rfl rfl) ?_
      refine SL.nil_then ?_
      refine WC.seq ?_
      refine WC.cond rfl (fun h3 => ?_) (fun h3 => ?_)
      · try simp only [Bool.and_eq_true, Bool.or_eq_true, Bool.not_eq_true', Bool.not_eq_false', Bool.and_eq_false_iff, Bool.or_eq_false_iff, decide_eq_true_eq, decide_eq_false_iff_not, Int.not_lt, Int.not_le, ne_eq, Decidable.not_not] at h3
        rcases (show jj_ = 0 ∨ jj_ = 1 by omega) with rfl | rfl
        · skip
          refine WC.skip ?_
          refine QX.then_ ?_
          refine WC.seq ?_
          refine WC.block ?_
          refine WC.seq ?_
          refine WC.region ?_
          refine SL.pure rfl rfl rfl (PureOp.indexa (v := .func (.func 54) #[.pointer (some ⟨b, 0, none⟩)] #[]) Try.underlying88 Try.underlying87 rfl sz87 rfl rfl (by decide) rfl) ?_
          refine SL.pure rfl rfl rfl (PureOp.assign rfl) ?_
          refine SL.nil_then ?_
          refine WC.seq ?_
          refine WC.region ?_
          refine SL.pure rfl rfl rfl (PureOp.move rfl) ?_
          refine SL.pure rfl rfl rfl (PureOp.move rfl) ?_
          refine SL.callMf [.pointer (some ⟨b, 0, none⟩)] [0, 1, 2, 3] rfl rfl rfl rfl rfl rfl callable54 (by decide) (fwo_ok b nu l ea m ec hm hmb f fa q fc hq hqm X_ Y_ cb lb (lo - (r : Int) * 17592186044416 - (i : Int) * 8589934592 - ((0 : Nat) : Int) * 4294967296) hE hX hY (by omega) hn i (by omega) w0 sE) rfl (fun _ _ => rfl) ?_
          rintro ⟨⟩ _
          refine SL.norm [_, _, _, _, _, _] rfl ?_
          refine SL.nil_then ?_
          refine WC.cond rfl (fun h4 => ?_) (fun h4 => ?_)
          · try simp only [Bool.and_eq_true, Bool.or_eq_true, Bool.not_eq_true', Bool.not_eq_false', Bool.and_eq_false_iff, Bool.or_eq_false_iff, decide_eq_true_eq, decide_eq_false_iff_not, Int.not_lt, Int.not_le, ne_eq, Decidable.not_not] at h4
            refine WC.region ?_
            refine SL.pure rfl rfl rfl (PureOp.assign rfl) ?_
            refine SL.nil ?_
            refine QX.normal_in ?_
            refine QX.then_ ?_
            refine WC.region ?_
            refine SL.pure rfl rfl rfl (PureOp.addN (k := 1) rfl rfl (fun _ => by omega)) ?_
            refine SL.pure rfl rfl rfl (PureOp.move rfl) ?_
            refine SL.nil ?_
            refine QX.round (σ := Nat × List Int × List Int × Bool) (Ef := fun q_ => [(0, 0, .pointer (some ⟨b, 0, none⟩)), (3, 0, .pointer (some ⟨b1, 0, none⟩)), (5, 0, .int .i64 ((i : Nat) : Int)), (8, 0, .pointer (some ⟨b, 0, none⟩)), (9, 0, .func (.func 54) #[.pointer (some ⟨b, 0, none⟩)] #[]), (10, 0, .pointer (some ⟨b, 0, none⟩)), (11, 0, .func (.func 55) #[.pointer (some ⟨b, 0, none⟩)] #[]), (12, 0, .agg #[.func (.func 54) #[.pointer (some ⟨b, 0, none⟩)] #[], .func (.func 55) #[.pointer (some ⟨b, 0, none⟩)] #[]]), (13, 0, .pointer (some ⟨b, 0, none⟩)), (14, 0, .pointer (some ⟨b, 0, none⟩)), (15, 0, .pointer (some ⟨b, 2, none⟩)), (16, 0, .slice (some ⟨cb, 0, none⟩) nu nu), (17, 0, .int .i64 ((nu : Nat) : Int)), (18, 0, .int .i64 ((nu + 1 : Nat) : Int)), (19, 0, .int .i64 ((r : Nat) : Int)), (20, 0, .bool (decide (((r : Nat) : Int) < ((nu + 1 : Nat) : Int)))), (21, 0, .pointer (some ⟨b, 0, none⟩)), (22, 0, .pointer (some ⟨b, 0, none⟩)), (23, 0, .pointer (some ⟨b, 0, none⟩)), (24, 0, .slice ea m ec), (25, 0, .int .i64 ((m : Nat) : Int)), (26, 0, .int .i64 ((i : Nat) : Int)), (27, 0, .bool (decide (((i : Nat) : Int) < ((m : Nat) : Int)))), (28, 0, .int .i64 ((i : Nat) : Int)), (29, 0, .agg #[.func (.func 54) #[.pointer (some ⟨b, 0, none⟩)] #[], .func (.func 55) #[.pointer (some ⟨b, 0, none⟩)] #[]]), (30, 0, .int .i64 ((q_.1 : Nat) : Int)), (4, 0, .bool q_.2.2.2)]) (Hf := fun q_ => [Item.cells b [.slice ea m ec, .slice fa q fc, .slice (some ⟨cb, 0, none⟩) nu nu, .slice (some ⟨lb, 0, none⟩) nu nu] 67, Item.own w0.heap.size (some ⟨cb, 0, none⟩) nu nu 3 1 (cellsOf encI (q_.2.1)), Item.own w0.heap.size (some ⟨lb, 0, none⟩) nu nu 3 1 (cellsOf encI (q_.2.2.1)), Item.own w0.heap.size fa q fc 3 1 (cellsOf encI f), X, Item.cells b1 [.func (.func 54) #[.pointer (some ⟨b, 0, none⟩)] #[], .func (.func 55) #[.pointer (some ⟨b, 0, none⟩)] #[]] 88]) (I := fun q_ => q_.1 ≤ 2 ∧ stp l f i q_.1 (D, M, mo) = (q_.2.1, q_.2.2.1, q_.2.2.2) ∧ Bd nu (lo - (r : Int) * 17592186044416 - (i : Int) * 8589934592 - ((q_.1 : Nat) : Int) * 4294967296) q_.2.1 ∧ q_.2.2.1.length = nu) (μ := fun q_ => 2 - q_.1) (s := (0, X_, Y_, mx)) 6 ((0 + 1, fwS l f i X_, fwL l f i X_ Y_, true)) ⟨⟨(by first | omega | (dsimp only; omega)), stp_fw hst (by simp_all), (fwS_bd hE (by omega) hX).mono (by first | omega | (dsimp only; omega)), by show (fwL l f i X_ Y_).length = nu; rw [fwL_len]; exact hY⟩, by first | omega | (dsimp only; omega)⟩ ⟨rfl, rfl, rfl, rfl, rfl, rfl, rfl, rfl, rfl, rfl, rfl, rfl, rfl, rfl, rfl, rfl, rfl, rfl, rfl, rfl, rfl, rfl, rfl, rfl, rfl, rfl, rfl, rfl, rfl, rfl, rfl, rfl, rfl, rfl, rfl, rfl, rfl, rfl, rfl, rfl, rfl, rfl, rfl, rfl, rfl, rfl, rfl, rfl, rfl, rfl, rfl, rfl, rfl, rfl, trivial⟩ rfl
          · try simp only [Bool.and_eq_true, Bool.or_eq_true, Bool.not_eq_true', Bool.not_eq_false', Bool.and_eq_false_iff, Bool.or_eq_false_iff, decide_eq_true_eq, decide_eq_false_iff_not, Int.not_lt, Int.not_le, ne_eq, Decidable.not_not] at h4
            refine WC.skip ?_
            refine QX.normal_in ?_
            refine QX.then_ ?_
            refine WC.region ?_
            refine SL.pure rfl rfl rfl (PureOp.addN (k := 1) rfl rfl (fun _ => by omega)) ?_
            refine SL.pure rfl rfl rfl (PureOp.move rfl) ?_
            refine SL.nil ?_
            refine QX.round (σ := Nat × List Int × List Int × Bool) (Ef := fun q_ => [(0, 0, .pointer (some ⟨b, 0, none⟩)), (3, 0, .pointer (some ⟨b1, 0, none⟩)), (5, 0, .int .i64 ((i : Nat) : Int)), (8, 0, .pointer (some ⟨b, 0, none⟩)), (9, 0, .func (.func 54) #[.pointer (some ⟨b, 0, none⟩)] #[]), (10, 0, .pointer (some ⟨b, 0, none⟩)), (11, 0, .func (.func 55) #[.pointer (some ⟨b, 0, none⟩)] #[]), (12, 0, .agg #[.func (.func 54) #[.pointer (some ⟨b, 0, none⟩)] #[], .func (.func 55) #[.pointer (some ⟨b, 0, none⟩)] #[]]), (13, 0, .pointer (some ⟨b, 0, none⟩)), (14, 0, .pointer (some ⟨b, 0, none⟩)), (15, 0, .pointer (some ⟨b, 2, none⟩)), (16, 0, .slice (some ⟨cb, 0, none⟩) nu nu), (17, 0, .int .i64 ((nu : Nat) : Int)), (18, 0, .int .i64 ((nu + 1 : Nat) : Int)), (19, 0, .int .i64 ((r : Nat) : Int)), (20, 0, .bool (decide (((r : Nat) : Int) < ((nu + 1 : Nat) : Int)))), (21, 0, .pointer (some ⟨b, 0, none⟩)), (22, 0, .pointer (some ⟨b, 0, none⟩)), (23, 0, .pointer (some ⟨b, 0, none⟩)), (24, 0, .slice ea m ec), (25, 0, .int .i64 ((m : Nat) : Int)), (26, 0, .int .i64 ((i : Nat) : Int)), (27, 0, .bool (decide (((i : Nat) : Int) < ((m : Nat) : Int)))), (28, 0, .int .i64 ((i : Nat) : Int)), (29, 0, .agg #[.func (.func 54) #[.pointer (some ⟨b, 0, none⟩)] #[], .func (.func 55) #[.pointer (some ⟨b, 0, none⟩)] #[]]), (30, 0, .int .i64 ((q_.1 : Nat) : Int)), (4, 0, .bool q_.2.2.2)]) (Hf := fun q_ => [Item.cells b [.slice ea m ec, .slice fa q fc, .slice (some ⟨cb, 0, none⟩) nu nu, .slice (some ⟨lb, 0, none⟩) nu nu] 67, Item.own w0.heap.size (some ⟨cb, 0, none⟩) nu nu 3 1 (cellsOf encI (q_.2.1)), Item.own w0.heap.size (some ⟨lb, 0, none⟩) nu nu 3 1 (cellsOf encI (q_.2.2.1)), Item.own w0.heap.size fa q fc 3 1 (cellsOf encI f), X, Item.cells b1 [.func (.func 54) #[.pointer (some ⟨b, 0, none⟩)] #[], .func (.func 55) #[.pointer (some ⟨b, 0, none⟩)] #[]] 88]) (I := fun q_ => q_.1 ≤ 2 ∧ stp l f i q_.1 (D, M, mo) = (q_.2.1, q_.2.2.1, q_.2.2.2) ∧ Bd nu (lo - (r : Int) * 17592186044416 - (i : Int) * 8589934592 - ((q_.1 : Nat) : Int) * 4294967296) q_.2.1 ∧ q_.2.2.1.length = nu) (μ := fun q_ => 2 - q_.1) (s := (0, X_, Y_, mx)) 6 ((0 + 1, fwS l f i X_, fwL l f i X_ Y_, mx)) ⟨⟨(by first | omega | (dsimp only; omega)), stp_fw hst (by simp_all), (fwS_bd hE (by omega) hX).mono (by first | omega | (dsimp only; omega)), by show (fwL l f i X_ Y_).length = nu; rw [fwL_len]; exact hY⟩, by first | omega | (dsimp only; omega)⟩ ⟨rfl, rfl, rfl, rfl, rfl, rfl, rfl, rfl, rfl, rfl, rfl, rfl, rfl, rfl, rfl, rfl, rfl, rfl, rfl, rfl, rfl, rfl, rfl, rfl, rfl, rfl, rfl, rfl, rfl, rfl, rfl, rfl, rfl, rfl, rfl, rfl, rfl, rfl, rfl, rfl, rfl, rfl, rfl, rfl, rfl, rfl, rfl, rfl, rfl, rfl, rfl, rfl, rfl, rfl, trivial⟩ rfl
        · skip
          refine WC.skip ?_
          refine QX.then_ ?_
          refine WC.seq ?_
          refine WC.block ?_
          refine WC.seq ?_
          refine WC.region ?_
          refine SL.pure rfl rfl rfl (PureOp.indexa (v := .func (.func 55) #[.pointer (some ⟨b, 0, none⟩)] #[]) Try.underlying88 Try.underlying87 rfl sz87 rfl rfl (by decide) rfl) ?_
          refine SL.pure rfl rfl rfl (PureOp.assign rfl) ?_
          refine SL.nil_then ?_
          refine WC.seq ?_
          refine WC.region ?_
          refine SL.pure rfl rfl rfl (PureOp.move rfl) ?_
          refine SL.pure rfl rfl rfl (PureOp.move rfl) ?_
          refine SL.callMf [.pointer (some ⟨b, 0, none⟩)] [0, 1, 2, 3] rfl rfl rfl rfl rfl rfl callable55 (by decide) (bwo_ok b nu l ea m ec hm hmb f fa q fc hq hqm X_ Y_ cb lb (lo - (r : Int) * 17592186044416 - (i : Int) * 8589934592 - ((1 : Nat) : Int) * 4294967296) hE hX hY (by omega) hn i (by omega) w0 sE) rfl (fun _ _ => rfl) ?_
          rintro ⟨⟩ _
          refine SL.norm [_, _, _, _, _, _] rfl ?_
          refine SL.nil_then ?_
          refine WC.cond rfl (fun h5 => ?_) (fun h5 => ?_)
          · try simp only [Bool.and_eq_true, Bool.or_eq_true, Bool.not_eq_true', Bool.not_eq_false', Bool.and_eq_false_iff, Bool.or_eq_false_iff, decide_eq_true_eq, decide_eq_false_iff_not, Int.not_lt, Int.not_le, ne_eq, Decidable.not_not] at h5
            refine WC.region ?_
            refine SL.pure rfl rfl rfl (PureOp.assign rfl) ?_
            refine SL.nil ?_
            refine QX.normal_in ?_
            refine QX.then_ ?_
            refine WC.region ?_
            refine SL.pure rfl rfl rfl (PureOp.addN (k := 1) rfl rfl (fun _ => by omega)) ?_
            refine SL.pure rfl rfl rfl (PureOp.move rfl) ?_
            refine SL.nil ?_
            refine QX.round (σ := Nat × List Int × List Int × Bool) (Ef := fun q_ => [(0, 0, .pointer (some ⟨b, 0, none⟩)), (3, 0, .pointer (some ⟨b1, 0, none⟩)), (5, 0, .int .i64 ((i : Nat) : Int)), (8, 0, .pointer (some ⟨b, 0, none⟩)), (9, 0, .func (.func 54) #[.pointer (some ⟨b, 0, none⟩)] #[]), (10, 0, .pointer (some ⟨b, 0, none⟩)), (11, 0, .func (.func 55) #[.pointer (some ⟨b, 0, none⟩)] #[]), (12, 0, .agg #[.func (.func 54) #[.pointer (some ⟨b, 0, none⟩)] #[], .func (.func 55) #[.pointer (some ⟨b, 0, none⟩)] #[]]), (13, 0, .pointer (some ⟨b, 0, none⟩)), (14, 0, .pointer (some ⟨b, 0, none⟩)), (15, 0, .pointer (some ⟨b, 2, none⟩)), (16, 0, .slice (some ⟨cb, 0, none⟩) nu nu), (17, 0, .int .i64 ((nu : Nat) : Int)), (18, 0, .int .i64 ((nu + 1 : Nat) : Int)), (19, 0, .int .i64 ((r : Nat) : Int)), (20, 0, .bool (decide (((r : Nat) : Int) < ((nu + 1 : Nat) : Int)))), (21, 0, .pointer (some ⟨b, 0, none⟩)), (22, 0, .pointer (some ⟨b, 0, none⟩)), (23, 0, .pointer (some ⟨b, 0, none⟩)), (24, 0, .slice ea m ec), (25, 0, .int .i64 ((m : Nat) : Int)), (26, 0, .int .i64 ((i : Nat) : Int)), (27, 0, .bool (decide (((i : Nat) : Int) < ((m : Nat) : Int)))), (28, 0, .int .i64 ((i : Nat) : Int)), (29, 0, .agg #[.func (.func 54) #[.pointer (some ⟨b, 0, none⟩)] #[], .func (.func 55) #[.pointer (some ⟨b, 0, none⟩)] #[]]), (30, 0, .int .i64 ((q_.1 : Nat) : Int)), (4, 0, .bool q_.2.2.2)]) (Hf := fun q_ => [Item.cells b [.slice ea m ec, .slice fa q fc, .slice (some ⟨cb, 0, none⟩) nu nu, .slice (some ⟨lb, 0, none⟩) nu nu] 67, Item.own w0.heap.size (some ⟨cb, 0, none⟩) nu nu 3 1 (cellsOf encI (q_.2.1)), Item.own w0.heap.size (some ⟨lb, 0, none⟩) nu nu 3 1 (cellsOf encI (q_.2.2.1)), Item.own w0.heap.size fa q fc 3 1 (cellsOf encI f), X, Item.cells b1 [.func (.func 54) #[.pointer (some ⟨b, 0, none⟩)] #[], .func (.func 55) #[.pointer (some ⟨b, 0, none⟩)] #[]] 88]) (I := fun q_ => q_.1 ≤ 2 ∧ stp l f i q_.1 (D, M, mo) = (q_.2.1, q_.2.2.1, q_.2.2.2) ∧ Bd nu (lo - (r : Int) * 17592186044416 - (i : Int) * 8589934592 - ((q_.1 : Nat) : Int) * 4294967296) q_.2.1 ∧ q_.2.2.1.length = nu) (μ := fun q_ => 2 - q_.1) (s := (1, X_, Y_, mx)) 6 ((1 + 1, bwS l f i X_, bwL l f i X_ Y_, true)) ⟨⟨(by first | omega | (dsimp only; omega)), stp_bw hst (by simp_all), (bwS_bd hE (by omega) hX).mono (by first | omega | (dsimp only; omega)), by show (bwL l f i X_ Y_).length = nu; rw [bwL_len]; exact hY⟩, by first | omega | (dsimp only; omega)⟩ ⟨rfl, rfl, rfl, rfl, rfl, rfl, rfl, rfl, rfl, rfl, rfl, rfl, rfl, rfl, rfl, rfl, rfl, rfl, rfl, rfl, rfl, rfl, rfl, rfl, rfl, rfl, rfl, rfl, rfl, rfl, rfl, rfl, rfl, rfl, rfl, rfl, rfl, rfl, rfl, rfl, rfl, rfl, rfl, rfl, rfl, rfl, rfl, rfl, rfl, rfl, rfl, rfl, rfl, rfl, trivial⟩ rfl
          · try simp only [Bool.and_eq_true, Bool.or_eq_true, Bool.not_eq_true', Bool.not_eq_false', Bool.and_eq_false_iff, Bool.or_eq_false_iff, decide_eq_true_eq, decide_eq_false_iff_not, Int.not_lt, Int.not_le, ne_eq, Decidable.not_not] at h5
            refine WC.skip ?_
            refine QX.normal_in ?_
            refine QX.then_ ?_
            refine WC.region ?_
            refine SL.pure rfl rfl rfl (PureOp.addN (k := 1) rfl rfl (fun _ => by omega)) ?_
            refine SL.pure rfl rfl rfl (PureOp.move rfl) ?_
            refine SL.nil ?_
            refine QX.round (σ := Nat × List Int × List Int × Bool) (Ef := fun q_ => [(0, 0, .pointer (some ⟨b, 0, none⟩)), (3, 0, .pointer (some ⟨b1, 0, none⟩)), (5, 0, .int .i64 ((i : Nat) : Int)), (8, 0, .pointer (some ⟨b, 0, none⟩)), (9, 0, .func (.func 54) #[.pointer (some ⟨b, 0, none⟩)] #[]), (10, 0, .pointer (some ⟨b, 0, none⟩)), (11, 0, .func (.func 55) #[.pointer (some ⟨b, 0, none⟩)] #[]), (12, 0, .agg #[.func (.func 54) #[.pointer (some ⟨b, 0, none⟩)] #[], .func (.func 55) #[.pointer (some ⟨b, 0, none⟩)] #[]]), (13, 0, .pointer (some ⟨b, 0, none⟩)), (14, 0, .pointer (some ⟨b, 0, none⟩)), (15, 0, .pointer (some ⟨b, 2, none⟩)), (16, 0, .slice (some ⟨cb, 0, none⟩) nu nu), (17, 0, .int .i64 ((nu : Nat) : Int)), (18, 0, .int .i64 ((nu + 1 : Nat) : Int)), (19, 0, .int .i64 ((r : Nat) : Int)), (20, 0, .bool (decide (((r : Nat) : Int) < ((nu + 1 : Nat) : Int)))), (21, 0, .pointer (some ⟨b, 0, none⟩)), (22, 0, .pointer (some ⟨b, 0, none⟩)), (23, 0, .pointer (some ⟨b, 0, none⟩)), (24, 0, .slice ea m ec), (25, 0, .int .i64 ((m : Nat) : Int)), (26, 0, .int .i64 ((i : Nat) : Int)), (27, 0, .bool (decide (((i : Nat) : Int) < ((m : Nat) : Int)))), (28, 0, .int .i64 ((i : Nat) : Int)), (29, 0, .agg #[.func (.func 54) #[.pointer (some ⟨b, 0, none⟩)] #[], .func (.func 55) #[.pointer (some ⟨b, 0, none⟩)] #[]]), (30, 0, .int .i64 ((q_.1 : Nat) : Int)), (4, 0, .bool q_.2.2.2)]) (Hf := fun q_ => [Item.cells b [.slice ea m ec, .slice fa q fc, .slice (some ⟨cb, 0, none⟩) nu nu, .slice (some ⟨lb, 0, none⟩) nu nu] 67, Item.own w0.heap.size (some ⟨cb, 0, none⟩) nu nu 3 1 (cellsOf encI (q_.2.1)), Item.own w0.heap.size (some ⟨lb, 0, none⟩) nu nu 3 1 (cellsOf encI (q_.2.2.1)), Item.own w0.heap.size fa q fc 3 1 (cellsOf encI f), X, Item.cells b1 [.func (.func 54) #[.pointer (some ⟨b, 0, none⟩)] #[], .func (.func 55) #[.pointer (some ⟨b, 0, none⟩)] #[]] 88]) (I := fun q_ => q_.1 ≤ 2 ∧ stp l f i q_.1 (D, M, mo) = (q_.2.1, q_.2.2.1, q_.2.2.2) ∧ Bd nu (lo - (r : Int) * 17592186044416 - (i : Int) * 8589934592 - ((q_.1 : Nat) : Int) * 4294967296) q_.2.1 ∧ q_.2.2.1.length = nu) (μ := fun q_ => 2 - q_.1) (s := (1, X_, Y_, mx)) 6 ((1 + 1, bwS l f i X_, bwL l f i X_ Y_, mx)) ⟨⟨(by first | omega | (dsimp only; omega)), stp_bw hst (by simp_all), (bwS_bd hE (by omega) hX).mono (by first | omega | (dsimp only; omega)), by show (bwL l f i X_ Y_).length = nu; rw [bwL_len]; exact hY⟩, by first | omega | (dsimp only; omega)⟩ ⟨rfl, rfl, rfl, rfl, rfl, rfl, rfl, rfl, rfl, rfl, rfl, rfl, rfl, rfl, rfl, rfl, rfl, rfl, rfl, rfl, rfl, rfl, rfl, rfl, rfl, rfl, rfl, rfl, rfl, rfl, rfl, rfl, rfl, rfl, rfl, rfl, rfl, rfl, rfl, rfl, rfl, rfl, rfl, rfl, rfl, rfl, rfl, rfl, rfl, rfl, rfl, rfl, rfl, rfl, trivial⟩ rfl
      · try simp only [Bool.and_eq_true, Bool.or_eq_true, Bool.not_eq_true', Bool.not_eq_false', Bool.and_eq_false_iff, Bool.or_eq_false_iff, decide_eq_true_eq, decide_eq_false_iff_not, Int.not_lt, Int.not_le, ne_eq, Decidable.not_not] at h3
        refine WC.exit ?_
        refine QX.exit_then ?_
        refine QX.exit_then ?_
        refine QX.exit_hit ?_
        refine QX.normal_in ?_
        refine QX.then_ ?_
        refine WC.region ?_
        refine SL.pure rfl rfl rfl (PureOp.addN (k := 1) rfl rfl (fun _ => by omega)) ?_
        refine SL.pure rfl rfl rfl (PureOp.move rfl) ?_
        refine SL.nil ?_
        refine QX.round (σ := Nat × List Int × List Int × Bool) (Ef := fun q_ => [(0, 0, .pointer (some ⟨b, 0, none⟩)), (3, 0, .pointer (some ⟨b1, 0, none⟩)), (8, 0, .pointer (some ⟨b, 0, none⟩)), (9, 0, .func (.func 54) #[.pointer (some ⟨b, 0, none⟩)] #[]), (10, 0, .pointer (some ⟨b, 0, none⟩)), (11, 0, .func (.func 55) #[.pointer (some ⟨b, 0, none⟩)] #[]), (12, 0, .agg #[.func (.func 54) #[.pointer (some ⟨b, 0, none⟩)] #[], .func (.func 55) #[.pointer (some ⟨b, 0, none⟩)] #[]]), (13, 0, .pointer (some ⟨b, 0, none⟩)), (14, 0, .pointer (some ⟨b, 0, none⟩)), (15, 0, .pointer (some ⟨b, 2, none⟩)), (16, 0, .slice (some ⟨cb, 0, none⟩) nu nu), (17, 0, .int .i64 ((nu : Nat) : Int)), (18, 0, .int .i64 ((nu + 1 : Nat) : Int)), (19, 0, .int .i64 ((r : Nat) : Int)), (20, 0, .bool (decide (((r : Nat) : Int) < ((nu + 1 : Nat) : Int)))), (21, 0, .pointer (some ⟨b, 0, none⟩)), (22, 0, .pointer (some ⟨b, 0, none⟩)), (23, 0, .pointer (some ⟨b, 0, none⟩)), (24, 0, .slice ea m ec), (25, 0, .int .i64 ((m : Nat) : Int)), (26, 0, .int .i64 ((q_.1 : Nat) : Int)), (4, 0, .bool q_.2.2.2)]) (Hf := fun q_ => [Item.cells b [.slice ea m ec, .slice fa q fc, .slice (some ⟨cb, 0, none⟩) nu nu, .slice (some ⟨lb, 0, none⟩) nu nu] 67, Item.own w0.heap.size (some ⟨cb, 0, none⟩) nu nu 3 1 (cellsOf encI (q_.2.1)), Item.own w0.heap.size (some ⟨lb, 0, none⟩) nu nu 3 1 (cellsOf encI (q_.2.2.1)), Item.own w0.heap.size fa q fc 3 1 (cellsOf encI f), X, Item.cells b1 [.func (.func 54) #[.pointer (some ⟨b, 0, none⟩)] #[], .func (.func 55) #[.pointer (some ⟨b, 0, none⟩)] #[]] 88]) (I := fun q_ => q_.1 ≤ m ∧ sweep l f C La q_.1 = (q_.2.1, q_.2.2.1, q_.2.2.2) ∧ Bd nu (lo - (r : Int) * 17592186044416 - ((q_.1 : Nat) : Int) * 8589934592) q_.2.1 ∧ q_.2.2.1.length = nu) (μ := fun q_ => m - q_.1) (s := (i, D, M, mo)) 6 ((i + 1, X_, Y_, mx)) ⟨⟨(by first | omega | (dsimp only; omega)), sweep_next hsw (by rw [← hst, show jj_ = 2 from by omega]), hX.mono (by first | omega | (dsimp only; omega)), hY⟩, by first | omega | (dsimp only; omega)⟩ ⟨rfl, rfl, rfl, rfl, rfl, rfl, rfl, rfl, rfl, rfl, rfl, rfl, rfl, rfl, rfl, rfl, rfl, rfl, rfl, rfl, rfl, rfl, rfl, rfl, rfl, rfl, rfl, rfl, rfl, rfl, rfl, rfl, rfl, rfl, rfl, rfl, rfl, rfl, rfl, rfl, rfl, rfl, rfl, rfl, trivial⟩ rfl
    · try simp only [Bool.and_eq_true, Bool.or_eq_true, Bool.not_eq_true', Bool.not_eq_false', Bool.and_eq_false_iff, Bool.or_eq_false_iff, decide_eq_true_eq, decide_eq_false_iff_not, Int.not_lt, Int.not_le, ne_eq, Decidable.not_not] at h2
      refine WC.exit ?_
      refine QX.exit_then ?_
      refine QX.exit_then ?_
      refine QX.exit_hit ?_
      refine QX.then_ ?_
      refine WC.seq ?_
      refine WC.region ?_
      refine SL.pure rfl rfl rfl (PureOp.move rfl) ?_
      refine SL.pure rfl rfl rfl (PureOp.not rfl) ?_
      refine SL.nil_then ?_
      refine WC.cond rfl (fun h6 => ?_) (fun h6 => ?_)
      · try simp only [Bool.and_eq_true, Bool.or_eq_true, Bool.not_eq_true', Bool.not_eq_false', Bool.and_eq_false_iff, Bool.or_eq_false_iff, decide_eq_true_eq, decide_eq_false_iff_not, Int.not_lt, Int.not_le, ne_eq, Decidable.not_not] at h6
        refine WC.seq ?_
        refine WC.region ?_
        refine SL.pure rfl rfl rfl (PureOp.assign rfl) ?_
        refine SL.nil_then ?_
        refine WC.ret ?_
        refine QX.ret_in ?_
        refine QX.ret_then ?_
        refine QX.ret_then ?_
        refine QX.ret_in ?_
        refine QX.ret_then ?_
        refine QX.body1 rfl rfl ?_
        intro w hw
        have e : runF l f (nu + 1) c la = (D, M, true) := by rw [← hrun, show nu + 1 - r = (nu + 1 - (r + 1)) + 1 from by omega, run_stop (D := D) (M := M) (by rw [← hm, show m = i from by omega, hsw, h6])]
        refine ⟨(), by rw [e], ⟨by rw [e]; exact hD.mono (by omega), by rw [e]; exact hMl⟩, ?_⟩
        rw [e]
        exact HeapOk.pick [0, 1, 2, 3, 4] (by decide) hw
      · try simp only [Bool.and_eq_true, Bool.or_eq_true, Bool.not_eq_true', Bool.not_eq_false', Bool.and_eq_false_iff, Bool.or_eq_false_iff, decide_eq_true_eq, decide_eq_false_iff_not, Int.not_lt, Int.not_le, ne_eq, Decidable.not_not] at h6
        refine WC.skip ?_
        refine QX.normal_in ?_
        refine QX.then_ ?_
        refine WC.region ?_
        refine SL.pure rfl rfl rfl (PureOp.addN (k := 1) rfl rfl (fun _ => by omega)) ?_
        refine SL.pure rfl rfl rfl (PureOp.move rfl) ?_
        refine SL.nil ?_
        refine QX.round (σ := Nat × List Int × List Int) (Ef := fun q_ => [(0, 0, .pointer (some ⟨b, 0, none⟩)), (3, 0, .pointer (some ⟨b1, 0, none⟩)), (8, 0, .pointer (some ⟨b, 0, none⟩)), (9, 0, .func (.func 54) #[.pointer (some ⟨b, 0, none⟩)] #[]), (10, 0, .pointer (some ⟨b, 0, none⟩)), (11, 0, .func (.func 55) #[.pointer (some ⟨b, 0, none⟩)] #[]), (12, 0, .agg #[.func (.func 54) #[.pointer (some ⟨b, 0, none⟩)] #[], .func (.func 55) #[.pointer (some ⟨b, 0, none⟩)] #[]]), (13, 0, .pointer (some ⟨b, 0, none⟩)), (14, 0, .pointer (some ⟨b, 0, none⟩)), (15, 0, .pointer (some ⟨b, 2, none⟩)), (16, 0, .slice (some ⟨cb, 0, none⟩) nu nu), (17, 0, .int .i64 ((nu : Nat) : Int)), (18, 0, .int .i64 ((nu + 1 : Nat) : Int)), (19, 0, .int .i64 ((q_.1 : Nat) : Int))]) (Hf := fun q_ => [Item.cells b [.slice ea m ec, .slice fa q fc, .slice (some ⟨cb, 0, none⟩) nu nu, .slice (some ⟨lb, 0, none⟩) nu nu] 67, Item.own w0.heap.size (some ⟨cb, 0, none⟩) nu nu 3 1 (cellsOf encI (q_.2.1)), Item.own w0.heap.size (some ⟨lb, 0, none⟩) nu nu 3 1 (cellsOf encI (q_.2.2)), Item.own w0.heap.size fa q fc 3 1 (cellsOf encI f), X, Item.cells b1 [.func (.func 54) #[.pointer (some ⟨b, 0, none⟩)] #[], .func (.func 55) #[.pointer (some ⟨b, 0, none⟩)] #[]] 88]) (I := fun q_ => q_.1 ≤ nu + 1 ∧ runF l f (nu + 1 - q_.1) q_.2.1 q_.2.2 = runF l f (nu + 1) c la ∧ Bd nu (lo - ((q_.1 : Nat) : Int) * 17592186044416) q_.2.1 ∧ q_.2.2.length = nu) (μ := fun q_ => nu + 1 - q_.1) (s := (r, C, La)) 6 ((r + 1, D, M)) ⟨⟨(by first | omega | (dsimp only; omega)), by rw [← hrun, show nu + 1 - r = (nu + 1 - (r + 1)) + 1 from by omega, run_more (D := D) (M := M) (by rw [← hm, show m = i from by omega, hsw, h6])], hD.mono (by first | omega | (dsimp only; omega)), hMl⟩, by first | omega | (dsimp only; omega)⟩ ⟨rfl, rfl, rfl, rfl, rfl, rfl, rfl, rfl, rfl, rfl, rfl, rfl, rfl, rfl, rfl, rfl, rfl, rfl, rfl, rfl, rfl, rfl, rfl, rfl, rfl, rfl, rfl, rfl, trivial⟩ rfl
  · try simp only [Bool.and_eq_true, Bool.or_eq_true, Bool.not_eq_true', Bool.not_eq_false', Bool.and_eq_false_iff, Bool.or_eq_false_iff, decide_eq_true_eq, decide_eq_false_iff_not, Int.not_lt, Int.not_le, ne_eq, Decidable.not_not] at h1
    refine WC.exit ?_
    refine QX.exit_then ?_
    refine QX.exit_then ?_
    refine QX.exit_hit ?_
    refine QX.then_ ?_
    refine WC.seq ?_
    refine WC.region ?_
    refine SL.pure rfl rfl rfl (PureOp.assign rfl) ?_
    refine SL.nil_then ?_
    refine WC.ret ?_
    refine QX.body1 rfl rfl ?_
    intro w hw
    have e : runF l f (nu + 1) c la = (C, La, false) := by rw [← hrun, show nu + 1 - r = 0 from by omega]; rfl
    refine ⟨(), by rw [e], ⟨by rw [e]; exact hC.mono (by omega), by rw [e]; exact hLa⟩, ?_⟩
    rw [e]
    exact HeapOk.pick [0, 1, 2, 3, 4] (by decide) hw

end Go.Proofs.Ytngkbnaehkailaa
