import Derived.Test.YtngkbnaehkailaaRsB
import Derived.Test.YtngkbnaehkailaaFlJ
namespace Go.Proofs.Ytngkbnaehkailaa
open Go Go.RowKit Eng
set_option linter.unusedVariables false
set_option linter.unusedSimpArgs false

set_option maxHeartbeats 4000000 in
set_option maxRecDepth 100000 in
theorem psolve52_bad (w0 : World) (l : List Pa) (la : Option Addr) (m lc : Nat) (hm : m = l.length) (hI : ∀ i, i < m → SliceIn w0 2 (nth l i).2.2.ao (nth l i).2.2.l.length (nth l i).2.2.cap (rowsF enc77 (nth l i).2.2.l)) (sL : SliceIn w0 3 la m lc (rowsF enc55 l)) (c : List Int) (ca : Option Addr) (q cc : Nat) (hq : q = c.length) (sC : SliceIn w0 1 ca q cc (rowsF encI c)) (hbad : rchk l c ≠ 0) : FnC Try.prog 31 [.slice la m lc, .slice ca q cc] w0 fun v w' => v = .tuple #[.slice none 0 0, .int .i64 (rchk l c)] := by
  refine fnc (N := 161) Try.func31 rfl rfl rfl ?_
  refine WC.seq ?_
  refine WC.region ?_
  refine SL.pure rfl rfl rfl (PureOp.assign rfl) ?_
  refine SL.pure rfl rfl rfl (PureOp.assign rfl) ?_
  refine SL.nil_then ?_
  refine WC.seq ?_
  refine WC.seq ?_
  refine WC.region ?_
  refine SL.pure rfl rfl rfl (PureOp.move rfl) ?_
  refine SL.pure rfl rfl rfl (PureOp.move rfl) ?_
  refine SL.calle rfl rfl rfl rfl rfl rfl callable29 (fun w hw => pcheck52_ok w l la m lc hm (fun i hi => (hI i hi).below hw.below) (sL.below hw.below) c ca q cc hq (sC.below hw.below)) ?_
  refine SL.norm [] rfl ?_
  refine SL.pure rfl rfl rfl (PureOp.assign rfl) ?_
  refine SL.nil_then ?_
  refine WC.seq ?_
  refine WC.region ?_
  refine SL.pure rfl rfl rfl (PureOp.move rfl) ?_
  refine SL.pure rfl rfl rfl (PureOp.neq rfl rfl) ?_
  refine SL.nil_then ?_
  refine WC.cond rfl (fun h1 => ?_) (fun h1 => ?_)
  · try simp only [Bool.and_eq_true, Bool.or_eq_true, Bool.not_eq_true', Bool.not_eq_false', Bool.and_eq_false_iff, Bool.or_eq_false_iff, decide_eq_true_eq, decide_eq_false_iff_not, Int.not_lt, Int.not_le, ne_eq, Decidable.not_not] at h1
    refine WC.seq ?_
    refine WC.region ?_
    refine SL.pure rfl rfl rfl (PureOp.move rfl) ?_
    refine SL.pure rfl rfl rfl (PureOp.assign rfl) ?_
    refine SL.pure rfl rfl rfl (PureOp.assign rfl) ?_
    refine SL.nil_then ?_
    refine WC.ret ?_
    refine QX.ret_then ?_
    refine QX.ret2 rfl rfl rfl ?_
    intro w hw
    rfl
  · try simp only [Bool.and_eq_true, Bool.or_eq_true, Bool.not_eq_true', Bool.not_eq_false', Bool.and_eq_false_iff, Bool.or_eq_false_iff, decide_eq_true_eq, decide_eq_false_iff_not, Int.not_lt, Int.not_le, ne_eq, Decidable.not_not] at h1
    exact absurd h1 hbad

set_option maxHeartbeats 4000000 in
set_option maxRecDepth 100000 in
theorem psolve52_ok (w0 : World) (l : List Pa) (la : Option Addr) (m lc : Nat) (hm : m = l.length) (hI : ∀ i, i < m → SliceIn w0 2 (nth l i).2.2.ao (nth l i).2.2.l.length (nth l i).2.2.cap (rowsF enc77 (nth l i).2.2.l)) (sL : SliceIn w0 3 la m lc (rowsF enc55 l)) (c : List Int) (ca : Option Addr) (q cc : Nat) (hq : q = c.length) (sC : SliceIn w0 1 ca q cc (rowsF encI c)) (hok : rchk l c = 0) (hS : wayS l m ≤ 1024) (K0 : Nat) (R : List Int × Int × Int) (hR : slv (edO m q l c m) ((m : Int) + (q : Int) + 1 + 1).toNat 0 ((m : Int) + (q : Int) + 1) (peoT l m) K0 (List.replicate (edO m q l c m).length 0) 0 0 = some R) : MC Try.prog 31 [.slice la m lc, .slice ca q cc] w0 [] (fun y : Option Addr × Nat × List (SliceV Int) × Option Addr × Nat => .tuple #[.slice y.2.2.2.1 m y.2.2.2.2, .int .i64 0]) (fun _ => []) (fun y => PlanIs y.1 (m + q + wayS l m) y.2.1 R.1 l (m + q) m y.2.2.1) (fun y => [Item.own w0.heap.size y.1 (m + q + wayS l m) y.2.1 3 1 (cellsOf encI R.1), Item.own w0.heap.size y.2.2.2.1 m y.2.2.2.2 29 1 (cellsOf encSl y.2.2.1)]) := by
  have hmB : (m : Int) ≤ 9223372036854775807 := by
    have h1 := sL.le; have h2 := sL.max; simp only [maxLen] at h2; omega
  have hOk := PaOk.of hok
  have hnl := hOk.nl
  have hnc := hOk.nc
  have hck := ed_check hm hq hOk hS
  have hpt := peoT_bd (l := l) m (fun k hk => hOk.cnt k (by omega))
  refine mcalls (N := 161) Try.func31 rfl rfl rfl ?_
  intro X
  show WC _ _ _ _ _ _ _ [X]
  refine WC.seq ?_
  refine WC.region ?_
  refine SL.pure rfl rfl rfl (PureOp.assign rfl) ?_
  refine SL.pure rfl rfl rfl (PureOp.assign rfl) ?_
  refine SL.nil_then ?_
  refine WC.seq ?_
  refine WC.seq ?_
  refine WC.region ?_
  refine SL.pure rfl rfl rfl (PureOp.move rfl) ?_
  refine SL.pure rfl rfl rfl (PureOp.move rfl) ?_
  refine SL.calle rfl rfl rfl rfl rfl rfl callable29 (fun w hw => pcheck52_ok w l la m lc hm (fun i hi => (hI i hi).below hw.below) (sL.below hw.below) c ca q cc hq (sC.below hw.below)) ?_
  refine SL.norm [_] rfl ?_
  refine SL.pure rfl rfl rfl (PureOp.assign rfl) ?_
  refine SL.nil_then ?_
  refine WC.seq ?_
  refine WC.region ?_
  refine SL.pure rfl rfl rfl (PureOp.move rfl) ?_
  refine SL.pure rfl rfl rfl (PureOp.neq rfl rfl) ?_
  refine SL.nil_then ?_
  refine WC.cond rfl (fun h1 => ?_) (fun h1 => ?_)
  · try simp only [Bool.and_eq_true, Bool.or_eq_true, Bool.not_eq_true', Bool.not_eq_false', Bool.and_eq_false_iff, Bool.or_eq_false_iff, decide_eq_true_eq, decide_eq_false_iff_not, Int.not_lt, Int.not_le, ne_eq, Decidable.not_not] at h1
    exact absurd hok h1
  · try simp only [Bool.and_eq_true, Bool.or_eq_true, Bool.not_eq_true', Bool.not_eq_false', Bool.and_eq_false_iff, Bool.or_eq_false_iff, decide_eq_true_eq, decide_eq_false_iff_not, Int.not_lt, Int.not_le, ne_eq, Decidable.not_not] at h1
    refine WC.skip ?_
    refine QX.then_ ?_
    refine WC.seq ?_
    refine WC.region ?_
    refine SL.pure rfl rfl rfl (PureOp.move rfl) ?_
    refine SL.pure rfl rfl rfl (PureOp.len rfl Try.underlying43) ?_
    refine SL.pure rfl rfl rfl (PureOp.move rfl) ?_
    refine SL.pure rfl rfl rfl (PureOp.len rfl Try.underlying29) ?_
    refine SL.pure rfl rfl rfl (PureOp.add rfl rfl (fun _ => by omega)) ?_
    refine SL.pure rfl rfl rfl (PureOp.add rfl rfl (fun _ => by omega)) ?_
    refine SL.pure rfl rfl rfl (PureOp.assign rfl) ?_
    refine SL.pure rfl rfl rfl (PureOp.assign rfl) ?_
    refine SL.nil_then ?_
    refine WC.seq ?_
    refine WC.region ?_
    refine SL.addnil 61 4 ?_
    refine SL.pure rfl rfl rfl (PureOp.assign rfl) ?_
    refine SL.nil_then ?_
    refine WC.seq ?_
    refine WC.region ?_
    refine SL.pure rfl rfl rfl (PureOp.assign rfl) ?_
    refine SL.nil_then ?_
    refine WC.seq ?_
    refine WC.seq ?_
    refine WC.region ?_
    refine SL.pure rfl rfl rfl (PureOp.move rfl) ?_
    refine SL.pure rfl rfl rfl (PureOp.len rfl Try.underlying43) ?_
    refine SL.pure rfl rfl rfl (PureOp.move rfl) ?_
    refine SL.nil_then ?_
    refine WC.block ?_
    refine WC.loop (σ := Nat × Option Addr × Nat) (fun q_ => [(0, 0, .slice la m lc), (1, 0, .slice ca q cc), (4, 0, .slice none 0 0), (5, 0, .int .i64 0), (6, 0, .int .i64 (rchk l c)), (7, 0, .int .i64 0), (8, 0, .int .i64 ((((m : Nat) : Int) + ((q : Nat) : Int)) + 1)), (27, 0, .slice la m lc), (28, 0, .slice ca q cc), (29, 0, .int .i64 (rchk l c)), (30, 0, .int .i64 (rchk l c)), (31, 0, .bool (decide (rchk l c ≠ 0))), (33, 0, .slice la m lc), (34, 0, .int .i64 ((m : Nat) : Int)), (35, 0, .slice ca q cc), (36, 0, .int .i64 ((q : Nat) : Int)), (37, 0, .int .i64 (((m : Nat) : Int) + ((q : Nat) : Int))), (38, 0, .int .i64 ((((m : Nat) : Int) + ((q : Nat) : Int)) + 1)), (39, 0, .slice la m lc), (40, 0, .int .i64 ((m : Nat) : Int)), (41, 0, .int .i64 ((q_.1 : Nat) : Int)), (9, 0, .slice q_.2.1 q_.1 q_.2.2), (10, 0, .int .i64 (peoT l q_.1))]) (fun q_ => [X, Item.own w0.heap.size q_.2.1 q_.1 q_.2.2 61 4 (cellsOf encEd (edA l q_.1))]) (fun q_ => q_.1 ≤ m) (fun q_ => m - q_.1) 2 ((0, none, 0)) (Nat.zero_le _) ⟨rfl, rfl, rfl, rfl, rfl, rfl, rfl, rfl, rfl, rfl, rfl, rfl, rfl, rfl, rfl, rfl, rfl, rfl, rfl, rfl, rfl, rfl, rfl, rfl, rfl, rfl, rfl, rfl, rfl, rfl, rfl, rfl, rfl, rfl, rfl, rfl, rfl, rfl, rfl, rfl, rfl, rfl, rfl, rfl, rfl, rfl, trivial⟩ rfl ?_
    rintro ⟨a, ae, ce⟩ ha
    try dsimp only at *
    refine WC.seq ?_
    refine WC.region ?_
    refine SL.pure rfl rfl rfl (PureOp.lss rfl rfl) ?_
    refine SL.nil_then ?_
    refine WC.seq ?_
    refine WC.cond rfl (fun h2 => ?_) (fun h2 => ?_)
    · try simp only [Bool.and_eq_true, Bool.or_eq_true, Bool.not_eq_true', Bool.not_eq_false', Bool.and_eq_false_iff, Bool.or_eq_false_iff, decide_eq_true_eq, decide_eq_false_iff_not, Int.not_lt, Int.not_le, ne_eq, Decidable.not_not] at h2
      have hpa := peoT_bd (l := l) a (fun k hk => hOk.cnt k (by omega))
      have hca := hOk.cnt a (by omega)
      refine WC.skip ?_
      refine QX.then_ ?_
      refine WC.seq ?_
      refine WC.block ?_
      refine WC.seq ?_
      refine WC.region ?_
      refine SL.pure rfl rfl rfl (PureOp.move rfl) ?_
      refine SL.pure rfl rfl rfl (PureOp.indexAddrN Try.underlying43 sz55 rfl rfl (AoOk.in_ sL) (fun _ => by omega)) ?_
      refine SL.pure rfl rfl rfl (PureOp.loads (vs := [.int .i64 ((nth l a).1), .int .i64 ((nth l a).2.1), .slice ((nth l a).2.2.ao) ((nth l a).2.2.l.length) ((nth l a).2.2.cap)]) Try.underlying55 rfl rfl (fun _ => (RowIs.in_ sL a 0 3 (by omega) (by omega))) sz55) ?_
      refine SL.alloc rfl rfl zero55 (fun b1 hb1 => ?_)
      refine SL.norm [_, _, _] rfl ?_
      refine SL.pure rfl rfl rfl (PureOp.assign rfl) ?_
      refine SL.store 2 rfl rfl rfl rfl sz55 rfl rfl ?_
      refine SL.norm [_, _, _] rfl ?_
      refine SL.nil_then ?_
      refine WC.seq ?_
      refine WC.region ?_
      refine SL.pure rfl rfl rfl (PureOp.move rfl) ?_
      refine SL.pure rfl rfl rfl (PureOp.move rfl) ?_
      refine SL.pure rfl rfl rfl (PureOp.move rfl) ?_
      refine SL.pure rfl rfl rfl (PureOp.add rfl rfl (fun _ => by omega)) ?_
      refine SL.pure rfl rfl rfl (PureOp.fieldAddrT 0 Try.underlying55 rfl sz3 rfl rfl) ?_
      refine SL.pure rfl rfl rfl (PureOp.load (v := .int .i64 ((nth l a).1)) Try.underlying3 rfl rfl (fun _ => (CellIs.cells 2 rfl rfl))) ?_
      refine SL.pure rfl rfl rfl (PureOp.build bld61 rfl rfl) ?_
      refine SL.buildSlice rfl rfl Try.underlying22 elem61 rfl rfl rfl rfl (fun b2 hb2 => ?_)
      refine SL.norm [_, _, _, _] rfl ?_
      refine SL.append 1 rfl rfl Try.underlying22 elem61 rfl rfl rfl rfl (SrcIs.own 3 rfl) (by rfl) (by omega) (by omega) (fun ao1_ cap1_ => ?_)
      refine SL.itemxs 1 rfl (show _ = cellsOf encEd (edA l a ++ [(0, 1 + (a : Int), (nth l a).1, 0)]) from by rw [cellsOf_append (l := (edA l a)), cellsOf_one]; rfl) ?_
      refine SL.norm [_, _, _, _] rfl ?_
      refine SL.pure rfl rfl rfl (PureOp.assign rfl) ?_
      refine SL.nil_then ?_
      refine WC.region ?_
      refine SL.pure rfl rfl rfl (PureOp.move rfl) ?_
      refine SL.pure rfl rfl rfl (PureOp.fieldAddrT 0 Try.underlying55 rfl sz3 rfl rfl) ?_
      refine SL.pure rfl rfl rfl (PureOp.load (v := .int .i64 ((nth l a).1)) Try.underlying3 rfl rfl (fun _ => (CellIs.cells 2 rfl rfl))) ?_
      refine SL.pure rfl rfl rfl (PureOp.add rfl rfl (fun _ => by omega)) ?_
      refine SL.pure rfl rfl rfl (PureOp.assign rfl) ?_
      refine SL.nil ?_
      refine QX.normal_in ?_
      refine QX.then_ ?_
      refine WC.region ?_
      refine SL.pure rfl rfl rfl (PureOp.addN (k := 1) rfl rfl (fun _ => by omega)) ?_
      refine SL.pure rfl rfl rfl (PureOp.move rfl) ?_
      refine SL.nil ?_
      refine QX.round (σ := Nat × Option Addr × Nat) (Ef := fun q_ => [(0, 0, .slice la m lc), (1, 0, .slice ca q cc), (4, 0, .slice none 0 0), (5, 0, .int .i64 0), (6, 0, .int .i64 (rchk l c)), (7, 0, .int .i64 0), (8, 0, .int .i64 ((((m : Nat) : Int) + ((q : Nat) : Int)) + 1)), (27, 0, .slice la m lc), (28, 0, .slice ca q cc), (29, 0, .int .i64 (rchk l c)), (30, 0, .int .i64 (rchk l c)), (31, 0, .bool (decide (rchk l c ≠ 0))), (33, 0, .slice la m lc), (34, 0, .int .i64 ((m : Nat) : Int)), (35, 0, .slice ca q cc), (36, 0, .int .i64 ((q : Nat) : Int)), (37, 0, .int .i64 (((m : Nat) : Int) + ((q : Nat) : Int))), (38, 0, .int .i64 ((((m : Nat) : Int) + ((q : Nat) : Int)) + 1)), (39, 0, .slice la m lc), (40, 0, .int .i64 ((m : Nat) : Int)), (41, 0, .int .i64 ((q_.1 : Nat) : Int)), (9, 0, .slice q_.2.1 q_.1 q_.2.2), (10, 0, .int .i64 (peoT l q_.1))]) (Hf := fun q_ => [X, Item.own w0.heap.size q_.2.1 q_.1 q_.2.2 61 4 (cellsOf encEd (edA l q_.1))]) (I := fun q_ => q_.1 ≤ m) (μ := fun q_ => m - q_.1) (s := (a, ae, ce)) 2 ((a + 1, ao1_, cap1_)) ⟨(by first | omega | (dsimp only; omega)), by first | omega | (dsimp only; omega)⟩ ⟨rfl, rfl, rfl, rfl, rfl, rfl, rfl, rfl, rfl, rfl, rfl, rfl, rfl, rfl, rfl, rfl, rfl, rfl, rfl, rfl, rfl, rfl, rfl, rfl, rfl, rfl, rfl, rfl, rfl, rfl, rfl, rfl, rfl, rfl, rfl, rfl, rfl, rfl, rfl, rfl, rfl, rfl, rfl, rfl, rfl, rfl, trivial⟩ rfl
    · try simp only [Bool.and_eq_true, Bool.or_eq_true, Bool.not_eq_true', Bool.not_eq_false', Bool.and_eq_false_iff, Bool.or_eq_false_iff, decide_eq_true_eq, decide_eq_false_iff_not, Int.not_lt, Int.not_le, ne_eq, Decidable.not_not] at h2
      have e_ : a = m := by omega
      subst a
      refine WC.exit ?_
      refine QX.exit_then ?_
      refine QX.exit_then ?_
      refine QX.exit_hit ?_
      refine QX.then_ ?_
      refine WC.seq ?_
      refine WC.seq ?_
      refine WC.region ?_
      refine SL.pure rfl rfl rfl (PureOp.move rfl) ?_
      refine SL.pure rfl rfl rfl (PureOp.len rfl Try.underlying29) ?_
      refine SL.pure rfl rfl rfl (PureOp.move rfl) ?_
      refine SL.nil_then ?_
      refine WC.block ?_
      refine WC.loop (σ := Nat × Option Addr × Nat) (fun q_ => [(0, 0, .slice la m lc), (1, 0, .slice ca q cc), (4, 0, .slice none 0 0), (5, 0, .int .i64 0), (6, 0, .int .i64 (rchk l c)), (7, 0, .int .i64 0), (8, 0, .int .i64 ((((m : Nat) : Int) + ((q : Nat) : Int)) + 1)), (10, 0, .int .i64 (peoT l m)), (27, 0, .slice la m lc), (28, 0, .slice ca q cc), (29, 0, .int .i64 (rchk l c)), (30, 0, .int .i64 (rchk l c)), (31, 0, .bool (decide (rchk l c ≠ 0))), (33, 0, .slice la m lc), (34, 0, .int .i64 ((m : Nat) : Int)), (35, 0, .slice ca q cc), (36, 0, .int .i64 ((q : Nat) : Int)), (37, 0, .int .i64 (((m : Nat) : Int) + ((q : Nat) : Int))), (38, 0, .int .i64 ((((m : Nat) : Int) + ((q : Nat) : Int)) + 1)), (39, 0, .slice la m lc), (40, 0, .int .i64 ((m : Nat) : Int)), (41, 0, .int .i64 ((m : Nat) : Int)), (42, 0, .bool (decide (((m : Nat) : Int) < ((m : Nat) : Int)))), (60, 0, .slice ca q cc), (61, 0, .int .i64 ((q : Nat) : Int)), (62, 0, .int .i64 ((q_.1 : Nat) : Int)), (9, 0, .slice q_.2.1 (m + q_.1) q_.2.2)]) (fun q_ => [X, Item.own w0.heap.size q_.2.1 (m + q_.1) q_.2.2 61 4 (cellsOf encEd (edB m q l c q_.1))]) (fun q_ => q_.1 ≤ q) (fun q_ => q - q_.1) 2 ((0, ae, ce)) (Nat.zero_le _) ⟨rfl, rfl, rfl, rfl, rfl, rfl, rfl, rfl, rfl, rfl, rfl, rfl, rfl, rfl, rfl, rfl, rfl, rfl, rfl, rfl, rfl, rfl, rfl, rfl, rfl, rfl, rfl, rfl, rfl, rfl, rfl, rfl, rfl, rfl, rfl, rfl, rfl, rfl, rfl, rfl, rfl, rfl, rfl, rfl, rfl, rfl, rfl, rfl, rfl, rfl, rfl, rfl, rfl, rfl, trivial⟩ rfl ?_
      rintro ⟨b, be, bc⟩ hb
      try dsimp only at *
      refine WC.seq ?_
      refine WC.region ?_
      refine SL.pure rfl rfl rfl (PureOp.lss rfl rfl) ?_
      refine SL.nil_then ?_
      refine WC.seq ?_
      refine WC.cond rfl (fun h3 => ?_) (fun h3 => ?_)
      · try simp only [Bool.and_eq_true, Bool.or_eq_true, Bool.not_eq_true', Bool.not_eq_false', Bool.and_eq_false_iff, Bool.or_eq_false_iff, decide_eq_true_eq, decide_eq_false_iff_not, Int.not_lt, Int.not_le, ne_eq, Decidable.not_not] at h3
        refine WC.skip ?_
        refine QX.then_ ?_
        refine WC.seq ?_
        refine WC.block ?_
        refine WC.seq ?_
        refine WC.region ?_
        refine SL.pure rfl rfl rfl (PureOp.move rfl) ?_
        refine SL.pure rfl rfl rfl (PureOp.indexAddrN Try.underlying29 sz3 rfl rfl (AoOk.in_ sC) (fun _ => by omega)) ?_
        refine SL.pure rfl rfl rfl (PureOp.load (v := .int .i64 (nth c b)) Try.underlying3 rfl rfl (fun _ => (CellIs.in_ sC b 0 (by omega) (by omega)))) ?_
        refine SL.pure rfl rfl rfl (PureOp.assign rfl) ?_
        refine SL.pure rfl rfl rfl (PureOp.assign rfl) ?_
        refine SL.nil_then ?_
        refine WC.region ?_
        refine SL.pure rfl rfl rfl (PureOp.move rfl) ?_
        refine SL.pure rfl rfl rfl (PureOp.move rfl) ?_
        refine SL.pure rfl rfl rfl (PureOp.len rfl Try.underlying43) ?_
        refine SL.pure rfl rfl rfl (PureOp.add rfl rfl (fun _ => by omega)) ?_
        refine SL.pure rfl rfl rfl (PureOp.move rfl) ?_
        refine SL.pure rfl rfl rfl (PureOp.add rfl rfl (fun _ => by omega)) ?_
        refine SL.pure rfl rfl rfl (PureOp.move rfl) ?_
        refine SL.pure rfl rfl rfl (PureOp.move rfl) ?_
        refine SL.pure rfl rfl rfl (PureOp.build bld61 rfl rfl) ?_
        refine SL.buildSlice rfl rfl Try.underlying22 elem61 rfl rfl rfl rfl (fun b3 hb3 => ?_)
        refine SL.norm [_, _, _] rfl ?_
        refine SL.append 1 rfl rfl Try.underlying22 elem61 rfl rfl rfl rfl (SrcIs.own 2 rfl) (by rfl) (by omega) (by omega) (fun ao2_ cap2_ => ?_)
        refine SL.itemxs 1 rfl (show _ = cellsOf encEd (edB m q l c b ++ [(1 + (m : Int) + (b : Int), (m : Int) + (q : Int) + 1, nth c b, 0)]) from by rw [cellsOf_append (l := (edB m q l c b)), cellsOf_one]; rfl) ?_
        refine SL.norm [_, _, _] rfl ?_
        refine SL.pure rfl rfl rfl (PureOp.assign rfl) ?_
        refine SL.nil ?_
        refine QX.normal_in ?_
        refine QX.then_ ?_
        refine WC.region ?_
        refine SL.pure rfl rfl rfl (PureOp.addN (k := 1) rfl rfl (fun _ => by omega)) ?_
        refine SL.pure rfl rfl rfl (PureOp.move rfl) ?_
        refine SL.nil ?_
        refine QX.round (σ := Nat × Option Addr × Nat) (Ef := fun q_ => [(0, 0, .slice la m lc), (1, 0, .slice ca q cc), (4, 0, .slice none 0 0), (5, 0, .int .i64 0), (6, 0, .int .i64 (rchk l c)), (7, 0, .int .i64 0), (8, 0, .int .i64 ((((m : Nat) : Int) + ((q : Nat) : Int)) + 1)), (10, 0, .int .i64 (peoT l m)), (27, 0, .slice la m lc), (28, 0, .slice ca q cc), (29, 0, .int .i64 (rchk l c)), (30, 0, .int .i64 (rchk l c)), (31, 0, .bool (decide (rchk l c ≠ 0))), (33, 0, .slice la m lc), (34, 0, .int .i64 ((m : Nat) : Int)), (35, 0, .slice ca q cc), (36, 0, .int .i64 ((q : Nat) : Int)), (37, 0, .int .i64 (((m : Nat) : Int) + ((q : Nat) : Int))), (38, 0, .int .i64 ((((m : Nat) : Int) + ((q : Nat) : Int)) + 1)), (39, 0, .slice la m lc), (40, 0, .int .i64 ((m : Nat) : Int)), (41, 0, .int .i64 ((m : Nat) : Int)), (42, 0, .bool (decide (((m : Nat) : Int) < ((m : Nat) : Int)))), (60, 0, .slice ca q cc), (61, 0, .int .i64 ((q : Nat) : Int)), (62, 0, .int .i64 ((q_.1 : Nat) : Int)), (9, 0, .slice q_.2.1 (m + q_.1) q_.2.2)]) (Hf := fun q_ => [X, Item.own w0.heap.size q_.2.1 (m + q_.1) q_.2.2 61 4 (cellsOf encEd (edB m q l c q_.1))]) (I := fun q_ => q_.1 ≤ q) (μ := fun q_ => q - q_.1) (s := (b, be, bc)) 2 ((b + 1, ao2_, cap2_)) ⟨(by first | omega | (dsimp only; omega)), by first | omega | (dsimp only; omega)⟩ ⟨rfl, rfl, rfl, rfl, rfl, rfl, rfl, rfl, rfl, rfl, rfl, rfl, rfl, rfl, rfl, rfl, rfl, rfl, rfl, rfl, rfl, rfl, rfl, rfl, rfl, rfl, rfl, rfl, rfl, rfl, rfl, rfl, rfl, rfl, rfl, rfl, rfl, rfl, rfl, rfl, rfl, rfl, rfl, rfl, rfl, rfl, rfl, rfl, rfl, rfl, rfl, rfl, rfl, rfl, trivial⟩ rfl
      · try simp only [Bool.and_eq_true, Bool.or_eq_true, Bool.not_eq_true', Bool.not_eq_false', Bool.and_eq_false_iff, Bool.or_eq_false_iff, decide_eq_true_eq, decide_eq_false_iff_not, Int.not_lt, Int.not_le, ne_eq, Decidable.not_not] at h3
        have e_ : b = q := by omega
        subst b
        refine WC.exit ?_
        refine QX.exit_then ?_
        refine QX.exit_then ?_
        refine QX.exit_hit ?_
        refine QX.then_ ?_
        refine WC.seq ?_
        refine WC.region ?_
        refine SL.pure rfl rfl rfl (PureOp.move rfl) ?_
        refine SL.pure rfl rfl rfl (PureOp.len rfl Try.underlying22) ?_
        refine SL.pure rfl rfl rfl (PureOp.assign rfl) ?_
        refine SL.nil_then ?_
        refine WC.seq ?_
        refine WC.seq ?_
        refine WC.region ?_
        refine SL.pure rfl rfl rfl (PureOp.move rfl) ?_
        refine SL.pure rfl rfl rfl (PureOp.len rfl Try.underlying43) ?_
        refine SL.pure rfl rfl rfl (PureOp.move rfl) ?_
        refine SL.nil_then ?_
        refine WC.block ?_
        refine WC.loop (σ := Nat × Option Addr × Nat) (fun q_ => [(0, 0, .slice la m lc), (1, 0, .slice ca q cc), (4, 0, .slice none 0 0), (5, 0, .int .i64 0), (6, 0, .int .i64 (rchk l c)), (7, 0, .int .i64 0), (8, 0, .int .i64 ((((m : Nat) : Int) + ((q : Nat) : Int)) + 1)), (10, 0, .int .i64 (peoT l m)), (15, 0, .int .i64 ((m + q : Nat) : Int)), (27, 0, .slice la m lc), (28, 0, .slice ca q cc), (29, 0, .int .i64 (rchk l c)), (30, 0, .int .i64 (rchk l c)), (31, 0, .bool (decide (rchk l c ≠ 0))), (33, 0, .slice la m lc), (34, 0, .int .i64 ((m : Nat) : Int)), (35, 0, .slice ca q cc), (36, 0, .int .i64 ((q : Nat) : Int)), (37, 0, .int .i64 (((m : Nat) : Int) + ((q : Nat) : Int))), (38, 0, .int .i64 ((((m : Nat) : Int) + ((q : Nat) : Int)) + 1)), (39, 0, .slice la m lc), (40, 0, .int .i64 ((m : Nat) : Int)), (41, 0, .int .i64 ((m : Nat) : Int)), (42, 0, .bool (decide (((m : Nat) : Int) < ((m : Nat) : Int)))), (60, 0, .slice ca q cc), (61, 0, .int .i64 ((q : Nat) : Int)), (62, 0, .int .i64 ((q : Nat) : Int)), (63, 0, .bool (decide (((q : Nat) : Int) < ((q : Nat) : Int)))), (79, 0, .slice be (m + q) bc), (80, 0, .int .i64 ((m + q : Nat) : Int)), (81, 0, .slice la m lc), (82, 0, .int .i64 ((m : Nat) : Int)), (83, 0, .int .i64 ((q_.1 : Nat) : Int)), (9, 0, .slice q_.2.1 (m + q + wayS l q_.1) q_.2.2)]) (fun q_ => [X, Item.own w0.heap.size q_.2.1 (m + q + wayS l q_.1) q_.2.2 61 4 (cellsOf encEd (edO m q l c q_.1))]) (fun q_ => q_.1 ≤ m) (fun q_ => m - q_.1) 2 ((0, be, bc)) (Nat.zero_le _) ⟨rfl, rfl, rfl, rfl, rfl, rfl, rfl, rfl, rfl, rfl, rfl, rfl, rfl, rfl, rfl, rfl, rfl, rfl, rfl, rfl, rfl, rfl, rfl, rfl, rfl, rfl, rfl, rfl, rfl, rfl, rfl, rfl, rfl, rfl, rfl, rfl, rfl, rfl, rfl, rfl, rfl, rfl, rfl, rfl, rfl, rfl, rfl, rfl, rfl, rfl, rfl, rfl, rfl, rfl, rfl, rfl, rfl, rfl, rfl, rfl, rfl, rfl, rfl, rfl, rfl, rfl, rfl, rfl, trivial⟩ rfl ?_
        rintro ⟨i, ie, ic⟩ hi
        try dsimp only at *
        refine WC.seq ?_
        refine WC.region ?_
        refine SL.pure rfl rfl rfl (PureOp.lss rfl rfl) ?_
        refine SL.nil_then ?_
        refine WC.seq ?_
        refine WC.cond rfl (fun h4 => ?_) (fun h4 => ?_)
        · try simp only [Bool.and_eq_true, Bool.or_eq_true, Bool.not_eq_true', Bool.not_eq_false', Bool.and_eq_false_iff, Bool.or_eq_false_iff, decide_eq_true_eq, decide_eq_false_iff_not, Int.not_lt, Int.not_le, ne_eq, Decidable.not_not] at h4
          have hwa := wayS_at (l := l) (i := i) (n := m) (by omega)
          have hci := hOk.cnt i (by omega)
          have hwi := hOk.wt i (by omega)
          refine WC.skip ?_
          refine QX.then_ ?_
          refine WC.seq ?_
          refine WC.block ?_
          refine WC.seq ?_
          refine WC.region ?_
          refine SL.pure rfl rfl rfl (PureOp.move rfl) ?_
          refine SL.pure rfl rfl rfl (PureOp.indexAddrN Try.underlying43 sz55 rfl rfl (AoOk.in_ sL) (fun _ => by omega)) ?_
          refine SL.pure rfl rfl rfl (PureOp.loads (vs := [.int .i64 ((nth l i).1), .int .i64 ((nth l i).2.1), .slice ((nth l i).2.2.ao) ((nth l i).2.2.l.length) ((nth l i).2.2.cap)]) Try.underlying55 rfl rfl (fun _ => (RowIs.in_ sL i 0 3 (by omega) (by omega))) sz55) ?_
          refine SL.alloc rfl rfl zero55 (fun b4 hb4 => ?_)
          refine SL.norm [_, _, _] rfl ?_
          refine SL.pure rfl rfl rfl (PureOp.assign rfl) ?_
          refine SL.store 2 rfl rfl rfl rfl sz55 rfl rfl ?_
          refine SL.norm [_, _, _] rfl ?_
          refine SL.nil_then ?_
          refine WC.seq ?_
          refine WC.region ?_
          refine SL.pure rfl rfl rfl (PureOp.fieldAddrT 2 Try.underlying55 rfl sz53 rfl rfl) ?_
          refine SL.pure rfl rfl rfl (PureOp.load (v := .slice ((nth l i).2.2.ao) ((nth l i).2.2.l.length) ((nth l i).2.2.cap)) Try.underlying53 rfl rfl (fun _ => (CellIs.cells 2 rfl rfl))) ?_
          refine SL.pure rfl rfl rfl (PureOp.len rfl Try.underlying53) ?_
          refine SL.pure rfl rfl rfl (PureOp.move rfl) ?_
          refine SL.nil_then ?_
          refine WC.block ?_
          refine WC.loop (σ := Nat × Option Addr × Nat) (fun q_ => [(0, 0, .slice la m lc), (1, 0, .slice ca q cc), (4, 0, .slice none 0 0), (5, 0, .int .i64 0), (6, 0, .int .i64 (rchk l c)), (7, 0, .int .i64 0), (8, 0, .int .i64 ((((m : Nat) : Int) + ((q : Nat) : Int)) + 1)), (10, 0, .int .i64 (peoT l m)), (15, 0, .int .i64 ((m + q : Nat) : Int)), (16, 0, .int .i64 ((i : Nat) : Int)), (17, 0, .pointer (some ⟨b4, 0, none⟩)), (27, 0, .slice la m lc), (28, 0, .slice ca q cc), (29, 0, .int .i64 (rchk l c)), (30, 0, .int .i64 (rchk l c)), (31, 0, .bool (decide (rchk l c ≠ 0))), (33, 0, .slice la m lc), (34, 0, .int .i64 ((m : Nat) : Int)), (35, 0, .slice ca q cc), (36, 0, .int .i64 ((q : Nat) : Int)), (37, 0, .int .i64 (((m : Nat) : Int) + ((q : Nat) : Int))), (38, 0, .int .i64 ((((m : Nat) : Int) + ((q : Nat) : Int)) + 1)), (39, 0, .slice la m lc), (40, 0, .int .i64 ((m : Nat) : Int)), (41, 0, .int .i64 ((m : Nat) : Int)), (42, 0, .bool (decide (((m : Nat) : Int) < ((m : Nat) : Int)))), (60, 0, .slice ca q cc), (61, 0, .int .i64 ((q : Nat) : Int)), (62, 0, .int .i64 ((q : Nat) : Int)), (63, 0, .bool (decide (((q : Nat) : Int) < ((q : Nat) : Int)))), (79, 0, .slice be (m + q) bc), (80, 0, .int .i64 ((m + q : Nat) : Int)), (81, 0, .slice la m lc), (82, 0, .int .i64 ((m : Nat) : Int)), (83, 0, .int .i64 ((i : Nat) : Int)), (84, 0, .bool (decide (((i : Nat) : Int) < ((m : Nat) : Int)))), (85, 0, .int .i64 ((i : Nat) : Int)), (86, 0, .pointer (some ⟨blk la, off la + i * 3, none⟩)), (87, 0, .agg #[.int .i64 ((nth l i).1), .int .i64 ((nth l i).2.1), .slice ((nth l i).2.2.ao) ((nth l i).2.2.l.length) ((nth l i).2.2.cap)]), (88, 0, .pointer (some ⟨b4, 2, none⟩)), (89, 0, .slice ((nth l i).2.2.ao) ((nth l i).2.2.l.length) ((nth l i).2.2.cap)), (90, 0, .int .i64 (((nth l i).2.2.l.length : Nat) : Int)), (91, 0, .int .i64 ((q_.1 : Nat) : Int)), (9, 0, .slice q_.2.1 (m + q + (wayS l i + q_.1)) q_.2.2)]) (fun q_ => [X, Item.own w0.heap.size q_.2.1 (m + q + (wayS l i + q_.1)) q_.2.2 61 4 (cellsOf encEd (edI m (nth l i) i (edO m q l c i) q_.1)), Item.cells b4 [.int .i64 ((nth l i).1), .int .i64 ((nth l i).2.1), .slice ((nth l i).2.2.ao) ((nth l i).2.2.l.length) ((nth l i).2.2.cap)] 55]) (fun q_ => q_.1 ≤ (nth l i).2.2.l.length) (fun q_ => (nth l i).2.2.l.length - q_.1) 3 ((0, ie, ic)) (Nat.zero_le _) ⟨rfl, rfl, rfl, rfl, rfl, rfl, rfl, rfl, rfl, rfl, rfl, rfl, rfl, rfl, rfl, rfl, rfl, rfl, rfl, rfl, rfl, rfl, rfl, rfl, rfl, rfl, rfl, rfl, rfl, rfl, rfl, rfl, rfl, rfl, rfl, rfl, rfl, rfl, rfl, rfl, rfl, rfl, rfl, rfl, rfl, rfl, rfl, rfl, rfl, rfl, rfl, rfl, rfl, rfl, rfl, rfl, rfl, rfl, rfl, rfl, rfl, rfl, rfl, rfl, rfl, rfl, rfl, rfl, rfl, rfl, rfl, rfl, rfl, rfl, rfl, rfl, rfl, rfl, rfl, rfl, rfl, rfl, rfl, rfl, rfl, rfl, rfl, rfl, trivial⟩ rfl ?_
          rintro ⟨j, je, jc⟩ hj
          try dsimp only at *
          refine WC.seq ?_
          refine WC.region ?_
          refine SL.pure rfl rfl rfl (PureOp.lss rfl rfl) ?_
          refine SL.nil_then ?_
          refine WC.seq ?_
          refine WC.cond rfl (fun h5 => ?_) (fun h5 => ?_)
          · try simp only [Bool.and_eq_true, Bool.or_eq_true, Bool.not_eq_true', Bool.not_eq_false', Bool.and_eq_false_iff, Bool.or_eq_false_iff, decide_eq_true_eq, decide_eq_false_iff_not, Int.not_lt, Int.not_le, ne_eq, Decidable.not_not] at h5
            have hwy := hOk.way i (by omega) j (by omega)
            have hml := mul_bd hwi.1 hwi.2 hwy.2.1 hwy.2.2
            refine WC.skip ?_
            refine QX.then_ ?_
            refine WC.seq ?_
            refine WC.block ?_
            refine WC.seq ?_
            refine WC.region ?_
            refine SL.pure rfl rfl rfl (PureOp.indexAddrN Try.underlying53 sz77 rfl rfl (AoOk.any (fun w hw => (hI i (by omega)).below hw.below)) (fun _ => by omega)) ?_
            refine SL.pure rfl rfl rfl (PureOp.loads (vs := [.int .i64 ((nth ((nth l i).2.2.l) j).1), .int .i64 ((nth ((nth l i).2.2.l) j).2)]) Try.underlying77 rfl rfl (fun _ => (RowIs.any (fun w hw => (hI i (by omega)).below hw.below) j 0 2 (by omega) (by omega))) sz77) ?_
            refine SL.alloc rfl rfl zero77 (fun b5 hb5 => ?_)
            refine SL.norm [_, _, _, _] rfl ?_
            refine SL.store 3 rfl rfl rfl rfl sz77 rfl rfl ?_
            refine SL.norm [_, _, _, _] rfl ?_
            refine SL.nil_then ?_
            refine WC.region ?_
            refine SL.pure rfl rfl rfl (PureOp.move rfl) ?_
            refine SL.pure rfl rfl rfl (PureOp.move rfl) ?_
            refine SL.pure rfl rfl rfl (PureOp.add rfl rfl (fun _ => by omega)) ?_
            refine SL.pure rfl rfl rfl (PureOp.move rfl) ?_
            refine SL.pure rfl rfl rfl (PureOp.len rfl Try.underlying43) ?_
            refine SL.pure rfl rfl rfl (PureOp.add rfl rfl (fun _ => by omega)) ?_
            refine SL.pure rfl rfl rfl (PureOp.fieldAddrT 0 Try.underlying77 rfl sz3 rfl rfl) ?_
            refine SL.pure rfl rfl rfl (PureOp.load (v := .int .i64 ((nth ((nth l i).2.2.l) j).1)) Try.underlying3 rfl rfl (fun _ => (CellIs.cells 3 rfl rfl))) ?_
            refine SL.pure rfl rfl rfl (PureOp.add rfl rfl (fun _ => by omega)) ?_
            refine SL.pure rfl rfl rfl (PureOp.fieldAddrT 0 Try.underlying55 rfl sz3 rfl rfl) ?_
            refine SL.pure rfl rfl rfl (PureOp.load (v := .int .i64 ((nth l i).1)) Try.underlying3 rfl rfl (fun _ => (CellIs.cells 2 rfl rfl))) ?_
            refine SL.pure rfl rfl rfl (PureOp.fieldAddrT 1 Try.underlying55 rfl sz3 rfl rfl) ?_
            refine SL.pure rfl rfl rfl (PureOp.load (v := .int .i64 ((nth l i).2.1)) Try.underlying3 rfl rfl (fun _ => (CellIs.cells 2 rfl rfl))) ?_
            refine SL.pure rfl rfl rfl (PureOp.fieldAddrT 1 Try.underlying77 rfl sz3 rfl rfl) ?_
            refine SL.pure rfl rfl rfl (PureOp.load (v := .int .i64 ((nth ((nth l i).2.2.l) j).2)) Try.underlying3 rfl rfl (fun _ => (CellIs.cells 3 rfl rfl))) ?_
            refine SL.pure rfl rfl rfl (PureOp.mul rfl rfl (fun _ => by omega)) ?_
            refine SL.pure rfl rfl rfl (PureOp.build bld61 rfl rfl) ?_
            refine SL.buildSlice rfl rfl Try.underlying22 elem61 rfl rfl rfl rfl (fun b6 hb6 => ?_)
            refine SL.norm [_, _, _, _, _] rfl ?_
            refine SL.append 1 rfl rfl Try.underlying22 elem61 rfl rfl rfl rfl (SrcIs.own 4 rfl) (by rfl) (by omega) (by omega) (fun ao3_ cap3_ => ?_)
            refine SL.itemxs 1 rfl (show _ = cellsOf encEd (edI m (nth l i) i (edO m q l c i) j ++ [(1 + (i : Int), 1 + (m : Int) + (nth (nth l i).2.2.l j).1, (nth l i).1, (nth l i).2.1 * (nth (nth l i).2.2.l j).2)]) from by rw [cellsOf_append (l := (edI m (nth l i) i (edO m q l c i) j)), cellsOf_one]; rfl) ?_
            refine SL.norm [_, _, _, _, _] rfl ?_
            refine SL.pure rfl rfl rfl (PureOp.assign rfl) ?_
            refine SL.nil ?_
            refine QX.normal_in ?_
            refine QX.then_ ?_
            refine WC.region ?_
            refine SL.pure rfl rfl rfl (PureOp.addN (k := 1) rfl rfl (fun _ => by omega)) ?_
            refine SL.pure rfl rfl rfl (PureOp.move rfl) ?_
            refine SL.nil ?_
            refine QX.round (σ := Nat × Option Addr × Nat) (Ef := fun q_ => [(0, 0, .slice la m lc), (1, 0, .slice ca q cc), (4, 0, .slice none 0 0), (5, 0, .int .i64 0), (6, 0, .int .i64 (rchk l c)), (7, 0, .int .i64 0), (8, 0, .int .i64 ((((m : Nat) : Int) + ((q : Nat) : Int)) + 1)), (10, 0, .int .i64 (peoT l m)), (15, 0, .int .i64 ((m + q : Nat) : Int)), (16, 0, .int .i64 ((i : Nat) : Int)), (17, 0, .pointer (some ⟨b4, 0, none⟩)), (27, 0, .slice la m lc), (28, 0, .slice ca q cc), (29, 0, .int .i64 (rchk l c)), (30, 0, .int .i64 (rchk l c)), (31, 0, .bool (decide (rchk l c ≠ 0))), (33, 0, .slice la m lc), (34, 0, .int .i64 ((m : Nat) : Int)), (35, 0, .slice ca q cc), (36, 0, .int .i64 ((q : Nat) : Int)), (37, 0, .int .i64 (((m : Nat) : Int) + ((q : Nat) : Int))), (38, 0, .int .i64 ((((m : Nat) : Int) + ((q : Nat) : Int)) + 1)), (39, 0, .slice la m lc), (40, 0, .int .i64 ((m : Nat) : Int)), (41, 0, .int .i64 ((m : Nat) : Int)), (42, 0, .bool (decide (((m : Nat) : Int) < ((m : Nat) : Int)))), (60, 0, .slice ca q cc), (61, 0, .int .i64 ((q : Nat) : Int)), (62, 0, .int .i64 ((q : Nat) : Int)), (63, 0, .bool (decide (((q : Nat) : Int) < ((q : Nat) : Int)))), (79, 0, .slice be (m + q) bc), (80, 0, .int .i64 ((m + q : Nat) : Int)), (81, 0, .slice la m lc), (82, 0, .int .i64 ((m : Nat) : Int)), (83, 0, .int .i64 ((i : Nat) : Int)), (84, 0, .bool (decide (((i : Nat) : Int) < ((m : Nat) : Int)))), (85, 0, .int .i64 ((i : Nat) : Int)), (86, 0, .pointer (some ⟨blk la, off la + i * 3, none⟩)), (87, 0, .agg #[.int .i64 ((nth l i).1), .int .i64 ((nth l i).2.1), .slice ((nth l i).2.2.ao) ((nth l i).2.2.l.length) ((nth l i).2.2.cap)]), (88, 0, .pointer (some ⟨b4, 2, none⟩)), (89, 0, .slice ((nth l i).2.2.ao) ((nth l i).2.2.l.length) ((nth l i).2.2.cap)), (90, 0, .int .i64 (((nth l i).2.2.l.length : Nat) : Int)), (91, 0, .int .i64 ((q_.1 : Nat) : Int)), (9, 0, .slice q_.2.1 (m + q + (wayS l i + q_.1)) q_.2.2)]) (Hf := fun q_ => [X, Item.own w0.heap.size q_.2.1 (m + q + (wayS l i + q_.1)) q_.2.2 61 4 (cellsOf encEd (edI m (nth l i) i (edO m q l c i) q_.1)), Item.cells b4 [.int .i64 ((nth l i).1), .int .i64 ((nth l i).2.1), .slice ((nth l i).2.2.ao) ((nth l i).2.2.l.length) ((nth l i).2.2.cap)] 55]) (I := fun q_ => q_.1 ≤ (nth l i).2.2.l.length) (μ := fun q_ => (nth l i).2.2.l.length - q_.1) (s := (j, je, jc)) 3 ((j + 1, ao3_, cap3_)) ⟨(by first | omega | (dsimp only; omega)), by first | omega | (dsimp only; omega)⟩ ⟨rfl, rfl, rfl, rfl, rfl, rfl, rfl, rfl, rfl, rfl, rfl, rfl, rfl, rfl, rfl, rfl, rfl, rfl, rfl, rfl, rfl, rfl, rfl, rfl, rfl, rfl, rfl, rfl, rfl, rfl, rfl, rfl, rfl, rfl, rfl, rfl, rfl, rfl, rfl, rfl, rfl, rfl, rfl, rfl, rfl, rfl, rfl, rfl, rfl, rfl, rfl, rfl, rfl, rfl, rfl, rfl, rfl, rfl, rfl, rfl, rfl, rfl, rfl, rfl, rfl, rfl, rfl, rfl, rfl, rfl, rfl, rfl, rfl, rfl, rfl, rfl, rfl, rfl, rfl, rfl, rfl, rfl, rfl, rfl, rfl, rfl, rfl, rfl, trivial⟩ rfl
          · try simp only [Bool.and_eq_true, Bool.or_eq_true, Bool.not_eq_true', Bool.not_eq_false', Bool.and_eq_false_iff, Bool.or_eq_false_iff, decide_eq_true_eq, decide_eq_false_iff_not, Int.not_lt, Int.not_le, ne_eq, Decidable.not_not] at h5
            have e_ : j = (nth l i).2.2.l.length := by omega
            subst e_
            refine WC.exit ?_
            refine QX.exit_then ?_
            refine QX.exit_then ?_
            refine QX.exit_hit ?_
            refine QX.normal_in ?_
            refine QX.then_ ?_
            refine WC.region ?_
            refine SL.pure rfl rfl rfl (PureOp.addN (k := 1) rfl rfl (fun _ => by omega)) ?_
            refine SL.pure rfl rfl rfl (PureOp.move rfl) ?_
            refine SL.nil ?_
            refine QX.round (σ := Nat × Option Addr × Nat) (Ef := fun q_ => [(0, 0, .slice la m lc), (1, 0, .slice ca q cc), (4, 0, .slice none 0 0), (5, 0, .int .i64 0), (6, 0, .int .i64 (rchk l c)), (7, 0, .int .i64 0), (8, 0, .int .i64 ((((m : Nat) : Int) + ((q : Nat) : Int)) + 1)), (10, 0, .int .i64 (peoT l m)), (15, 0, .int .i64 ((m + q : Nat) : Int)), (27, 0, .slice la m lc), (28, 0, .slice ca q cc), (29, 0, .int .i64 (rchk l c)), (30, 0, .int .i64 (rchk l c)), (31, 0, .bool (decide (rchk l c ≠ 0))), (33, 0, .slice la m lc), (34, 0, .int .i64 ((m : Nat) : Int)), (35, 0, .slice ca q cc), (36, 0, .int .i64 ((q : Nat) : Int)), (37, 0, .int .i64 (((m : Nat) : Int) + ((q : Nat) : Int))), (38, 0, .int .i64 ((((m : Nat) : Int) + ((q : Nat) : Int)) + 1)), (39, 0, .slice la m lc), (40, 0, .int .i64 ((m : Nat) : Int)), (41, 0, .int .i64 ((m : Nat) : Int)), (42, 0, .bool (decide (((m : Nat) : Int) < ((m : Nat) : Int)))), (60, 0, .slice ca q cc), (61, 0, .int .i64 ((q : Nat) : Int)), (62, 0, .int .i64 ((q : Nat) : Int)), (63, 0, .bool (decide (((q : Nat) : Int) < ((q : Nat) : Int)))), (79, 0, .slice be (m + q) bc), (80, 0, .int .i64 ((m + q : Nat) : Int)), (81, 0, .slice la m lc), (82, 0, .int .i64 ((m : Nat) : Int)), (83, 0, .int .i64 ((q_.1 : Nat) : Int)), (9, 0, .slice q_.2.1 (m + q + wayS l q_.1) q_.2.2)]) (Hf := fun q_ => [X, Item.own w0.heap.size q_.2.1 (m + q + wayS l q_.1) q_.2.2 61 4 (cellsOf encEd (edO m q l c q_.1))]) (I := fun q_ => q_.1 ≤ m) (μ := fun q_ => m - q_.1) (s := (i, ie, ic)) 2 ((i + 1, je, jc)) ⟨(by first | omega | (dsimp only; omega)), by first | omega | (dsimp only; omega)⟩ ⟨rfl, rfl, rfl, rfl, rfl, rfl, rfl, rfl, rfl, rfl, rfl, rfl, rfl, rfl, rfl, rfl, rfl, rfl, rfl, rfl, rfl, rfl, rfl, rfl, rfl, rfl, rfl, rfl, rfl, rfl, rfl, rfl, rfl, rfl, rfl, rfl, rfl, rfl, rfl, rfl, rfl, rfl, rfl, rfl, rfl, rfl, rfl, rfl, rfl, rfl, rfl, rfl, rfl, rfl, rfl, rfl, rfl, rfl, rfl, rfl, rfl, rfl, rfl, rfl, rfl, rfl, rfl, rfl, trivial⟩ rfl
        · try simp only [Bool.and_eq_true, Bool.or_eq_true, Bool.not_eq_true', Bool.not_eq_false', Bool.and_eq_false_iff, Bool.or_eq_false_iff, decide_eq_true_eq, decide_eq_false_iff_not, Int.not_lt, Int.not_le, ne_eq, Decidable.not_not] at h4
          have e_ : i = m := by omega
          subst i
          refine WC.exit ?_
          refine QX.exit_then ?_
          refine QX.exit_then ?_
          refine QX.exit_hit ?_
          refine QX.then_ ?_
          refine WC.seq ?_
          refine WC.region ?_
          refine SL.pure rfl rfl rfl (PureOp.move rfl) ?_
          refine SL.pure rfl rfl rfl (PureOp.add rfl rfl (fun _ => by omega)) ?_
          refine SL.pure rfl rfl rfl (PureOp.move rfl) ?_
          refine SL.pure rfl rfl rfl (PureOp.move rfl) ?_
          refine SL.pure rfl rfl rfl (PureOp.move rfl) ?_
          refine SL.pure rfl rfl rfl (PureOp.move rfl) ?_
          refine SL.callo (fun fa fc => .tuple #[.slice fa (m + q + wayS l m) fc, .int .i64 R.2.1, .int .i64 R.2.2, .int .i64 0]) rfl rfl rfl rfl rfl rfl callable18 (fun w hw => solve_ok ((m : Int) + (q : Int) + 1 + 1) (edO m q l c m) ie (m + q + wayS l m) ic (by rw [edO_len]) 0 ((m : Int) + (q : Int) + 1) (peoT l m) hck ⟨by omega, by omega⟩ K0 R hR w (SliceIn.rows (l := edO m q l c m) (hw.mem (i := 1) rfl) encEd_len (by rw [edO_len]; exact Nat.le_refl _))) (fun fa fc => ?_)
          refine SL.norm [_, _, _] rfl ?_
          refine SL.pure rfl rfl rfl (PureOp.move rfl) ?_
          refine SL.pure rfl rfl rfl (PureOp.extract rfl rfl) ?_
          refine SL.pure rfl rfl rfl (PureOp.extract rfl rfl) ?_
          refine SL.pure rfl rfl rfl (PureOp.extract rfl rfl) ?_
          refine SL.pure rfl rfl rfl (PureOp.extract rfl rfl) ?_
          refine SL.pure rfl rfl rfl (PureOp.assign rfl) ?_
          refine SL.pure rfl rfl rfl (PureOp.assign rfl) ?_
          refine SL.pure rfl rfl rfl (PureOp.assign rfl) ?_
          refine SL.pure rfl rfl rfl (PureOp.assign rfl) ?_
          refine SL.nil_then ?_
          refine WC.seq ?_
          refine WC.seq ?_
          refine WC.region ?_
          refine SL.pure rfl rfl rfl (PureOp.move rfl) ?_
          refine SL.pure rfl rfl rfl (PureOp.neq rfl rfl) ?_
          refine SL.nil_then ?_
          refine WC.cond rfl (fun h6 => ?_) (fun h6 => ?_)
          · try simp only [Bool.and_eq_true, Bool.or_eq_true, Bool.not_eq_true', Bool.not_eq_false', Bool.and_eq_false_iff, Bool.or_eq_false_iff, decide_eq_true_eq, decide_eq_false_iff_not, Int.not_lt, Int.not_le, ne_eq, Decidable.not_not] at h6
            exact absurd trivial h6
          · try simp only [Bool.and_eq_true, Bool.or_eq_true, Bool.not_eq_true', Bool.not_eq_false', Bool.and_eq_false_iff, Bool.or_eq_false_iff, decide_eq_true_eq, decide_eq_false_iff_not, Int.not_lt, Int.not_le, ne_eq, Decidable.not_not] at h6
            refine WC.ownfacts 2 rfl (fun hcf hnn hxl => ?_)
            have hRl : R.1.length = m + q + wayS l m := by rw [cellsOf_length encI_len] at hxl; omega
            refine WC.skip ?_
            refine QX.then_ ?_
            refine WC.seq ?_
            refine WC.region ?_
            refine SL.pure rfl rfl rfl (PureOp.move rfl) ?_
            refine SL.pure rfl rfl rfl (PureOp.move rfl) ?_
            refine SL.pure rfl rfl rfl (PureOp.slicel Try.underlying29 sz3 rfl rfl (fun _ => by omega)) ?_
            refine SL.pure rfl rfl rfl (PureOp.assign rfl) ?_
            refine SL.nil_then ?_
            refine WC.seq ?_
            refine WC.region ?_
            refine SL.pure rfl rfl rfl (PureOp.move rfl) ?_
            refine SL.pure rfl rfl rfl (PureOp.len rfl Try.underlying43) ?_
            refine SL.make0 (n := m) rfl rfl Try.underlying44 elem29 rfl rfl (by omega) (by omega) (fun b7 hb7 => ?_)
            refine SL.pure rfl rfl rfl (PureOp.assign rfl) ?_
            refine SL.nil_then ?_
            refine WC.seq ?_
            refine WC.seq ?_
            refine WC.region ?_
            refine SL.pure rfl rfl rfl (PureOp.move rfl) ?_
            refine SL.pure rfl rfl rfl (PureOp.len rfl Try.underlying43) ?_
            refine SL.pure rfl rfl rfl (PureOp.move rfl) ?_
            refine SL.nil_then ?_
            refine WC.block ?_
            refine WC.loop (σ := Nat × Option Addr × Nat × Nat × List (SliceV Int) × Option Addr × Nat) (fun q_ => [(0, 0, .slice la m lc), (1, 0, .slice ca q cc), (4, 0, .slice none 0 0), (5, 0, .int .i64 0), (6, 0, .int .i64 (rchk l c)), (7, 0, .int .i64 0), (8, 0, .int .i64 ((((m : Nat) : Int) + ((q : Nat) : Int)) + 1)), (9, 0, .slice ie (m + q + wayS l m) ic), (10, 0, .int .i64 (peoT l m)), (15, 0, .int .i64 ((m + q : Nat) : Int)), (23, 0, .int .i64 0), (27, 0, .slice la m lc), (28, 0, .slice ca q cc), (29, 0, .int .i64 (rchk l c)), (30, 0, .int .i64 (rchk l c)), (31, 0, .bool (decide (rchk l c ≠ 0))), (33, 0, .slice la m lc), (34, 0, .int .i64 ((m : Nat) : Int)), (35, 0, .slice ca q cc), (36, 0, .int .i64 ((q : Nat) : Int)), (37, 0, .int .i64 (((m : Nat) : Int) + ((q : Nat) : Int))), (38, 0, .int .i64 ((((m : Nat) : Int) + ((q : Nat) : Int)) + 1)), (39, 0, .slice la m lc), (40, 0, .int .i64 ((m : Nat) : Int)), (41, 0, .int .i64 ((m : Nat) : Int)), (42, 0, .bool (decide (((m : Nat) : Int) < ((m : Nat) : Int)))), (60, 0, .slice ca q cc), (61, 0, .int .i64 ((q : Nat) : Int)), (62, 0, .int .i64 ((q : Nat) : Int)), (63, 0, .bool (decide (((q : Nat) : Int) < ((q : Nat) : Int)))), (79, 0, .slice be (m + q) bc), (80, 0, .int .i64 ((m + q : Nat) : Int)), (81, 0, .slice la m lc), (82, 0, .int .i64 ((m : Nat) : Int)), (83, 0, .int .i64 ((m : Nat) : Int)), (84, 0, .bool (decide (((m : Nat) : Int) < ((m : Nat) : Int)))), (116, 0, .tuple #[.slice fa (m + q + wayS l m) fc, .int .i64 R.2.1, .int .i64 R.2.2, .int .i64 0]), (117, 0, .int .i64 ((((m : Nat) : Int) + ((q : Nat) : Int)) + 1)), (118, 0, .int .i64 (((((m : Nat) : Int) + ((q : Nat) : Int)) + 1) + 1)), (119, 0, .slice ie (m + q + wayS l m) ic), (120, 0, .int .i64 0), (121, 0, .int .i64 ((((m : Nat) : Int) + ((q : Nat) : Int)) + 1)), (122, 0, .int .i64 (peoT l m)), (123, 0, .tuple #[.slice fa (m + q + wayS l m) fc, .int .i64 R.2.1, .int .i64 R.2.2, .int .i64 0]), (124, 0, .slice fa (m + q + wayS l m) fc), (125, 0, .int .i64 R.2.1), (126, 0, .int .i64 R.2.2), (127, 0, .int .i64 0), (128, 0, .int .i64 0), (129, 0, .bool (decide (0 ≠ 0))), (131, 0, .slice fa (m + q + wayS l m) fc), (132, 0, .int .i64 ((m + q : Nat) : Int)), (133, 0, .slice (subAo fa fc (m + q) 1) ((m + q + wayS l m) - (m + q)) (fc - (m + q))), (134, 0, .slice la m lc), (135, 0, .int .i64 ((m : Nat) : Int)), (136, 0, .slice (some ⟨b7, 0, none⟩) 0 m), (137, 0, .slice la m lc), (138, 0, .int .i64 ((m : Nat) : Int)), (139, 0, .int .i64 ((q_.1 : Nat) : Int)), (20, 0, .slice q_.2.1 q_.2.2.1 q_.2.2.2.1), (24, 0, .slice q_.2.2.2.2.2.1 q_.1 q_.2.2.2.2.2.2)]) (fun q_ => [X, Item.own w0.heap.size ie (m + q + wayS l m) ic 61 4 (cellsOf encEd (edO m q l c m)), Item.own w0.heap.size fa (m + q + wayS l m) fc 3 1 (cellsOf encI R.1), Item.own w0.heap.size q_.2.2.2.2.2.1 q_.1 q_.2.2.2.2.2.2 29 1 (cellsOf encSl (q_.2.2.2.2.1))]) (fun q_ => q_.1 ≤ m ∧ PlanIs fa (m + q + wayS l m) fc R.1 l (m + q) q_.1 q_.2.2.2.2.1 ∧ SubS fa (m + q + wayS l m) fc R.1 q_.2.1 q_.2.2.1 q_.2.2.2.1 (R.1.drop (m + q + wayS l q_.1)) ∧ q_.2.2.1 = wayS l m - wayS l q_.1 ∧ q_.2.2.1 ≤ q_.2.2.2.1) (fun q_ => m - q_.1) 4 ((0, subAo fa fc (m + q) 1, (m + q + wayS l m) - (m + q), fc - (m + q), [], some ⟨b7, 0, none⟩, m)) (⟨Nat.zero_le _, PlanIs.nil, SubS.low SubS.refl hRl.symm (by omega), by show m + q + wayS l m - (m + q) = wayS l m - 0; omega, by dsimp only; omega⟩) ⟨rfl, rfl, rfl, rfl, rfl, rfl, rfl, rfl, rfl, rfl, rfl, rfl, rfl, rfl, rfl, rfl, rfl, rfl, rfl, rfl, rfl, rfl, rfl, rfl, rfl, rfl, rfl, rfl, rfl, rfl, rfl, rfl, rfl, rfl, rfl, rfl, rfl, rfl, rfl, rfl, rfl, rfl, rfl, rfl, rfl, rfl, rfl, rfl, rfl, rfl, rfl, rfl, rfl, rfl, rfl, rfl, rfl, rfl, rfl, rfl, rfl, rfl, rfl, rfl, rfl, rfl, rfl, rfl, rfl, rfl, rfl, rfl, rfl, rfl, rfl, rfl, rfl, rfl, rfl, rfl, rfl, rfl, rfl, rfl, rfl, rfl, rfl, rfl, rfl, rfl, rfl, rfl, rfl, rfl, rfl, rfl, rfl, rfl, rfl, rfl, rfl, rfl, rfl, rfl, rfl, rfl, rfl, rfl, rfl, rfl, rfl, rfl, rfl, rfl, rfl, rfl, rfl, rfl, rfl, rfl, rfl, rfl, trivial⟩ rfl ?_
            rintro ⟨k, A, n_, C, P, pa, pc⟩ ⟨hk, hP, hSb, hn_, hnC⟩
            try dsimp only at *
            refine WC.seq ?_
            refine WC.region ?_
            refine SL.pure rfl rfl rfl (PureOp.lss rfl rfl) ?_
            refine SL.nil_then ?_
            refine WC.seq ?_
            refine WC.cond rfl (fun h7 => ?_) (fun h7 => ?_)
            · try simp only [Bool.and_eq_true, Bool.or_eq_true, Bool.not_eq_true', Bool.not_eq_false', Bool.and_eq_false_iff, Bool.or_eq_false_iff, decide_eq_true_eq, decide_eq_false_iff_not, Int.not_lt, Int.not_le, ne_eq, Decidable.not_not] at h7
              have hwk := wayS_at (l := l) (i := k) (n := m) (by omega)
              have hcl : (chunkS R.1 l (m + q) k).length = (nth l k).2.2.l.length := chunkS_len (m := m) (by omega) (by omega)
              have hYl : n_ = (R.1.drop (m + q + wayS l k)).length := by rw [List.length_drop]; omega
              refine WC.skip ?_
              refine QX.then_ ?_
              refine WC.seq ?_
              refine WC.block ?_
              refine WC.seq ?_
              refine WC.region ?_
              refine SL.pure rfl rfl rfl (PureOp.indexAddrN Try.underlying43 sz55 rfl rfl (AoOk.in_ sL) (fun _ => by omega)) ?_
              refine SL.pure rfl rfl rfl (PureOp.loads (vs := [.int .i64 ((nth l k).1), .int .i64 ((nth l k).2.1), .slice ((nth l k).2.2.ao) ((nth l k).2.2.l.length) ((nth l k).2.2.cap)]) Try.underlying55 rfl rfl (fun _ => (RowIs.in_ sL k 0 3 (by omega) (by omega))) sz55) ?_
              refine SL.alloc rfl rfl zero55 (fun b8 hb8 => ?_)
              refine SL.norm [_, _, _, _, _] rfl ?_
              refine SL.store 4 rfl rfl rfl rfl sz55 rfl rfl ?_
              refine SL.norm [_, _, _, _, _] rfl ?_
              refine SL.nil_then ?_
              refine WC.seq ?_
              refine WC.region ?_
              refine SL.pure rfl rfl rfl (PureOp.move rfl) ?_
              refine SL.pure rfl rfl rfl (PureOp.move rfl) ?_
              refine SL.pure rfl rfl rfl (PureOp.fieldAddrT 2 Try.underlying55 rfl sz53 rfl rfl) ?_
              refine SL.pure rfl rfl rfl (PureOp.load (v := .slice ((nth l k).2.2.ao) ((nth l k).2.2.l.length) ((nth l k).2.2.cap)) Try.underlying53 rfl rfl (fun _ => (CellIs.cells 4 rfl rfl))) ?_
              refine SL.pure rfl rfl rfl (PureOp.len rfl Try.underlying53) ?_
              refine SL.pure rfl rfl rfl (PureOp.fieldAddrT 2 Try.underlying55 rfl sz53 rfl rfl) ?_
              refine SL.pure rfl rfl rfl (PureOp.load (v := .slice ((nth l k).2.2.ao) ((nth l k).2.2.l.length) ((nth l k).2.2.cap)) Try.underlying53 rfl rfl (fun _ => (CellIs.cells 4 rfl rfl))) ?_
              refine SL.pure rfl rfl rfl (PureOp.len rfl Try.underlying53) ?_
              refine SL.pure rfl rfl rfl (PureOp.slicehm Try.underlying29 sz3 rfl rfl rfl (fun _ => by omega)) ?_
              refine SL.buildSlice rfl rfl Try.underlying44 elem29 rfl rfl rfl rfl (fun b9 hb9 => ?_)
              refine SL.norm [_, _, _, _, _, _] rfl ?_
              refine SL.append 3 rfl rfl Try.underlying44 elem29 rfl rfl rfl rfl (SrcIs.own 5 rfl) (by rfl) (by omega) (by omega) (fun ao4_ cap4_ => ?_)
              refine SL.itemxs 3 rfl (show _ = cellsOf encSl (P ++ [(⟨subAo A (nth l k).2.2.l.length 0 1, (nth l k).2.2.l.length, chunkS R.1 l (m + q) k⟩ : SliceV Int)]) from by rw [cellsOf_append, cellsOf_one]; show _ = _ ++ [Value.slice _ (chunkS R.1 l (m + q) k).length _]; rw [hcl]; rfl) ?_
              refine SL.norm [_, _, _, _, _, _] rfl ?_
              refine SL.pure rfl rfl rfl (PureOp.assign rfl) ?_
              refine SL.nil_then ?_
              refine WC.region ?_
              refine SL.pure rfl rfl rfl (PureOp.move rfl) ?_
              refine SL.pure rfl rfl rfl (PureOp.fieldAddrT 2 Try.underlying55 rfl sz53 rfl rfl) ?_
              refine SL.pure rfl rfl rfl (PureOp.load (v := .slice ((nth l k).2.2.ao) ((nth l k).2.2.l.length) ((nth l k).2.2.cap)) Try.underlying53 rfl rfl (fun _ => (CellIs.cells 4 rfl rfl))) ?_
              refine SL.pure rfl rfl rfl (PureOp.len rfl Try.underlying53) ?_
              refine SL.pure rfl rfl rfl (PureOp.slicel Try.underlying29 sz3 rfl rfl (fun _ => by omega)) ?_
              refine SL.pure rfl rfl rfl (PureOp.assign rfl) ?_
              refine SL.nil ?_
              refine QX.normal_in ?_
              refine QX.then_ ?_
              refine WC.region ?_
              refine SL.pure rfl rfl rfl (PureOp.addN (k := 1) rfl rfl (fun _ => by omega)) ?_
              refine SL.pure rfl rfl rfl (PureOp.move rfl) ?_
              refine SL.nil ?_
              refine QX.round (σ := Nat × Option Addr × Nat × Nat × List (SliceV Int) × Option Addr × Nat) (Ef := fun q_ => [(0, 0, .slice la m lc), (1, 0, .slice ca q cc), (4, 0, .slice none 0 0), (5, 0, .int .i64 0), (6, 0, .int .i64 (rchk l c)), (7, 0, .int .i64 0), (8, 0, .int .i64 ((((m : Nat) : Int) + ((q : Nat) : Int)) + 1)), (9, 0, .slice ie (m + q + wayS l m) ic), (10, 0, .int .i64 (peoT l m)), (15, 0, .int .i64 ((m + q : Nat) : Int)), (23, 0, .int .i64 0), (27, 0, .slice la m lc), (28, 0, .slice ca q cc), (29, 0, .int .i64 (rchk l c)), (30, 0, .int .i64 (rchk l c)), (31, 0, .bool (decide (rchk l c ≠ 0))), (33, 0, .slice la m lc), (34, 0, .int .i64 ((m : Nat) : Int)), (35, 0, .slice ca q cc), (36, 0, .int .i64 ((q : Nat) : Int)), (37, 0, .int .i64 (((m : Nat) : Int) + ((q : Nat) : Int))), (38, 0, .int .i64 ((((m : Nat) : Int) + ((q : Nat) : Int)) + 1)), (39, 0, .slice la m lc), (40, 0, .int .i64 ((m : Nat) : Int)), (41, 0, .int .i64 ((m : Nat) : Int)), (42, 0, .bool (decide (((m : Nat) : Int) < ((m : Nat) : Int)))), (60, 0, .slice ca q cc), (61, 0, .int .i64 ((q : Nat) : Int)), (62, 0, .int .i64 ((q : Nat) : Int)), (63, 0, .bool (decide (((q : Nat) : Int) < ((q : Nat) : Int)))), (79, 0, .slice be (m + q) bc), (80, 0, .int .i64 ((m + q : Nat) : Int)), (81, 0, .slice la m lc), (82, 0, .int .i64 ((m : Nat) : Int)), (83, 0, .int .i64 ((m : Nat) : Int)), (84, 0, .bool (decide (((m : Nat) : Int) < ((m : Nat) : Int)))), (116, 0, .tuple #[.slice fa (m + q + wayS l m) fc, .int .i64 R.2.1, .int .i64 R.2.2, .int .i64 0]), (117, 0, .int .i64 ((((m : Nat) : Int) + ((q : Nat) : Int)) + 1)), (118, 0, .int .i64 (((((m : Nat) : Int) + ((q : Nat) : Int)) + 1) + 1)), (119, 0, .slice ie (m + q + wayS l m) ic), (120, 0, .int .i64 0), (121, 0, .int .i64 ((((m : Nat) : Int) + ((q : Nat) : Int)) + 1)), (122, 0, .int .i64 (peoT l m)), (123, 0, .tuple #[.slice fa (m + q + wayS l m) fc, .int .i64 R.2.1, .int .i64 R.2.2, .int .i64 0]), (124, 0, .slice fa (m + q + wayS l m) fc), (125, 0, .int .i64 R.2.1), (126, 0, .int .i64 R.2.2), (127, 0, .int .i64 0), (128, 0, .int .i64 0), (129, 0, .bool (decide (0 ≠ 0))), (131, 0, .slice fa (m + q + wayS l m) fc), (132, 0, .int .i64 ((m + q : Nat) : Int)), (133, 0, .slice (subAo fa fc (m + q) 1) ((m + q + wayS l m) - (m + q)) (fc - (m + q))), (134, 0, .slice la m lc), (135, 0, .int .i64 ((m : Nat) : Int)), (136, 0, .slice (some ⟨b7, 0, none⟩) 0 m), (137, 0, .slice la m lc), (138, 0, .int .i64 ((m : Nat) : Int)), (139, 0, .int .i64 ((q_.1 : Nat) : Int)), (20, 0, .slice q_.2.1 q_.2.2.1 q_.2.2.2.1), (24, 0, .slice q_.2.2.2.2.2.1 q_.1 q_.2.2.2.2.2.2)]) (Hf := fun q_ => [X, Item.own w0.heap.size ie (m + q + wayS l m) ic 61 4 (cellsOf encEd (edO m q l c m)), Item.own w0.heap.size fa (m + q + wayS l m) fc 3 1 (cellsOf encI R.1), Item.own w0.heap.size q_.2.2.2.2.2.1 q_.1 q_.2.2.2.2.2.2 29 1 (cellsOf encSl (q_.2.2.2.2.1))]) (I := fun q_ => q_.1 ≤ m ∧ PlanIs fa (m + q + wayS l m) fc R.1 l (m + q) q_.1 q_.2.2.2.2.1 ∧ SubS fa (m + q + wayS l m) fc R.1 q_.2.1 q_.2.2.1 q_.2.2.2.1 (R.1.drop (m + q + wayS l q_.1)) ∧ q_.2.2.1 = wayS l m - wayS l q_.1 ∧ q_.2.2.1 ≤ q_.2.2.2.1) (μ := fun q_ => m - q_.1) (s := (k, A, n_, C, P, pa, pc)) 4 ((k + 1, subAo A C (nth l k).2.2.l.length 1, n_ - (nth l k).2.2.l.length, C - (nth l k).2.2.l.length, P ++ [(⟨subAo A (nth l k).2.2.l.length 0 1, (nth l k).2.2.l.length, chunkS R.1 l (m + q) k⟩ : SliceV Int)], ao4_, cap4_)) ⟨⟨(by first | omega | (dsimp only; omega)), (by exact hP.snoc (hSb.high hYl (by omega)) hcl.symm), (by have h := hSb.low hYl (show (nth l k).2.2.l.length ≤ n_ by omega); rw [List.drop_drop, show m + q + wayS l k + (nth l k).2.2.l.length = m + q + (wayS l k + (nth l k).2.2.l.length) from by omega] at h; exact h), by show n_ - (nth l k).2.2.l.length = wayS l m - (wayS l k + (nth l k).2.2.l.length); omega, by dsimp only; omega⟩, by first | omega | (dsimp only; omega)⟩ ?_ ?_
              · exact ⟨rfl, rfl, rfl, rfl, rfl, rfl, rfl, rfl, rfl, rfl, rfl, rfl, rfl, rfl, rfl, rfl, rfl, rfl, rfl, rfl, rfl, rfl, rfl, rfl, rfl, rfl, rfl, rfl, rfl, rfl, rfl, rfl, rfl, rfl, rfl, rfl, rfl, rfl, rfl, rfl, rfl, rfl, rfl, rfl, rfl, rfl, rfl, rfl, rfl, rfl, rfl, rfl, rfl, rfl, rfl, rfl, rfl, rfl, rfl, rfl, rfl, rfl, rfl, rfl, rfl, rfl, rfl, rfl, rfl, rfl, rfl, rfl, rfl, rfl, rfl, rfl, rfl, rfl, rfl, rfl, rfl, rfl, rfl, rfl, rfl, rfl, rfl, rfl, rfl, rfl, rfl, rfl, rfl, rfl, rfl, rfl, rfl, rfl, rfl, rfl, rfl, rfl, rfl, rfl, rfl, rfl, rfl, rfl, rfl, rfl, rfl, rfl, rfl, rfl, rfl, rfl, rfl, rfl, rfl, rfl, rfl, rfl, trivial⟩
              · exact rfl
            · try simp only [Bool.and_eq_true, Bool.or_eq_true, Bool.not_eq_true', Bool.not_eq_false', Bool.and_eq_false_iff, Bool.or_eq_false_iff, decide_eq_true_eq, decide_eq_false_iff_not, Int.not_lt, Int.not_le, ne_eq, Decidable.not_not] at h7
              have e_ : k = m := by omega
              subst k
              refine WC.exit ?_
              refine QX.exit_then ?_
              refine QX.exit_then ?_
              refine QX.exit_hit ?_
              refine QX.then_ ?_
              refine WC.seq ?_
              refine WC.region ?_
              refine SL.pure rfl rfl rfl (PureOp.move rfl) ?_
              refine SL.pure rfl rfl rfl (PureOp.assign rfl) ?_
              refine SL.pure rfl rfl rfl (PureOp.assign rfl) ?_
              refine SL.nil_then ?_
              refine WC.ret ?_
              refine QX.body2 rfl rfl rfl ?_
              intro w hw
              refine ⟨(fa, fc, P, pa, pc), rfl, hP, ?_⟩
              exact HeapOk.pick [0, 2, 3] (by decide) hw

theorem psolve52_f (w0 : World) (l : List Pa) (la : Option Addr) (m lc : Nat) (hm : m = l.length) (hI : ∀ i, i < m → SliceIn w0 2 (nth l i).2.2.ao (nth l i).2.2.l.length (nth l i).2.2.cap (rowsF enc77 (nth l i).2.2.l)) (sL : SliceIn w0 3 la m lc (rowsF enc55 l)) (c : List Int) (ca : Option Addr) (q cc : Nat) (hq : q = c.length) (sC : SliceIn w0 1 ca q cc (rowsF encI c)) (hok : rchk l c = 0) (hS : wayS l m ≤ 1024) (K0 : Nat) (R : List Int × Int × Int) (hR : slv (edO m q l c m) ((m : Int) + (q : Int) + 1 + 1).toNat 0 ((m : Int) + (q : Int) + 1) (peoT l m) K0 (List.replicate (edO m q l c m).length 0) 0 0 = some R) : FnC Try.prog 31 [.slice la m lc, .slice ca q cc] w0 fun v w' => ∃ y : Option Addr × Nat × List (SliceV Int) × Option Addr × Nat, v = .tuple #[.slice y.2.2.2.1 m y.2.2.2.2, .int .i64 0] ∧ PlanIs y.1 (m + q + wayS l m) y.2.1 R.1 l (m + q) m y.2.2.1 ∧ w'.ownsRow w0.heap.size 29 1 (.slice y.2.2.2.1 m y.2.2.2.2) m (cellsOf encSl y.2.2.1) ∧ w'.ownsRow w0.heap.size 3 1 (.slice y.1 (m + q + wayS l m) y.2.1) (m + q + wayS l m) (cellsOf encI R.1) :=
  (FnC.ofMC (psolve52_ok w0 l la m lc hm hI sL c ca q cc hq sC hok hS K0 R hR)).mono fun _ _ ⟨y, hv, hP, hw⟩ => ⟨y, hv, hP, hw.mem (i := 1) rfl, hw.mem (i := 0) rfl⟩
end Go.Proofs.Ytngkbnaehkailaa
