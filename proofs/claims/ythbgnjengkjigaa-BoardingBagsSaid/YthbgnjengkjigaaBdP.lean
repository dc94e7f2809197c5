import Derived.Test.YthbgnjengkjigaaBdL
namespace Go.Proofs.Ythbgnjengkjigaa
open Go Go.RowKit Eng
set_option linter.unusedVariables false
set_option linter.unusedSimpArgs false

set_option maxHeartbeats 4000000 in
set_option maxRecDepth 100000 in
theorem has_ok (l : List Int) (ao : Option Addr) (n cap : Nat) (hn : n = l.length) (hnb : n ≤ 100000) (t : Int) (w0 : World) (hs : SliceIn w0 1 ao n cap (rowsF encI l)) : FnC Try.prog 24 [.slice ao n cap, .int .i64 t] w0 fun v w' => v = .bool (decide (0 ≤ ixT l t)) := by
  refine fnc (N := 18) Try.func24 rfl rfl rfl ?_
  refine WC.seq ?_
  refine WC.region ?_
  refine SL.pure rfl rfl rfl (PureOp.assign rfl) ?_
  refine SL.nil_then ?_
  refine WC.seq ?_
  refine WC.seq ?_
  refine WC.region ?_
  refine SL.pure rfl rfl rfl (PureOp.assign rfl) ?_
  refine SL.nil_then ?_
  refine WC.block ?_
  refine WC.loop (σ := Nat) (fun q_ => [(0, 0, .slice ao n cap), (1, 0, .int .i64 t), (5, 0, .int .i64 ((q_ : Nat) : Int))]) (fun q_ => []) (fun q_ => q_ ≤ n ∧ ∀ j, j < q_ → decide (nth l j = t) = false) (fun q_ => n - q_) 0 (0) (⟨Nat.zero_le _, fun _ h => absurd h (Nat.not_lt_zero _)⟩) ⟨rfl, rfl, rfl, rfl, rfl, rfl, trivial⟩ rfl ?_
  rintro k ⟨hk, ha⟩
  refine WC.seq ?_
  refine WC.seq ?_
  refine WC.region ?_
  refine SL.pure rfl rfl rfl (PureOp.move rfl) ?_
  refine SL.pure rfl rfl rfl (PureOp.move rfl) ?_
  refine SL.pure rfl rfl rfl (PureOp.len rfl Try.underlying22) ?_
  refine SL.pure rfl rfl rfl (PureOp.lss rfl rfl) ?_
  refine SL.nil_then ?_
  refine WC.cond rfl (fun h1 => ?_) (fun h1 => ?_)
  · try simp only [Bool.and_eq_true, Bool.or_eq_true, Bool.not_eq_true', Bool.not_eq_false', Bool.and_eq_false_iff, Bool.or_eq_false_iff, decide_eq_true_eq, decide_eq_false_iff_not, Int.not_lt, Int.not_le, ne_eq, Decidable.not_not] at h1
    refine WC.skip ?_
    refine QX.then_ ?_
    refine WC.seq ?_
    refine WC.block ?_
    refine WC.seq ?_
    refine WC.region ?_
    refine SL.pure rfl rfl rfl (PureOp.move rfl) ?_
    refine SL.pure rfl rfl rfl (PureOp.move rfl) ?_
    refine SL.pure rfl rfl rfl (PureOp.indexAddrN Try.underlying22 sz3 rfl rfl (AoOk.in_ hs) (fun _ => by omega)) ?_
    refine SL.pure rfl rfl rfl (PureOp.load (v := .int .i64 (nth l k)) Try.underlying3 rfl rfl (fun _ => (CellIs.in_ hs k 0 (by omega) (by omega)))) ?_
    refine SL.pure rfl rfl rfl (PureOp.move rfl) ?_
    refine SL.pure rfl rfl rfl (PureOp.eql rfl rfl) ?_
    refine SL.nil_then ?_
    refine WC.cond rfl (fun h2 => ?_) (fun h2 => ?_)
    · try simp only [Bool.and_eq_true, Bool.or_eq_true, Bool.not_eq_true', Bool.not_eq_false', Bool.and_eq_false_iff, Bool.or_eq_false_iff, decide_eq_true_eq, decide_eq_false_iff_not, Int.not_lt, Int.not_le, ne_eq, Decidable.not_not] at h2
      refine WC.seq ?_
      refine WC.region ?_
      refine SL.pure rfl rfl rfl (PureOp.assign rfl) ?_
      refine SL.nil_then ?_
      refine WC.ret ?_
      refine QX.ret_in ?_
      refine QX.ret_then ?_
      refine QX.ret_then ?_
      refine QX.ret_in ?_
      refine QX.ret_then ?_
      refine QX.ret1 rfl rfl ?_
      intro w hw
      refine congrArg Value.bool ?_
      rw [show ixT l t = (k : Int) from fnd_hit (by omega) (by simp; omega) ha]
      simp
    · try simp only [Bool.and_eq_true, Bool.or_eq_true, Bool.not_eq_true', Bool.not_eq_false', Bool.and_eq_false_iff, Bool.or_eq_false_iff, decide_eq_true_eq, decide_eq_false_iff_not, Int.not_lt, Int.not_le, ne_eq, Decidable.not_not] at h2
      refine WC.skip ?_
      refine QX.normal_in ?_
      refine QX.then_ ?_
      refine WC.region ?_
      refine SL.pure rfl rfl rfl (PureOp.move rfl) ?_
      refine SL.pure rfl rfl rfl (PureOp.addN (k := 1) rfl rfl (fun _ => by omega)) ?_
      refine SL.pure rfl rfl rfl (PureOp.assign rfl) ?_
      refine SL.nil ?_
      refine QX.round 0 (k + 1) ⟨⟨(by first | omega | (dsimp only; omega)), fun j hj => by
            by_cases e : j = k
            · subst e; simp; omega
            · exact ha j (by omega)⟩, by first | omega | (dsimp only; omega)⟩ ⟨rfl, rfl, rfl, rfl, rfl, rfl, trivial⟩ rfl
  · try simp only [Bool.and_eq_true, Bool.or_eq_true, Bool.not_eq_true', Bool.not_eq_false', Bool.and_eq_false_iff, Bool.or_eq_false_iff, decide_eq_true_eq, decide_eq_false_iff_not, Int.not_lt, Int.not_le, ne_eq, Decidable.not_not] at h1
    refine WC.exit ?_
    refine QX.exit_then ?_
    refine QX.exit_then ?_
    refine QX.exit_hit ?_
    refine QX.then_ ?_
    refine WC.seq ?_
    refine WC.region ?_
    refine SL.pure rfl rfl rfl (PureOp.assign rfl) ?_
    refine SL.nil_then ?_
    refine WC.ret ?_
    refine QX.ret1 rfl rfl ?_
    intro w hw
    refine congrArg Value.bool ?_
    obtain rfl : k = n := by omega
    rw [show ixT l t = -1 from fnd_miss (by rw [← hn]; exact ha)]
    rfl

set_option maxHeartbeats 4000000 in
set_option maxRecDepth 100000 in
theorem bags_bad (T R : List Int) (ta ra : Option Addr) (n m tc rc : Nat) (hn : n = T.length) (hm : m = R.length) (l : List (Int × Int × Int)) (al : Option Addr) (nl cl_ : Nat) (hl : nl = l.length) (he : newE T R ≠ 0) (w0 : World) (sT : SliceIn w0 1 ta n tc (rowsF encI T)) (sR : SliceIn w0 1 ra m rc (rowsF encI R)) (sL : SliceIn w0 3 al nl cl_ (rowsF enc36 l)) : FnC Try.prog 6 [.slice ta n tc, .slice ra m rc, .slice al nl cl_] w0 fun v w' => v = .bool true := by
  refine fnc (N := 193) Try.func6 rfl rfl rfl ?_
  refine WC.seq ?_
  refine WC.region ?_
  refine SL.pure rfl rfl rfl (PureOp.assign rfl) ?_
  refine SL.nil_then ?_
  refine WC.seq ?_
  refine WC.region ?_
  refine SL.pure rfl rfl rfl (PureOp.move rfl) ?_
  refine SL.pure rfl rfl rfl (PureOp.move rfl) ?_
  refine SL.calle rfl rfl rfl rfl rfl rfl callable7 (fun w hw => pnewbad T R ta ra n m tc rc hn hm he w (sT.below hw.below) (sR.below hw.below)) ?_
  refine SL.norm [] rfl ?_
  refine SL.pure rfl rfl rfl (PureOp.move rfl) ?_
  refine SL.pure rfl rfl rfl (PureOp.extract rfl rfl) ?_
  refine SL.pure rfl rfl rfl (PureOp.extract rfl rfl) ?_
  refine SL.pure rfl rfl rfl (PureOp.assign rfl) ?_
  refine SL.pure rfl rfl rfl (PureOp.assign rfl) ?_
  refine SL.nil_then ?_
  refine WC.seq ?_
  refine WC.seq ?_
  refine WC.region ?_
  refine SL.pure rfl rfl rfl (PureOp.move rfl) ?_
  refine SL.pure rfl rfl rfl (PureOp.neq rfl rfl) ?_
  refine SL.lit 28 true rfl (by simpa using he) ?_
  refine SL.pure rfl rfl rfl (PureOp.move rfl) ?_
  refine SL.off rfl rfl rfl rfl rfl rfl ?_
  refine SL.off rfl rfl rfl rfl rfl rfl ?_
  refine SL.off rfl rfl rfl rfl rfl rfl ?_
  refine SL.pure rfl rfl rfl (PureOp.pickT rfl rfl) ?_
  refine SL.nil_then ?_
  refine WC.condT rfl ?_
  refine WC.seq ?_
  refine WC.region ?_
  refine SL.calle rfl rfl rfl rfl rfl rfl callable8 (fun w hw => knows_ok w) ?_
  refine SL.norm [] rfl ?_
  refine SL.pure rfl rfl rfl (PureOp.assign rfl) ?_
  refine SL.nil_then ?_
  refine WC.ret ?_
  refine QX.ret_then ?_
  refine QX.ret1 rfl rfl ?_
  intro w hw
  rfl

set_option maxHeartbeats 4000000 in
set_option maxRecDepth 100000 in
theorem bags_ok (T R : List Int) (ta ra : Option Addr) (n m tc rc : Nat) (hn : n = T.length) (hm : m = R.length) (l : List (Int × Int × Int)) (al : Option Addr) (nl cl_ : Nat) (hl : nl = l.length) (he : newE T R = 0) (w0 : World) (sT : SliceIn w0 1 ta n tc (rowsF encI T)) (sR : SliceIn w0 1 ra m rc (rowsF encI R)) (sL : SliceIn w0 3 al nl cl_ (rowsF enc36 l)) : FnC Try.prog 6 [.slice ta n tc, .slice ra m rc, .slice al nl cl_] w0 fun v w' => v = .bool true := by
  have hM := made_of he
  have hs9 : n ≤ 999 := by have := hM.size; omega
  have hR : R.length = n := by rw [hM.len, hn]
  have hmn : m = n := by omega
  refine fnc (N := 193) Try.func6 rfl rfl rfl ?_
  refine WC.seq ?_
  refine WC.region ?_
  refine SL.pure rfl rfl rfl (PureOp.assign rfl) ?_
  refine SL.nil_then ?_
  refine WC.seq ?_
  refine WC.region ?_
  refine SL.pure rfl rfl rfl (PureOp.move rfl) ?_
  refine SL.pure rfl rfl rfl (PureOp.move rfl) ?_
  refine SL.callM [] rfl rfl rfl rfl rfl rfl callable7 (by decide) (pnew T R ta ra n m tc rc hn hm he w0 sT sR) rfl (fun _ _ => rfl) ?_
  rintro ⟨b, ⟨ta2, tc2⟩, ⟨ra2, rc2⟩, ab⟩ hb0
  refine SL.addnil 47 3 ?_
  refine SL.norm [_, _, _, _, _] rfl ?_
  refine SL.pure rfl rfl rfl (PureOp.move rfl) ?_
  refine SL.pure rfl rfl rfl (PureOp.extract rfl rfl) ?_
  refine SL.pure rfl rfl rfl (PureOp.extract rfl rfl) ?_
  refine SL.pure rfl rfl rfl (PureOp.assign rfl) ?_
  refine SL.pure rfl rfl rfl (PureOp.assign rfl) ?_
  refine SL.nil_then ?_
  refine WC.seq ?_
  refine WC.seq ?_
  refine WC.region ?_
  refine SL.pure rfl rfl rfl (PureOp.move rfl) ?_
  refine SL.pure rfl rfl rfl (PureOp.neq rfl rfl) ?_
  refine SL.lit 28 false rfl (by decide) ?_
  refine SL.pure rfl rfl rfl (PureOp.move rfl) ?_
  refine SL.ung rfl rfl rfl rfl ?_
  refine SL.pure rfl rfl rfl (PureOp.move rfl) ?_
  refine SL.ung rfl rfl rfl rfl ?_
  refine SL.pure rfl rfl rfl (PureOp.len rfl Try.underlying22) ?_
  refine SL.ung rfl rfl rfl rfl ?_
  refine SL.pure rfl rfl rfl (PureOp.gtr rfl rfl) ?_
  refine SL.pure rfl rfl rfl (PureOp.pickF rfl rfl) ?_
  refine SL.nil_then ?_
  refine WC.cond rfl (fun h1 => ?_) (fun h1 => ?_)
  · try simp only [Bool.and_eq_true, Bool.or_eq_true, Bool.not_eq_true', Bool.not_eq_false', Bool.and_eq_false_iff, Bool.or_eq_false_iff, decide_eq_true_eq, decide_eq_false_iff_not, Int.not_lt, Int.not_le, ne_eq, Decidable.not_not] at h1
    refine WC.seq ?_
    refine WC.region ?_
    refine SL.calle rfl rfl rfl rfl rfl rfl callable8 (fun w hw => knows_ok w) ?_
    refine SL.norm [_, _, _, _, _] rfl ?_
    refine SL.pure rfl rfl rfl (PureOp.assign rfl) ?_
    refine SL.nil_then ?_
    refine WC.ret ?_
    refine QX.ret_then ?_
    refine QX.ret1 rfl rfl ?_
    intro w hw
    rfl
  · try simp only [Bool.and_eq_true, Bool.or_eq_true, Bool.not_eq_true', Bool.not_eq_false', Bool.and_eq_false_iff, Bool.or_eq_false_iff, decide_eq_true_eq, decide_eq_false_iff_not, Int.not_lt, Int.not_le, ne_eq, Decidable.not_not] at h1
    refine WC.skip ?_
    refine QX.then_ ?_
    refine WC.seq ?_
    refine WC.region ?_
    refine SL.addnil 47 3 ?_
    refine SL.pure rfl rfl rfl (PureOp.assign rfl) ?_
    refine SL.nil_then ?_
    refine WC.seq ?_
    refine WC.seq ?_
    refine WC.region ?_
    refine SL.pure rfl rfl rfl (PureOp.assign rfl) ?_
    refine SL.nil_then ?_
    refine WC.block ?_
    refine WC.loop (σ := Nat × List Bool × List Bag × Option Addr × Nat × Option Addr × Nat × Nat) (fun q_ => [(0, 0, .slice ta n tc), (1, 0, .slice ra m rc), (2, 0, .slice al nl cl_), (7, 0, .pointer (some ⟨b, 0, none⟩)), (8, 0, .int .i64 0), (21, 0, .tuple #[.pointer (some ⟨b, 0, none⟩), .int .i64 0]), (22, 0, .slice ta n tc), (23, 0, .slice ra m rc), (24, 0, .tuple #[.pointer (some ⟨b, 0, none⟩), .int .i64 0]), (25, 0, .pointer (some ⟨b, 0, none⟩)), (26, 0, .int .i64 0), (27, 0, .int .i64 0), (28, 0, .bool false), (29, 0, .bool false), (30, 0, .slice ta n tc), (31, 0, .int .i64 ((n : Nat) : Int)), (32, 0, .bool (decide (60 < ((n : Nat) : Int)))), (33, 0, .bool (decide (60 < ((n : Nat) : Int)))), (10, 0, .int .i64 ((q_.1 : Nat) : Int)), (9, 0, .slice q_.2.2.2.2.2.1 q_.2.2.2.2.2.2.2 q_.2.2.2.2.2.2.1)]) (fun q_ => [Item.cells b [.bool true, .bool false, .slice ta2 n tc2, .slice ra2 n rc2, .slice (some ⟨ab, 0, none⟩) n n, .slice q_.2.2.2.1 ((q_.2.2.1).length) q_.2.2.2.2.1] 44, Item.own w0.heap.size ta2 n tc2 3 1 (cellsOf encI T), Item.own w0.heap.size ra2 n rc2 3 1 (cellsOf encI R), Item.own w0.heap.size (some ⟨ab, 0, none⟩) n n 4 1 (cellsOf encBo (q_.2.1)), Item.own w0.heap.size q_.2.2.2.1 ((q_.2.2.1).length) q_.2.2.2.2.1 47 3 (cellsOf encBag (q_.2.2.1)), Item.own w0.heap.size q_.2.2.2.2.2.1 q_.2.2.2.2.2.2.2 q_.2.2.2.2.2.2.1 47 3 (cellsOf encBag (q_.2.2.1))]) (fun q_ => q_.1 ≤ nl ∧ q_.1 ≤ 60 ∧ q_.2.1.length = n ∧ Known T q_.2.2.1 ∧ q_.2.2.1.length ≤ q_.1 ∧ q_.2.2.2.2.2.2.2 = q_.2.2.1.length) (fun q_ => nl - q_.1) 6 ((0, List.replicate n false, [], none, 0, none, 0, 0)) (⟨Nat.zero_le _, Nat.zero_le _, List.length_replicate, known0 _, Nat.le_refl _, rfl⟩) ⟨rfl, rfl, rfl, rfl, rfl, rfl, rfl, rfl, rfl, rfl, rfl, rfl, rfl, rfl, rfl, rfl, rfl, rfl, rfl, rfl, rfl, rfl, rfl, rfl, rfl, rfl, rfl, rfl, rfl, rfl, rfl, rfl, rfl, rfl, rfl, rfl, rfl, rfl, rfl, rfl, trivial⟩ rfl ?_
    rintro ⟨i, A, G, ga, gc, oa, oc, mb⟩ ⟨hi, hi6, hA, hK, hGi, hmb⟩
    try dsimp only at *
    refine WC.seq ?_
    refine WC.seq ?_
    refine WC.region ?_
    refine SL.pure rfl rfl rfl (PureOp.move rfl) ?_
    refine SL.pure rfl rfl rfl (PureOp.move rfl) ?_
    refine SL.pure rfl rfl rfl (PureOp.len rfl Try.underlying30) ?_
    refine SL.pure rfl rfl rfl (PureOp.lss rfl rfl) ?_
    refine SL.pure rfl rfl rfl (PureOp.move rfl) ?_
    refine SL.newg 39 true rfl ?_
    refine SL.gpure (c := 1) rfl rfl rfl rfl rfl rfl rfl (PureOp.move rfl) ?_
    refine SL.gpure (c := 1) rfl rfl rfl rfl rfl rfl rfl (PureOp.lss rfl rfl) ?_
    refine SL.pure rfl rfl rfl (PureOp.and_ rfl rfl rfl rfl) ?_
    refine SL.nil_then ?_
    refine WC.cond rfl (fun h2 => ?_) (fun h2 => ?_)
    · try simp only [Bool.and_eq_true, Bool.or_eq_true, Bool.not_eq_true', Bool.not_eq_false', Bool.and_eq_false_iff, Bool.or_eq_false_iff, decide_eq_true_eq, decide_eq_false_iff_not, Int.not_lt, Int.not_le, ne_eq, Decidable.not_not] at h2
      refine WC.skip ?_
      refine QX.then_ ?_
      refine WC.seq ?_
      refine WC.block ?_
      refine WC.seq ?_
      refine WC.region ?_
      refine SL.pure rfl rfl rfl (PureOp.move rfl) ?_
      refine SL.pure rfl rfl rfl (PureOp.move rfl) ?_
      refine SL.pure rfl rfl rfl (PureOp.indexAddrN Try.underlying30 sz36 rfl rfl (AoOk.in_ sL) (fun _ => by omega)) ?_
      refine SL.pure rfl rfl rfl (PureOp.loads (vs := [.int .i64 ((nth l i).1), .int .i64 ((nth l i).2.1), .int .i64 ((nth l i).2.2)]) Try.underlying36 rfl rfl (fun _ => (RowIs.in_ sL i 0 3 (by omega) (by omega))) sz36) ?_
      refine SL.alloc rfl rfl zero36 (fun b1 hb1 => ?_)
      refine SL.norm [_, _, _, _, _, _, _] rfl ?_
      refine SL.store 6 rfl rfl rfl rfl sz36 rfl rfl ?_
      refine SL.norm [_, _, _, _, _, _, _] rfl ?_
      refine SL.nil_then ?_
      refine WC.seq ?_
      refine WC.region ?_
      refine SL.pure rfl rfl rfl (PureOp.fieldAddrT 0 Try.underlying36 rfl sz3 rfl rfl) ?_
      refine SL.pure rfl rfl rfl (PureOp.load (v := .int .i64 ((nth l i).1)) Try.underlying3 rfl rfl (fun _ => (CellIs.cells 6 rfl rfl))) ?_
      refine SL.nil_then ?_
      refine WC.block ?_
      refine WC.seq ?_
      refine WC.region ?_
      refine SL.pure rfl rfl rfl (PureOp.eql rfl rfl) ?_
      refine SL.pure rfl rfl rfl (PureOp.assign rfl) ?_
      refine SL.nil_then ?_
      refine WC.cond rfl (fun h3 => ?_) (fun h3 => ?_)
      · try simp only [Bool.and_eq_true, Bool.or_eq_true, Bool.not_eq_true', Bool.not_eq_false', Bool.and_eq_false_iff, Bool.or_eq_false_iff, decide_eq_true_eq, decide_eq_false_iff_not, Int.not_lt, Int.not_le, ne_eq, Decidable.not_not] at h3
        refine WC.seq ?_
        refine WC.region ?_
        refine SL.pure rfl rfl rfl (PureOp.fieldAddrT 1 Try.underlying36 rfl sz3 rfl rfl) ?_
        refine SL.pure rfl rfl rfl (PureOp.load (v := .int .i64 ((nth l i).2.1)) Try.underlying3 rfl rfl (fun _ => (CellIs.cells 6 rfl rfl))) ?_
        refine SL.pure rfl rfl rfl (PureOp.fieldAddrT 2 Try.underlying36 rfl sz3 rfl rfl) ?_
        refine SL.pure rfl rfl rfl (PureOp.load (v := .int .i64 ((nth l i).2.2)) Try.underlying3 rfl rfl (fun _ => (CellIs.cells 6 rfl rfl))) ?_
        refine SL.pure rfl rfl rfl (PureOp.build bld47 rfl rfl) ?_
        refine SL.alloc rfl rfl zero47 (fun b2 hb2 => ?_)
        refine SL.norm [_, _, _, _, _, _, _, _] rfl ?_
        refine SL.store 7 rfl rfl rfl rfl sz47 rfl rfl ?_
        refine SL.norm [_, _, _, _, _, _, _, _] rfl ?_
        refine SL.nil_then ?_
        refine WC.seq ?_
        refine WC.region ?_
        refine SL.pure rfl rfl rfl (PureOp.move rfl) ?_
        refine SL.pure rfl rfl rfl (PureOp.loads (vs := [.int .i64 ((nth l i).2.1), .int .i64 ((nth l i).2.2), .int .i64 0]) Try.underlying47 rfl rfl (fun _ => (RowIs.cells 7 0 3 rfl rfl)) sz47) ?_
        refine SL.callM [0, 1, 2, 3, 4] rfl rfl rfl rfl rfl rfl callable21 (by decide) (pload_ok b T R A false G ta2 ra2 (some ⟨ab, 0, none⟩) ga n tc2 rc2 n gc hM hn hR hs9 hA hK (by omega) ((nth l i).2.1, (nth l i).2.2, 0) w0) rfl (fun _ _ => rfl) ?_
        rintro ⟨ga1, gc1⟩ _
        refine SL.norm [_, _, _, _, _, _, _, _] rfl ?_
        refine SL.pure rfl rfl rfl (PureOp.eql rfl rfl) ?_
        refine SL.nil_then ?_
        refine WC.cond rfl (fun h4 => ?_) (fun h4 => ?_)
        · try simp only [Bool.and_eq_true, Bool.or_eq_true, Bool.not_eq_true', Bool.not_eq_false', Bool.and_eq_false_iff, Bool.or_eq_false_iff, decide_eq_true_eq, decide_eq_false_iff_not, Int.not_lt, Int.not_le, ne_eq, Decidable.not_not] at h4
          have eL : loadE T false G ((nth l i).2.1, (nth l i).2.2, 0) = 0 := by assumption
          have eG : loadG T false G ((nth l i).2.1, (nth l i).2.2, 0) = (G ++ [((nth l i).2.1, (nth l i).2.2, 0)]) := if_pos eL
          have hKn : Known T (G ++ [((nth l i).2.1, (nth l i).2.2, 0)]) := by rw [← eG]; exact hK.load
          have eU := un_new eL
          rw [eG]
          refine WC.seq ?_
          refine WC.region ?_
          refine SL.pure rfl rfl rfl (PureOp.move rfl) ?_
          refine SL.pure rfl rfl rfl (PureOp.loads (vs := [.int .i64 ((nth l i).2.1), .int .i64 ((nth l i).2.2), .int .i64 0]) Try.underlying47 rfl rfl (fun _ => (RowIs.cells 7 0 3 rfl rfl)) sz47) ?_
          refine SL.buildSlice rfl rfl Try.underlying38 elem47 rfl rfl rfl rfl (fun b3 hb3 => ?_)
          refine SL.norm [_, _, _, _, _, _, _, _, _] rfl ?_
          refine SL.append 5 rfl rfl Try.underlying38 elem47 rfl rfl rfl rfl (SrcIs.own 8 rfl) (by rfl) (by omega) (by omega) (fun ao1_ cap1_ => ?_)
          refine SL.itemxs 5 rfl (show _ = cellsOf encBag (G ++ [((nth l i).2.1, (nth l i).2.2, 0)]) from by rw [cellsOf_append, cellsOf_one]; rfl) ?_
          refine SL.norm [_, _, _, _, _, _, _, _, _] rfl ?_
          refine SL.pure rfl rfl rfl (PureOp.assign rfl) ?_
          refine SL.nil_then ?_
          refine WC.seq ?_
          refine WC.region ?_
          refine SL.pure rfl rfl rfl (PureOp.move rfl) ?_
          refine SL.pure rfl rfl rfl (PureOp.fieldAddrT 1 Try.underlying36 rfl sz3 rfl rfl) ?_
          refine SL.pure rfl rfl rfl (PureOp.load (v := .int .i64 ((nth l i).2.1)) Try.underlying3 rfl rfl (fun _ => (CellIs.cells 6 rfl rfl))) ?_
          refine SL.callM [0, 1, 2, 3, 4] rfl rfl rfl rfl rfl rfl callable19 (by decide) ((by have h := punload_ok b T R A false (G ++ [((nth l i).2.1, (nth l i).2.2, 0)]) ta2 ra2 (some ⟨ab, 0, none⟩) ga1 n tc2 rc2 n gc1 hM hn hR hs9 hA hKn (by simp only [List.length_append, List.length_cons, List.length_nil]; omega) (nth l i).2.1 w0; rw [eU.1, eU.2.1, eU.2.2] at h; exact h)) rfl (fun _ _ => rfl) ?_
          rintro ⟨ga2, gc2⟩ _
          refine SL.norm [_, _, _, _, _, _, _, _, _] rfl ?_
          refine SL.pure rfl rfl rfl (PureOp.move rfl) ?_
          refine SL.pure rfl rfl rfl (PureOp.extract rfl rfl) ?_
          refine SL.pure rfl rfl rfl (PureOp.extract rfl rfl) ?_
          refine SL.alloc rfl rfl zero47 (fun b4 hb4 => ?_)
          refine SL.norm [_, _, _, _, _, _, _, _, _, _] rfl ?_
          refine SL.store 9 rfl rfl rfl rfl sz47 rfl rfl ?_
          refine SL.norm [_, _, _, _, _, _, _, _, _, _] rfl ?_
          refine SL.pure rfl rfl rfl (PureOp.assign rfl) ?_
          refine SL.nil_then ?_
          refine WC.seq ?_
          refine WC.region ?_
          refine SL.pure rfl rfl rfl (PureOp.loads (vs := [.int .i64 ((nth l i).2.1), .int .i64 ((nth l i).2.2), .int .i64 0]) Try.underlying47 rfl rfl (fun _ => (RowIs.cells 9 0 3 rfl rfl)) sz47) ?_
          refine SL.pure rfl rfl rfl (PureOp.loads (vs := [.int .i64 ((nth l i).2.1), .int .i64 ((nth l i).2.2), .int .i64 0]) Try.underlying47 rfl rfl (fun _ => (RowIs.cells 7 0 3 rfl rfl)) sz47) ?_
          refine SL.pure rfl rfl rfl (PureOp.neqa rfl rfl flat47 rfl) ?_
          refine SL.lit 75 false rfl (by rw [eqB_refl (ks := [0, 0, 0]) rfl]; rfl) ?_
          refine SL.pure rfl rfl rfl (PureOp.move rfl) ?_
          refine SL.ung rfl rfl rfl rfl ?_
          refine SL.pure rfl rfl rfl (PureOp.move rfl) ?_
          refine SL.ung rfl rfl rfl rfl ?_
          refine SL.pure rfl rfl rfl (PureOp.neq rfl rfl) ?_
          refine SL.lit 78 false rfl (by decide) ?_
          refine SL.pure rfl rfl rfl (PureOp.pickF rfl rfl) ?_
          refine SL.pure rfl rfl rfl (PureOp.move rfl) ?_
          refine SL.ung rfl rfl rfl rfl ?_
          refine SL.pure rfl rfl rfl (PureOp.move rfl) ?_
          refine SL.ung rfl rfl rfl rfl ?_
          refine SL.pure rfl rfl rfl (PureOp.loads (vs := [.int .i64 ((nth l i).2.1), .int .i64 ((nth l i).2.2), .int .i64 0]) Try.underlying47 rfl rfl (fun _ => (RowIs.cells 7 0 3 rfl rfl)) sz47) ?_
          refine SL.ung rfl rfl rfl rfl ?_
          refine SL.callM [0, 1, 2, 3, 4] rfl rfl rfl rfl rfl rfl callable21 (by decide) ((by have h := pload_ok b T R A false G ta2 ra2 (some ⟨ab, 0, none⟩) ga2 n tc2 rc2 n gc2 hM hn hR hs9 hA hK (by omega) ((nth l i).2.1, (nth l i).2.2, 0) w0; rw [eL, eG] at h; exact h)) rfl (fun _ _ => rfl) ?_
          rintro ⟨ga3, gc3⟩ _
          refine SL.norm [_, _, _, _, _, _, _, _, _, _] rfl ?_
          refine SL.ung rfl rfl rfl rfl ?_
          refine SL.pure rfl rfl rfl (PureOp.neq rfl rfl) ?_
          refine SL.lit 84 false rfl (by decide) ?_
          refine SL.pure rfl rfl rfl (PureOp.pickF rfl rfl) ?_
          refine SL.nil_then ?_
          refine WC.condF rfl ?_
          refine WC.skip ?_
          refine QX.normal_in ?_
          refine QX.normal_in ?_
          refine QX.then_ ?_
          refine WC.region ?_
          refine SL.pure rfl rfl rfl (PureOp.move rfl) ?_
          refine SL.pure rfl rfl rfl (PureOp.addN (k := 1) rfl rfl (fun _ => by omega)) ?_
          refine SL.pure rfl rfl rfl (PureOp.assign rfl) ?_
          refine SL.nil ?_
          refine QX.round (σ := Nat × List Bool × List Bag × Option Addr × Nat × Option Addr × Nat × Nat) (Ef := fun q_ => [(0, 0, .slice ta n tc), (1, 0, .slice ra m rc), (2, 0, .slice al nl cl_), (7, 0, .pointer (some ⟨b, 0, none⟩)), (8, 0, .int .i64 0), (21, 0, .tuple #[.pointer (some ⟨b, 0, none⟩), .int .i64 0]), (22, 0, .slice ta n tc), (23, 0, .slice ra m rc), (24, 0, .tuple #[.pointer (some ⟨b, 0, none⟩), .int .i64 0]), (25, 0, .pointer (some ⟨b, 0, none⟩)), (26, 0, .int .i64 0), (27, 0, .int .i64 0), (28, 0, .bool false), (29, 0, .bool false), (30, 0, .slice ta n tc), (31, 0, .int .i64 ((n : Nat) : Int)), (32, 0, .bool (decide (60 < ((n : Nat) : Int)))), (33, 0, .bool (decide (60 < ((n : Nat) : Int)))), (10, 0, .int .i64 ((q_.1 : Nat) : Int)), (9, 0, .slice q_.2.2.2.2.2.1 q_.2.2.2.2.2.2.2 q_.2.2.2.2.2.2.1)]) (Hf := fun q_ => [Item.cells b [.bool true, .bool false, .slice ta2 n tc2, .slice ra2 n rc2, .slice (some ⟨ab, 0, none⟩) n n, .slice q_.2.2.2.1 ((q_.2.2.1).length) q_.2.2.2.2.1] 44, Item.own w0.heap.size ta2 n tc2 3 1 (cellsOf encI T), Item.own w0.heap.size ra2 n rc2 3 1 (cellsOf encI R), Item.own w0.heap.size (some ⟨ab, 0, none⟩) n n 4 1 (cellsOf encBo (q_.2.1)), Item.own w0.heap.size q_.2.2.2.1 ((q_.2.2.1).length) q_.2.2.2.2.1 47 3 (cellsOf encBag (q_.2.2.1)), Item.own w0.heap.size q_.2.2.2.2.2.1 q_.2.2.2.2.2.2.2 q_.2.2.2.2.2.2.1 47 3 (cellsOf encBag (q_.2.2.1))]) (I := fun q_ => q_.1 ≤ nl ∧ q_.1 ≤ 60 ∧ q_.2.1.length = n ∧ Known T q_.2.2.1 ∧ q_.2.2.1.length ≤ q_.1 ∧ q_.2.2.2.2.2.2.2 = q_.2.2.1.length) (μ := fun q_ => nl - q_.1) (s := (i, A, G, ga, gc, oa, oc, mb)) 6 ((i + 1, A, (G ++ [((nth l i).2.1, (nth l i).2.2, 0)]), ga3, gc3, ao1_, cap1_, mb + 1)) ⟨⟨(by first | omega | (dsimp only; omega)), (by first | omega | (dsimp only; omega)), hA, hKn, (by simp only [List.length_append, List.length_cons, List.length_nil]; omega), (by simp only [List.length_append, List.length_cons, List.length_nil]; omega)⟩, by first | omega | (dsimp only; omega)⟩ ⟨rfl, rfl, rfl, rfl, rfl, rfl, rfl, rfl, rfl, rfl, rfl, rfl, rfl, rfl, rfl, rfl, rfl, rfl, rfl, rfl, rfl, rfl, rfl, rfl, rfl, rfl, rfl, rfl, rfl, rfl, rfl, rfl, rfl, rfl, rfl, rfl, rfl, rfl, rfl, rfl, trivial⟩ rfl
        · try simp only [Bool.and_eq_true, Bool.or_eq_true, Bool.not_eq_true', Bool.not_eq_false', Bool.and_eq_false_iff, Bool.or_eq_false_iff, decide_eq_true_eq, decide_eq_false_iff_not, Int.not_lt, Int.not_le, ne_eq, Decidable.not_not] at h4
          have eG : loadG T false G ((nth l i).2.1, (nth l i).2.2, 0) = G := if_neg (by assumption)
          rw [eG]
          refine WC.skip ?_
          refine QX.normal_in ?_
          refine QX.normal_in ?_
          refine QX.then_ ?_
          refine WC.region ?_
          refine SL.pure rfl rfl rfl (PureOp.move rfl) ?_
          refine SL.pure rfl rfl rfl (PureOp.addN (k := 1) rfl rfl (fun _ => by omega)) ?_
          refine SL.pure rfl rfl rfl (PureOp.assign rfl) ?_
          refine SL.nil ?_
          refine QX.round (σ := Nat × List Bool × List Bag × Option Addr × Nat × Option Addr × Nat × Nat) (Ef := fun q_ => [(0, 0, .slice ta n tc), (1, 0, .slice ra m rc), (2, 0, .slice al nl cl_), (7, 0, .pointer (some ⟨b, 0, none⟩)), (8, 0, .int .i64 0), (21, 0, .tuple #[.pointer (some ⟨b, 0, none⟩), .int .i64 0]), (22, 0, .slice ta n tc), (23, 0, .slice ra m rc), (24, 0, .tuple #[.pointer (some ⟨b, 0, none⟩), .int .i64 0]), (25, 0, .pointer (some ⟨b, 0, none⟩)), (26, 0, .int .i64 0), (27, 0, .int .i64 0), (28, 0, .bool false), (29, 0, .bool false), (30, 0, .slice ta n tc), (31, 0, .int .i64 ((n : Nat) : Int)), (32, 0, .bool (decide (60 < ((n : Nat) : Int)))), (33, 0, .bool (decide (60 < ((n : Nat) : Int)))), (10, 0, .int .i64 ((q_.1 : Nat) : Int)), (9, 0, .slice q_.2.2.2.2.2.1 q_.2.2.2.2.2.2.2 q_.2.2.2.2.2.2.1)]) (Hf := fun q_ => [Item.cells b [.bool true, .bool false, .slice ta2 n tc2, .slice ra2 n rc2, .slice (some ⟨ab, 0, none⟩) n n, .slice q_.2.2.2.1 ((q_.2.2.1).length) q_.2.2.2.2.1] 44, Item.own w0.heap.size ta2 n tc2 3 1 (cellsOf encI T), Item.own w0.heap.size ra2 n rc2 3 1 (cellsOf encI R), Item.own w0.heap.size (some ⟨ab, 0, none⟩) n n 4 1 (cellsOf encBo (q_.2.1)), Item.own w0.heap.size q_.2.2.2.1 ((q_.2.2.1).length) q_.2.2.2.2.1 47 3 (cellsOf encBag (q_.2.2.1)), Item.own w0.heap.size q_.2.2.2.2.2.1 q_.2.2.2.2.2.2.2 q_.2.2.2.2.2.2.1 47 3 (cellsOf encBag (q_.2.2.1))]) (I := fun q_ => q_.1 ≤ nl ∧ q_.1 ≤ 60 ∧ q_.2.1.length = n ∧ Known T q_.2.2.1 ∧ q_.2.2.1.length ≤ q_.1 ∧ q_.2.2.2.2.2.2.2 = q_.2.2.1.length) (μ := fun q_ => nl - q_.1) (s := (i, A, G, ga, gc, oa, oc, mb)) 6 ((i + 1, A, G, ga1, gc1, oa, oc, mb)) ⟨⟨(by first | omega | (dsimp only; omega)), (by first | omega | (dsimp only; omega)), hA, hK, (by first | omega | (dsimp only; omega)), hmb⟩, by first | omega | (dsimp only; omega)⟩ ⟨rfl, rfl, rfl, rfl, rfl, rfl, rfl, rfl, rfl, rfl, rfl, rfl, rfl, rfl, rfl, rfl, rfl, rfl, rfl, rfl, rfl, rfl, rfl, rfl, rfl, rfl, rfl, rfl, rfl, rfl, rfl, rfl, rfl, rfl, rfl, rfl, rfl, rfl, rfl, rfl, trivial⟩ rfl
      · try simp only [Bool.and_eq_true, Bool.or_eq_true, Bool.not_eq_true', Bool.not_eq_false', Bool.and_eq_false_iff, Bool.or_eq_false_iff, decide_eq_true_eq, decide_eq_false_iff_not, Int.not_lt, Int.not_le, ne_eq, Decidable.not_not] at h3
        refine WC.seq ?_
        refine WC.region ?_
        refine SL.pure rfl rfl rfl (PureOp.eql rfl rfl) ?_
        refine SL.pure rfl rfl rfl (PureOp.assign rfl) ?_
        refine SL.nil_then ?_
        refine WC.cond rfl (fun h5 => ?_) (fun h5 => ?_)
        · try simp only [Bool.and_eq_true, Bool.or_eq_true, Bool.not_eq_true', Bool.not_eq_false', Bool.and_eq_false_iff, Bool.or_eq_false_iff, decide_eq_true_eq, decide_eq_false_iff_not, Int.not_lt, Int.not_le, ne_eq, Decidable.not_not] at h5
          refine WC.seq ?_
          refine WC.region ?_
          refine SL.pure rfl rfl rfl (PureOp.move rfl) ?_
          refine SL.pure rfl rfl rfl (PureOp.fieldAddrT 2 Try.underlying36 rfl sz3 rfl rfl) ?_
          refine SL.pure rfl rfl rfl (PureOp.load (v := .int .i64 ((nth l i).2.2)) Try.underlying3 rfl rfl (fun _ => (CellIs.cells 6 rfl rfl))) ?_
          refine SL.callM [0, 1, 2, 3, 4] rfl rfl rfl rfl rfl rfl callable22 (by decide) (pboard_ok b T R A false G ta2 ra2 (some ⟨ab, 0, none⟩) ga n tc2 rc2 n gc hM hn hR hs9 hA hK (by omega) (nth l i).2.2 w0) rfl (fun _ _ => rfl) ?_
          rintro ⟨ga4, gc4⟩ _
          refine SL.norm [_, _, _, _, _, _, _] rfl ?_
          refine SL.pure rfl rfl rfl (PureOp.eql rfl rfl) ?_
          refine SL.pure rfl rfl rfl (PureOp.move rfl) ?_
          refine SL.split 93 rfl (fun hs93 => ?_) (fun hs93 => ?_)
          · try simp only [Bool.and_eq_true, Bool.or_eq_true, Bool.not_eq_true', Bool.not_eq_false', Bool.and_eq_false_iff, Bool.or_eq_false_iff, decide_eq_true_eq, decide_eq_false_iff_not, Int.not_lt, Int.not_le, ne_eq, Decidable.not_not] at hs93
            refine SL.ung rfl rfl rfl rfl ?_
            refine SL.pure rfl rfl rfl (PureOp.move rfl) ?_
            refine SL.ung rfl rfl rfl rfl ?_
            refine SL.pure rfl rfl rfl (PureOp.fieldAddrT 2 Try.underlying36 rfl sz3 rfl rfl) ?_
            refine SL.ung rfl rfl rfl rfl ?_
            refine SL.pure rfl rfl rfl (PureOp.load (v := .int .i64 ((nth l i).2.2)) Try.underlying3 rfl rfl (fun _ => (CellIs.cells 6 rfl rfl))) ?_
            refine SL.ung rfl rfl rfl rfl ?_
            refine SL.callM [0, 1, 2, 3, 4] rfl rfl rfl rfl rfl rfl callable23 (by decide) ((by have e0 : movE T A false (nth l i).2.2 true 6 = 0 := (by simpa using hs93); have e97 : movE T (movA T A false (nth l i).2.2 true) false (nth l i).2.2 false 10 = 0 := mov_after (x := true) (al := 6) (by omega) (by decide) e0; have h := poff_ok b T R (movA T A false (nth l i).2.2 true) false G ta2 ra2 (some ⟨ab, 0, none⟩) ga4 n tc2 rc2 n gc4 hM hn hR hs9 (by rw [movA_len]; exact hA) hK (by omega) (nth l i).2.2 w0; rw [e97] at h; exact h)) rfl (fun _ _ => rfl) ?_
            rintro ⟨ga5, gc5⟩ _
            refine SL.norm [_, _, _, _, _, _, _] rfl ?_
            refine SL.ung rfl rfl rfl rfl ?_
            refine SL.pure rfl rfl rfl (PureOp.neq rfl rfl) ?_
            refine SL.lit 98 false rfl (by decide) ?_
            refine SL.ung rfl rfl rfl rfl ?_
            refine SL.pure rfl rfl rfl (PureOp.move rfl) ?_
            refine SL.ung rfl rfl rfl rfl ?_
            refine SL.pure rfl rfl rfl (PureOp.move rfl) ?_
            refine SL.ung rfl rfl rfl rfl ?_
            refine SL.pure rfl rfl rfl (PureOp.fieldAddrT 2 Try.underlying36 rfl sz3 rfl rfl) ?_
            refine SL.ung rfl rfl rfl rfl ?_
            refine SL.pure rfl rfl rfl (PureOp.load (v := .int .i64 ((nth l i).2.2)) Try.underlying3 rfl rfl (fun _ => (CellIs.cells 6 rfl rfl))) ?_
            refine SL.ung rfl rfl rfl rfl ?_
            refine SL.callM [0, 1, 2, 3, 4] rfl rfl rfl rfl rfl rfl callable22 (by decide) ((by have e0 : movE T A false (nth l i).2.2 true 6 = 0 := (by simpa using hs93); have e97 : movE T (movA T A false (nth l i).2.2 true) false (nth l i).2.2 false 10 = 0 := mov_after (x := true) (al := 6) (by omega) (by decide) e0; have e103 : movE T (movA T (movA T A false (nth l i).2.2 true) false (nth l i).2.2 false) false (nth l i).2.2 true 6 = 0 := mov_after (x := false) (al := 10) (by rw [movA_len]; omega) (by decide) e97; have h := pboard_ok b T R (movA T (movA T A false (nth l i).2.2 true) false (nth l i).2.2 false) false G ta2 ra2 (some ⟨ab, 0, none⟩) ga5 n tc2 rc2 n gc5 hM hn hR hs9 (by rw [movA_len, movA_len]; exact hA) hK (by omega) (nth l i).2.2 w0; rw [e103] at h; exact h)) rfl (fun _ _ => rfl) ?_
            rintro ⟨ga6, gc6⟩ _
            refine SL.norm [_, _, _, _, _, _, _] rfl ?_
            refine SL.ung rfl rfl rfl rfl ?_
            refine SL.pure rfl rfl rfl (PureOp.neq rfl rfl) ?_
            refine SL.lit 104 false rfl (by decide) ?_
            refine SL.ung rfl rfl rfl rfl ?_
            refine SL.pure rfl rfl rfl (PureOp.pickF rfl rfl) ?_
            refine SL.pure rfl rfl rfl (PureOp.pickT rfl rfl) ?_
            refine SL.nil_then ?_
            refine WC.condF rfl ?_
            refine WC.skip ?_
            refine QX.normal_in ?_
            refine QX.normal_in ?_
            refine QX.then_ ?_
            refine WC.region ?_
            refine SL.pure rfl rfl rfl (PureOp.move rfl) ?_
            refine SL.pure rfl rfl rfl (PureOp.addN (k := 1) rfl rfl (fun _ => by omega)) ?_
            refine SL.pure rfl rfl rfl (PureOp.assign rfl) ?_
            refine SL.nil ?_
            refine QX.round (σ := Nat × List Bool × List Bag × Option Addr × Nat × Option Addr × Nat × Nat) (Ef := fun q_ => [(0, 0, .slice ta n tc), (1, 0, .slice ra m rc), (2, 0, .slice al nl cl_), (7, 0, .pointer (some ⟨b, 0, none⟩)), (8, 0, .int .i64 0), (21, 0, .tuple #[.pointer (some ⟨b, 0, none⟩), .int .i64 0]), (22, 0, .slice ta n tc), (23, 0, .slice ra m rc), (24, 0, .tuple #[.pointer (some ⟨b, 0, none⟩), .int .i64 0]), (25, 0, .pointer (some ⟨b, 0, none⟩)), (26, 0, .int .i64 0), (27, 0, .int .i64 0), (28, 0, .bool false), (29, 0, .bool false), (30, 0, .slice ta n tc), (31, 0, .int .i64 ((n : Nat) : Int)), (32, 0, .bool (decide (60 < ((n : Nat) : Int)))), (33, 0, .bool (decide (60 < ((n : Nat) : Int)))), (10, 0, .int .i64 ((q_.1 : Nat) : Int)), (9, 0, .slice q_.2.2.2.2.2.1 q_.2.2.2.2.2.2.2 q_.2.2.2.2.2.2.1)]) (Hf := fun q_ => [Item.cells b [.bool true, .bool false, .slice ta2 n tc2, .slice ra2 n rc2, .slice (some ⟨ab, 0, none⟩) n n, .slice q_.2.2.2.1 ((q_.2.2.1).length) q_.2.2.2.2.1] 44, Item.own w0.heap.size ta2 n tc2 3 1 (cellsOf encI T), Item.own w0.heap.size ra2 n rc2 3 1 (cellsOf encI R), Item.own w0.heap.size (some ⟨ab, 0, none⟩) n n 4 1 (cellsOf encBo (q_.2.1)), Item.own w0.heap.size q_.2.2.2.1 ((q_.2.2.1).length) q_.2.2.2.2.1 47 3 (cellsOf encBag (q_.2.2.1)), Item.own w0.heap.size q_.2.2.2.2.2.1 q_.2.2.2.2.2.2.2 q_.2.2.2.2.2.2.1 47 3 (cellsOf encBag (q_.2.2.1))]) (I := fun q_ => q_.1 ≤ nl ∧ q_.1 ≤ 60 ∧ q_.2.1.length = n ∧ Known T q_.2.2.1 ∧ q_.2.2.1.length ≤ q_.1 ∧ q_.2.2.2.2.2.2.2 = q_.2.2.1.length) (μ := fun q_ => nl - q_.1) (s := (i, A, G, ga, gc, oa, oc, mb)) 6 ((i + 1, (movA T (movA T (movA T A false (nth l i).2.2 true) false (nth l i).2.2 false) false (nth l i).2.2 true), G, ga6, gc6, oa, oc, mb)) ⟨⟨(by first | omega | (dsimp only; omega)), (by first | omega | (dsimp only; omega)), (by rw [movA_len, movA_len, movA_len]; exact hA), hK, (by first | omega | (dsimp only; omega)), hmb⟩, by first | omega | (dsimp only; omega)⟩ ⟨rfl, rfl, rfl, rfl, rfl, rfl, rfl, rfl, rfl, rfl, rfl, rfl, rfl, rfl, rfl, rfl, rfl, rfl, rfl, rfl, rfl, rfl, rfl, rfl, rfl, rfl, rfl, rfl, rfl, rfl, rfl, rfl, rfl, rfl, rfl, rfl, rfl, rfl, rfl, rfl, trivial⟩ rfl
          · try simp only [Bool.and_eq_true, Bool.or_eq_true, Bool.not_eq_true', Bool.not_eq_false', Bool.and_eq_false_iff, Bool.or_eq_false_iff, decide_eq_true_eq, decide_eq_false_iff_not, Int.not_lt, Int.not_le, ne_eq, Decidable.not_not] at hs93
            refine SL.off rfl rfl rfl rfl rfl rfl ?_
            refine SL.off rfl rfl rfl rfl rfl rfl ?_
            refine SL.off rfl rfl rfl rfl rfl rfl ?_
            refine SL.off rfl rfl rfl rfl rfl rfl ?_
            refine SL.off rfl rfl rfl rfl rfl rfl ?_
            refine SL.off rfl rfl rfl rfl rfl rfl ?_
            refine SL.offu rfl rfl rfl rfl rfl ?_
            refine SL.offu rfl rfl rfl rfl rfl ?_
            refine SL.offu rfl rfl rfl rfl rfl ?_
            refine SL.offu rfl rfl rfl rfl rfl ?_
            refine SL.offu rfl rfl rfl rfl rfl ?_
            refine SL.off rfl rfl rfl rfl rfl rfl ?_
            refine SL.pure rfl rfl rfl (PureOp.pickF rfl rfl) ?_
            refine SL.nil_then ?_
            refine WC.condF rfl ?_
            refine WC.skip ?_
            refine QX.normal_in ?_
            refine QX.normal_in ?_
            refine QX.then_ ?_
            refine WC.region ?_
            refine SL.pure rfl rfl rfl (PureOp.move rfl) ?_
            refine SL.pure rfl rfl rfl (PureOp.addN (k := 1) rfl rfl (fun _ => by omega)) ?_
            refine SL.pure rfl rfl rfl (PureOp.assign rfl) ?_
            refine SL.nil ?_
            refine QX.round (σ := Nat × List Bool × List Bag × Option Addr × Nat × Option Addr × Nat × Nat) (Ef := fun q_ => [(0, 0, .slice ta n tc), (1, 0, .slice ra m rc), (2, 0, .slice al nl cl_), (7, 0, .pointer (some ⟨b, 0, none⟩)), (8, 0, .int .i64 0), (21, 0, .tuple #[.pointer (some ⟨b, 0, none⟩), .int .i64 0]), (22, 0, .slice ta n tc), (23, 0, .slice ra m rc), (24, 0, .tuple #[.pointer (some ⟨b, 0, none⟩), .int .i64 0]), (25, 0, .pointer (some ⟨b, 0, none⟩)), (26, 0, .int .i64 0), (27, 0, .int .i64 0), (28, 0, .bool false), (29, 0, .bool false), (30, 0, .slice ta n tc), (31, 0, .int .i64 ((n : Nat) : Int)), (32, 0, .bool (decide (60 < ((n : Nat) : Int)))), (33, 0, .bool (decide (60 < ((n : Nat) : Int)))), (10, 0, .int .i64 ((q_.1 : Nat) : Int)), (9, 0, .slice q_.2.2.2.2.2.1 q_.2.2.2.2.2.2.2 q_.2.2.2.2.2.2.1)]) (Hf := fun q_ => [Item.cells b [.bool true, .bool false, .slice ta2 n tc2, .slice ra2 n rc2, .slice (some ⟨ab, 0, none⟩) n n, .slice q_.2.2.2.1 ((q_.2.2.1).length) q_.2.2.2.2.1] 44, Item.own w0.heap.size ta2 n tc2 3 1 (cellsOf encI T), Item.own w0.heap.size ra2 n rc2 3 1 (cellsOf encI R), Item.own w0.heap.size (some ⟨ab, 0, none⟩) n n 4 1 (cellsOf encBo (q_.2.1)), Item.own w0.heap.size q_.2.2.2.1 ((q_.2.2.1).length) q_.2.2.2.2.1 47 3 (cellsOf encBag (q_.2.2.1)), Item.own w0.heap.size q_.2.2.2.2.2.1 q_.2.2.2.2.2.2.2 q_.2.2.2.2.2.2.1 47 3 (cellsOf encBag (q_.2.2.1))]) (I := fun q_ => q_.1 ≤ nl ∧ q_.1 ≤ 60 ∧ q_.2.1.length = n ∧ Known T q_.2.2.1 ∧ q_.2.2.1.length ≤ q_.1 ∧ q_.2.2.2.2.2.2.2 = q_.2.2.1.length) (μ := fun q_ => nl - q_.1) (s := (i, A, G, ga, gc, oa, oc, mb)) 6 ((i + 1, (movA T A false (nth l i).2.2 true), G, ga4, gc4, oa, oc, mb)) ⟨⟨(by first | omega | (dsimp only; omega)), (by first | omega | (dsimp only; omega)), (by rw [movA_len]; exact hA), hK, (by first | omega | (dsimp only; omega)), hmb⟩, by first | omega | (dsimp only; omega)⟩ ⟨rfl, rfl, rfl, rfl, rfl, rfl, rfl, rfl, rfl, rfl, rfl, rfl, rfl, rfl, rfl, rfl, rfl, rfl, rfl, rfl, rfl, rfl, rfl, rfl, rfl, rfl, rfl, rfl, rfl, rfl, rfl, rfl, rfl, rfl, rfl, rfl, rfl, rfl, rfl, rfl, trivial⟩ rfl
        · try simp only [Bool.and_eq_true, Bool.or_eq_true, Bool.not_eq_true', Bool.not_eq_false', Bool.and_eq_false_iff, Bool.or_eq_false_iff, decide_eq_true_eq, decide_eq_false_iff_not, Int.not_lt, Int.not_le, ne_eq, Decidable.not_not] at h5
          refine WC.seq ?_
          refine WC.region ?_
          refine SL.pure rfl rfl rfl (PureOp.eql rfl rfl) ?_
          refine SL.pure rfl rfl rfl (PureOp.assign rfl) ?_
          refine SL.nil_then ?_
          refine WC.cond rfl (fun h6 => ?_) (fun h6 => ?_)
          · try simp only [Bool.and_eq_true, Bool.or_eq_true, Bool.not_eq_true', Bool.not_eq_false', Bool.and_eq_false_iff, Bool.or_eq_false_iff, decide_eq_true_eq, decide_eq_false_iff_not, Int.not_lt, Int.not_le, ne_eq, Decidable.not_not] at h6
            refine WC.region ?_
            refine SL.pure rfl rfl rfl (PureOp.move rfl) ?_
            refine SL.pure rfl rfl rfl (PureOp.fieldAddrT 2 Try.underlying36 rfl sz3 rfl rfl) ?_
            refine SL.pure rfl rfl rfl (PureOp.load (v := .int .i64 ((nth l i).2.2)) Try.underlying3 rfl rfl (fun _ => (CellIs.cells 6 rfl rfl))) ?_
            refine SL.callM [0, 1, 2, 3, 4] rfl rfl rfl rfl rfl rfl callable23 (by decide) (poff_ok b T R A false G ta2 ra2 (some ⟨ab, 0, none⟩) ga n tc2 rc2 n gc hM hn hR hs9 hA hK (by omega) (nth l i).2.2 w0) rfl (fun _ _ => rfl) ?_
            rintro ⟨ga7, gc7⟩ _
            refine SL.norm [_, _, _, _, _, _, _] rfl ?_
            refine SL.nil ?_
            refine QX.normal_in ?_
            refine QX.normal_in ?_
            refine QX.then_ ?_
            refine WC.region ?_
            refine SL.pure rfl rfl rfl (PureOp.move rfl) ?_
            refine SL.pure rfl rfl rfl (PureOp.addN (k := 1) rfl rfl (fun _ => by omega)) ?_
            refine SL.pure rfl rfl rfl (PureOp.assign rfl) ?_
            refine SL.nil ?_
            refine QX.round (σ := Nat × List Bool × List Bag × Option Addr × Nat × Option Addr × Nat × Nat) (Ef := fun q_ => [(0, 0, .slice ta n tc), (1, 0, .slice ra m rc), (2, 0, .slice al nl cl_), (7, 0, .pointer (some ⟨b, 0, none⟩)), (8, 0, .int .i64 0), (21, 0, .tuple #[.pointer (some ⟨b, 0, none⟩), .int .i64 0]), (22, 0, .slice ta n tc), (23, 0, .slice ra m rc), (24, 0, .tuple #[.pointer (some ⟨b, 0, none⟩), .int .i64 0]), (25, 0, .pointer (some ⟨b, 0, none⟩)), (26, 0, .int .i64 0), (27, 0, .int .i64 0), (28, 0, .bool false), (29, 0, .bool false), (30, 0, .slice ta n tc), (31, 0, .int .i64 ((n : Nat) : Int)), (32, 0, .bool (decide (60 < ((n : Nat) : Int)))), (33, 0, .bool (decide (60 < ((n : Nat) : Int)))), (10, 0, .int .i64 ((q_.1 : Nat) : Int)), (9, 0, .slice q_.2.2.2.2.2.1 q_.2.2.2.2.2.2.2 q_.2.2.2.2.2.2.1)]) (Hf := fun q_ => [Item.cells b [.bool true, .bool false, .slice ta2 n tc2, .slice ra2 n rc2, .slice (some ⟨ab, 0, none⟩) n n, .slice q_.2.2.2.1 ((q_.2.2.1).length) q_.2.2.2.2.1] 44, Item.own w0.heap.size ta2 n tc2 3 1 (cellsOf encI T), Item.own w0.heap.size ra2 n rc2 3 1 (cellsOf encI R), Item.own w0.heap.size (some ⟨ab, 0, none⟩) n n 4 1 (cellsOf encBo (q_.2.1)), Item.own w0.heap.size q_.2.2.2.1 ((q_.2.2.1).length) q_.2.2.2.2.1 47 3 (cellsOf encBag (q_.2.2.1)), Item.own w0.heap.size q_.2.2.2.2.2.1 q_.2.2.2.2.2.2.2 q_.2.2.2.2.2.2.1 47 3 (cellsOf encBag (q_.2.2.1))]) (I := fun q_ => q_.1 ≤ nl ∧ q_.1 ≤ 60 ∧ q_.2.1.length = n ∧ Known T q_.2.2.1 ∧ q_.2.2.1.length ≤ q_.1 ∧ q_.2.2.2.2.2.2.2 = q_.2.2.1.length) (μ := fun q_ => nl - q_.1) (s := (i, A, G, ga, gc, oa, oc, mb)) 6 ((i + 1, (movA T A false (nth l i).2.2 false), G, ga7, gc7, oa, oc, mb)) ⟨⟨(by first | omega | (dsimp only; omega)), (by first | omega | (dsimp only; omega)), (by rw [movA_len]; exact hA), hK, (by first | omega | (dsimp only; omega)), hmb⟩, by first | omega | (dsimp only; omega)⟩ ⟨rfl, rfl, rfl, rfl, rfl, rfl, rfl, rfl, rfl, rfl, rfl, rfl, rfl, rfl, rfl, rfl, rfl, rfl, rfl, rfl, rfl, rfl, rfl, rfl, rfl, rfl, rfl, rfl, rfl, rfl, rfl, rfl, rfl, rfl, rfl, rfl, rfl, rfl, rfl, rfl, trivial⟩ rfl
          · try simp only [Bool.and_eq_true, Bool.or_eq_true, Bool.not_eq_true', Bool.not_eq_false', Bool.and_eq_false_iff, Bool.or_eq_false_iff, decide_eq_true_eq, decide_eq_false_iff_not, Int.not_lt, Int.not_le, ne_eq, Decidable.not_not] at h6
            refine WC.skip ?_
            refine QX.normal_in ?_
            refine QX.normal_in ?_
            refine QX.then_ ?_
            refine WC.region ?_
            refine SL.pure rfl rfl rfl (PureOp.move rfl) ?_
            refine SL.pure rfl rfl rfl (PureOp.addN (k := 1) rfl rfl (fun _ => by omega)) ?_
            refine SL.pure rfl rfl rfl (PureOp.assign rfl) ?_
            refine SL.nil ?_
            refine QX.round (σ := Nat × List Bool × List Bag × Option Addr × Nat × Option Addr × Nat × Nat) (Ef := fun q_ => [(0, 0, .slice ta n tc), (1, 0, .slice ra m rc), (2, 0, .slice al nl cl_), (7, 0, .pointer (some ⟨b, 0, none⟩)), (8, 0, .int .i64 0), (21, 0, .tuple #[.pointer (some ⟨b, 0, none⟩), .int .i64 0]), (22, 0, .slice ta n tc), (23, 0, .slice ra m rc), (24, 0, .tuple #[.pointer (some ⟨b, 0, none⟩), .int .i64 0]), (25, 0, .pointer (some ⟨b, 0, none⟩)), (26, 0, .int .i64 0), (27, 0, .int .i64 0), (28, 0, .bool false), (29, 0, .bool false), (30, 0, .slice ta n tc), (31, 0, .int .i64 ((n : Nat) : Int)), (32, 0, .bool (decide (60 < ((n : Nat) : Int)))), (33, 0, .bool (decide (60 < ((n : Nat) : Int)))), (10, 0, .int .i64 ((q_.1 : Nat) : Int)), (9, 0, .slice q_.2.2.2.2.2.1 q_.2.2.2.2.2.2.2 q_.2.2.2.2.2.2.1)]) (Hf := fun q_ => [Item.cells b [.bool true, .bool false, .slice ta2 n tc2, .slice ra2 n rc2, .slice (some ⟨ab, 0, none⟩) n n, .slice q_.2.2.2.1 ((q_.2.2.1).length) q_.2.2.2.2.1] 44, Item.own w0.heap.size ta2 n tc2 3 1 (cellsOf encI T), Item.own w0.heap.size ra2 n rc2 3 1 (cellsOf encI R), Item.own w0.heap.size (some ⟨ab, 0, none⟩) n n 4 1 (cellsOf encBo (q_.2.1)), Item.own w0.heap.size q_.2.2.2.1 ((q_.2.2.1).length) q_.2.2.2.2.1 47 3 (cellsOf encBag (q_.2.2.1)), Item.own w0.heap.size q_.2.2.2.2.2.1 q_.2.2.2.2.2.2.2 q_.2.2.2.2.2.2.1 47 3 (cellsOf encBag (q_.2.2.1))]) (I := fun q_ => q_.1 ≤ nl ∧ q_.1 ≤ 60 ∧ q_.2.1.length = n ∧ Known T q_.2.2.1 ∧ q_.2.2.1.length ≤ q_.1 ∧ q_.2.2.2.2.2.2.2 = q_.2.2.1.length) (μ := fun q_ => nl - q_.1) (s := (i, A, G, ga, gc, oa, oc, mb)) 6 ((i + 1, A, G, ga, gc, oa, oc, mb)) ⟨⟨(by first | omega | (dsimp only; omega)), (by first | omega | (dsimp only; omega)), hA, hK, (by first | omega | (dsimp only; omega)), hmb⟩, by first | omega | (dsimp only; omega)⟩ ⟨rfl, rfl, rfl, rfl, rfl, rfl, rfl, rfl, rfl, rfl, rfl, rfl, rfl, rfl, rfl, rfl, rfl, rfl, rfl, rfl, rfl, rfl, rfl, rfl, rfl, rfl, rfl, rfl, rfl, rfl, rfl, rfl, rfl, rfl, rfl, rfl, rfl, rfl, rfl, rfl, trivial⟩ rfl
    · try simp only [Bool.and_eq_true, Bool.or_eq_true, Bool.not_eq_true', Bool.not_eq_false', Bool.and_eq_false_iff, Bool.or_eq_false_iff, decide_eq_true_eq, decide_eq_false_iff_not, Int.not_lt, Int.not_le, ne_eq, Decidable.not_not] at h2
      refine WC.exit ?_
      refine QX.exit_then ?_
      refine QX.exit_then ?_
      refine QX.exit_hit ?_
      refine QX.then_ ?_
      refine WC.seq ?_
      refine WC.region ?_
      refine SL.pure rfl rfl rfl (PureOp.move rfl) ?_
      refine SL.callo (fun wa wc => .slice wa ((listL T A false n).length) wc) rfl rfl rfl rfl rfl rfl callable17 (fun w hw => pwait_ok b T R A false G ta2 ra2 (some ⟨ab, 0, none⟩) ga n tc2 rc2 n gc hM hn hR hs9 hA hK (by omega) w (ObjIn.of hw 0 rfl) (SliceIn.rows (l := T) (hw.mem (i := 1) rfl) encI_len (by omega)) (SliceIn.rows (l := R) (hw.mem (i := 2) rfl) encI_len (by omega)) (SliceIn.rows (l := A) (hw.mem (i := 3) rfl) encBo_len (Nat.le_of_eq (Eq.symm hA))) (SliceIn.rows (l := G) (hw.mem (i := 4) rfl) encBag_len (Nat.le_refl _))) (fun wa wc => ?_)
      refine SL.norm [_, _, _, _, _, _, _] rfl ?_
      refine SL.pure rfl rfl rfl (PureOp.assign rfl) ?_
      refine SL.nil_then ?_
      refine WC.seq ?_
      refine WC.region ?_
      refine SL.pure rfl rfl rfl (PureOp.assign rfl) ?_
      refine SL.nil_then ?_
      refine WC.seq ?_
      refine WC.seq ?_
      refine WC.region ?_
      refine SL.pure rfl rfl rfl (PureOp.assign rfl) ?_
      refine SL.nil_then ?_
      refine WC.block ?_
      refine WC.loop (σ := Nat × Nat) (fun q_ => [(0, 0, .slice ta n tc), (1, 0, .slice ra m rc), (2, 0, .slice al nl cl_), (7, 0, .pointer (some ⟨b, 0, none⟩)), (8, 0, .int .i64 0), (9, 0, .slice oa mb oc), (10, 0, .int .i64 ((i : Nat) : Int)), (15, 0, .slice wa ((listL T A false n).length) wc), (21, 0, .tuple #[.pointer (some ⟨b, 0, none⟩), .int .i64 0]), (22, 0, .slice ta n tc), (23, 0, .slice ra m rc), (24, 0, .tuple #[.pointer (some ⟨b, 0, none⟩), .int .i64 0]), (25, 0, .pointer (some ⟨b, 0, none⟩)), (26, 0, .int .i64 0), (27, 0, .int .i64 0), (28, 0, .bool false), (29, 0, .bool false), (30, 0, .slice ta n tc), (31, 0, .int .i64 ((n : Nat) : Int)), (32, 0, .bool (decide (60 < ((n : Nat) : Int)))), (33, 0, .bool (decide (60 < ((n : Nat) : Int)))), (35, 0, .int .i64 ((i : Nat) : Int)), (36, 0, .slice al nl cl_), (37, 0, .int .i64 ((nl : Nat) : Int)), (38, 0, .bool (decide (((i : Nat) : Int) < ((nl : Nat) : Int)))), (39, 0, .bool (decide (((i : Nat) : Int) < ((nl : Nat) : Int)))), (42, 0, .bool ((decide (((i : Nat) : Int) < ((nl : Nat) : Int))) && (decide (((i : Nat) : Int) < 60)))), (113, 0, .pointer (some ⟨b, 0, none⟩)), (114, 0, .slice wa ((listL T A false n).length) wc), (17, 0, .int .i64 ((q_.1 : Nat) : Int)), (16, 0, .int .i64 ((q_.2 : Nat) : Int))]) (fun q_ => [Item.cells b [.bool true, .bool false, .slice ta2 n tc2, .slice ra2 n rc2, .slice (some ⟨ab, 0, none⟩) n n, .slice ga ((G).length) gc] 44, Item.own w0.heap.size ta2 n tc2 3 1 (cellsOf encI T), Item.own w0.heap.size ra2 n rc2 3 1 (cellsOf encI R), Item.own w0.heap.size (some ⟨ab, 0, none⟩) n n 4 1 (cellsOf encBo (A)), Item.own w0.heap.size ga ((G).length) gc 47 3 (cellsOf encBag (G)), Item.own w0.heap.size oa mb oc 47 3 (cellsOf encBag (G)), Item.own w0.heap.size wa ((listL T A false n).length) wc 3 1 (cellsOf encI (listL T A false n))]) (fun q_ => q_.1 ≤ mb ∧ q_.2 = (missL T A (G.take q_.1)).length ∧ q_.2 ≤ q_.1) (fun q_ => mb - q_.1) 7 ((0, 0)) (⟨Nat.zero_le _, rfl, Nat.le_refl _⟩) ⟨rfl, rfl, rfl, rfl, rfl, rfl, rfl, rfl, rfl, rfl, rfl, rfl, rfl, rfl, rfl, rfl, rfl, rfl, rfl, rfl, rfl, rfl, rfl, rfl, rfl, rfl, rfl, rfl, rfl, rfl, rfl, rfl, rfl, rfl, rfl, rfl, rfl, rfl, rfl, rfl, rfl, rfl, rfl, rfl, rfl, rfl, rfl, rfl, rfl, rfl, rfl, rfl, rfl, rfl, rfl, rfl, rfl, rfl, rfl, rfl, rfl, rfl, trivial⟩ rfl ?_
      rintro ⟨k, c⟩ ⟨hk, hc, hck⟩
      try dsimp only at *
      refine WC.seq ?_
      refine WC.seq ?_
      refine WC.region ?_
      refine SL.pure rfl rfl rfl (PureOp.move rfl) ?_
      refine SL.pure rfl rfl rfl (PureOp.move rfl) ?_
      refine SL.pure rfl rfl rfl (PureOp.len rfl Try.underlying38) ?_
      refine SL.pure rfl rfl rfl (PureOp.lss rfl rfl) ?_
      refine SL.nil_then ?_
      refine WC.cond rfl (fun h7 => ?_) (fun h7 => ?_)
      · try simp only [Bool.and_eq_true, Bool.or_eq_true, Bool.not_eq_true', Bool.not_eq_false', Bool.and_eq_false_iff, Bool.or_eq_false_iff, decide_eq_true_eq, decide_eq_false_iff_not, Int.not_lt, Int.not_le, ne_eq, Decidable.not_not] at h7
        refine WC.skip ?_
        refine QX.then_ ?_
        refine WC.seq ?_
        refine WC.block ?_
        refine WC.seq ?_
        refine WC.region ?_
        refine SL.pure rfl rfl rfl (PureOp.move rfl) ?_
        refine SL.pure rfl rfl rfl (PureOp.move rfl) ?_
        refine SL.pure rfl rfl rfl (PureOp.move rfl) ?_
        refine SL.pure rfl rfl rfl (PureOp.indexAddrN Try.underlying38 sz47 rfl rfl (AoOk.own 5 rfl) (fun _ => by omega)) ?_
        refine SL.pure rfl rfl rfl (PureOp.fieldAddr 1 Try.underlying47 rfl rfl sz3 rfl) ?_
        refine SL.pure rfl rfl rfl (PureOp.load (v := .int .i64 ((nth G k).2.1)) Try.underlying3 rfl rfl (fun _ => (CellIs.ownc 5 rfl k 1 (by exact encBag_get (by omega) (by decide))))) ?_
        refine SL.calle rfl rfl rfl rfl rfl rfl callable24 (fun w hw => (by have h := has_ok (listL T A false n) _ _ _ rfl (by have := listL_le T A false n; omega) (nth G k).2.1 w (SliceIn.rows (hw.mem (i := 6) rfl) encI_len (Nat.le_refl _)); rw [has_lost hM hn hK (by omega)] at h; exact h)) ?_
        refine SL.norm [_, _, _, _, _, _, _] rfl ?_
        refine SL.nil_then ?_
        refine WC.cond rfl (fun h8 => ?_) (fun h8 => ?_)
        · try simp only [Bool.and_eq_true, Bool.or_eq_true, Bool.not_eq_true', Bool.not_eq_false', Bool.and_eq_false_iff, Bool.or_eq_false_iff, decide_eq_true_eq, decide_eq_false_iff_not, Int.not_lt, Int.not_le, ne_eq, Decidable.not_not] at h8
          refine WC.region ?_
          refine SL.pure rfl rfl rfl (PureOp.move rfl) ?_
          refine SL.pure rfl rfl rfl (PureOp.addN (k := 1) rfl rfl (fun _ => by omega)) ?_
          refine SL.pure rfl rfl rfl (PureOp.assign rfl) ?_
          refine SL.nil ?_
          refine QX.normal_in ?_
          refine QX.then_ ?_
          refine WC.region ?_
          refine SL.pure rfl rfl rfl (PureOp.move rfl) ?_
          refine SL.pure rfl rfl rfl (PureOp.addN (k := 1) rfl rfl (fun _ => by omega)) ?_
          refine SL.pure rfl rfl rfl (PureOp.assign rfl) ?_
          refine SL.nil ?_
          refine QX.round (σ := Nat × Nat) (Ef := fun q_ => [(0, 0, .slice ta n tc), (1, 0, .slice ra m rc), (2, 0, .slice al nl cl_), (7, 0, .pointer (some ⟨b, 0, none⟩)), (8, 0, .int .i64 0), (9, 0, .slice oa mb oc), (10, 0, .int .i64 ((i : Nat) : Int)), (15, 0, .slice wa ((listL T A false n).length) wc), (21, 0, .tuple #[.pointer (some ⟨b, 0, none⟩), .int .i64 0]), (22, 0, .slice ta n tc), (23, 0, .slice ra m rc), (24, 0, .tuple #[.pointer (some ⟨b, 0, none⟩), .int .i64 0]), (25, 0, .pointer (some ⟨b, 0, none⟩)), (26, 0, .int .i64 0), (27, 0, .int .i64 0), (28, 0, .bool false), (29, 0, .bool false), (30, 0, .slice ta n tc), (31, 0, .int .i64 ((n : Nat) : Int)), (32, 0, .bool (decide (60 < ((n : Nat) : Int)))), (33, 0, .bool (decide (60 < ((n : Nat) : Int)))), (35, 0, .int .i64 ((i : Nat) : Int)), (36, 0, .slice al nl cl_), (37, 0, .int .i64 ((nl : Nat) : Int)), (38, 0, .bool (decide (((i : Nat) : Int) < ((nl : Nat) : Int)))), (39, 0, .bool (decide (((i : Nat) : Int) < ((nl : Nat) : Int)))), (42, 0, .bool ((decide (((i : Nat) : Int) < ((nl : Nat) : Int))) && (decide (((i : Nat) : Int) < 60)))), (113, 0, .pointer (some ⟨b, 0, none⟩)), (114, 0, .slice wa ((listL T A false n).length) wc), (17, 0, .int .i64 ((q_.1 : Nat) : Int)), (16, 0, .int .i64 ((q_.2 : Nat) : Int))]) (Hf := fun q_ => [Item.cells b [.bool true, .bool false, .slice ta2 n tc2, .slice ra2 n rc2, .slice (some ⟨ab, 0, none⟩) n n, .slice ga ((G).length) gc] 44, Item.own w0.heap.size ta2 n tc2 3 1 (cellsOf encI T), Item.own w0.heap.size ra2 n rc2 3 1 (cellsOf encI R), Item.own w0.heap.size (some ⟨ab, 0, none⟩) n n 4 1 (cellsOf encBo (A)), Item.own w0.heap.size ga ((G).length) gc 47 3 (cellsOf encBag (G)), Item.own w0.heap.size oa mb oc 47 3 (cellsOf encBag (G)), Item.own w0.heap.size wa ((listL T A false n).length) wc 3 1 (cellsOf encI (listL T A false n))]) (I := fun q_ => q_.1 ≤ mb ∧ q_.2 = (missL T A (G.take q_.1)).length ∧ q_.2 ≤ q_.1) (μ := fun q_ => mb - q_.1) (s := (k, c)) 7 ((k + 1, c + 1)) ⟨⟨(by first | omega | (dsimp only; omega)), by rw [missL_take (by omega), if_pos (by assumption), List.length_append, hc]; rfl, (by first | omega | (dsimp only; omega))⟩, by first | omega | (dsimp only; omega)⟩ ⟨rfl, rfl, rfl, rfl, rfl, rfl, rfl, rfl, rfl, rfl, rfl, rfl, rfl, rfl, rfl, rfl, rfl, rfl, rfl, rfl, rfl, rfl, rfl, rfl, rfl, rfl, rfl, rfl, rfl, rfl, rfl, rfl, rfl, rfl, rfl, rfl, rfl, rfl, rfl, rfl, rfl, rfl, rfl, rfl, rfl, rfl, rfl, rfl, rfl, rfl, rfl, rfl, rfl, rfl, rfl, rfl, rfl, rfl, rfl, rfl, rfl, rfl, trivial⟩ rfl
        · try simp only [Bool.and_eq_true, Bool.or_eq_true, Bool.not_eq_true', Bool.not_eq_false', Bool.and_eq_false_iff, Bool.or_eq_false_iff, decide_eq_true_eq, decide_eq_false_iff_not, Int.not_lt, Int.not_le, ne_eq, Decidable.not_not] at h8
          refine WC.skip ?_
          refine QX.normal_in ?_
          refine QX.then_ ?_
          refine WC.region ?_
          refine SL.pure rfl rfl rfl (PureOp.move rfl) ?_
          refine SL.pure rfl rfl rfl (PureOp.addN (k := 1) rfl rfl (fun _ => by omega)) ?_
          refine SL.pure rfl rfl rfl (PureOp.assign rfl) ?_
          refine SL.nil ?_
          refine QX.round (σ := Nat × Nat) (Ef := fun q_ => [(0, 0, .slice ta n tc), (1, 0, .slice ra m rc), (2, 0, .slice al nl cl_), (7, 0, .pointer (some ⟨b, 0, none⟩)), (8, 0, .int .i64 0), (9, 0, .slice oa mb oc), (10, 0, .int .i64 ((i : Nat) : Int)), (15, 0, .slice wa ((listL T A false n).length) wc), (21, 0, .tuple #[.pointer (some ⟨b, 0, none⟩), .int .i64 0]), (22, 0, .slice ta n tc), (23, 0, .slice ra m rc), (24, 0, .tuple #[.pointer (some ⟨b, 0, none⟩), .int .i64 0]), (25, 0, .pointer (some ⟨b, 0, none⟩)), (26, 0, .int .i64 0), (27, 0, .int .i64 0), (28, 0, .bool false), (29, 0, .bool false), (30, 0, .slice ta n tc), (31, 0, .int .i64 ((n : Nat) : Int)), (32, 0, .bool (decide (60 < ((n : Nat) : Int)))), (33, 0, .bool (decide (60 < ((n : Nat) : Int)))), (35, 0, .int .i64 ((i : Nat) : Int)), (36, 0, .slice al nl cl_), (37, 0, .int .i64 ((nl : Nat) : Int)), (38, 0, .bool (decide (((i : Nat) : Int) < ((nl : Nat) : Int)))), (39, 0, .bool (decide (((i : Nat) : Int) < ((nl : Nat) : Int)))), (42, 0, .bool ((decide (((i : Nat) : Int) < ((nl : Nat) : Int))) && (decide (((i : Nat) : Int) < 60)))), (113, 0, .pointer (some ⟨b, 0, none⟩)), (114, 0, .slice wa ((listL T A false n).length) wc), (17, 0, .int .i64 ((q_.1 : Nat) : Int)), (16, 0, .int .i64 ((q_.2 : Nat) : Int))]) (Hf := fun q_ => [Item.cells b [.bool true, .bool false, .slice ta2 n tc2, .slice ra2 n rc2, .slice (some ⟨ab, 0, none⟩) n n, .slice ga ((G).length) gc] 44, Item.own w0.heap.size ta2 n tc2 3 1 (cellsOf encI T), Item.own w0.heap.size ra2 n rc2 3 1 (cellsOf encI R), Item.own w0.heap.size (some ⟨ab, 0, none⟩) n n 4 1 (cellsOf encBo (A)), Item.own w0.heap.size ga ((G).length) gc 47 3 (cellsOf encBag (G)), Item.own w0.heap.size oa mb oc 47 3 (cellsOf encBag (G)), Item.own w0.heap.size wa ((listL T A false n).length) wc 3 1 (cellsOf encI (listL T A false n))]) (I := fun q_ => q_.1 ≤ mb ∧ q_.2 = (missL T A (G.take q_.1)).length ∧ q_.2 ≤ q_.1) (μ := fun q_ => mb - q_.1) (s := (k, c)) 7 ((k + 1, c)) ⟨⟨(by first | omega | (dsimp only; omega)), by rw [missL_take (by omega), if_neg (by simp_all), hc], (by first | omega | (dsimp only; omega))⟩, by first | omega | (dsimp only; omega)⟩ ⟨rfl, rfl, rfl, rfl, rfl, rfl, rfl, rfl, rfl, rfl, rfl, rfl, rfl, rfl, rfl, rfl, rfl, rfl, rfl, rfl, rfl, rfl, rfl, rfl, rfl, rfl, rfl, rfl, rfl, rfl, rfl, rfl, rfl, rfl, rfl, rfl, rfl, rfl, rfl, rfl, rfl, rfl, rfl, rfl, rfl, rfl, rfl, rfl, rfl, rfl, rfl, rfl, rfl, rfl, rfl, rfl, rfl, rfl, rfl, rfl, rfl, rfl, trivial⟩ rfl
      · try simp only [Bool.and_eq_true, Bool.or_eq_true, Bool.not_eq_true', Bool.not_eq_false', Bool.and_eq_false_iff, Bool.or_eq_false_iff, decide_eq_true_eq, decide_eq_false_iff_not, Int.not_lt, Int.not_le, ne_eq, Decidable.not_not] at h7
        refine WC.exit ?_
        refine QX.exit_then ?_
        refine QX.exit_then ?_
        refine QX.exit_hit ?_
        refine QX.then_ ?_
        refine WC.seq ?_
        refine WC.region ?_
        refine SL.pure rfl rfl rfl (PureOp.move rfl) ?_
        refine SL.callM [0, 1, 2, 3, 4] rfl rfl rfl rfl rfl rfl callable20 (by decide) (pclose_ok b T R A false G ta2 ra2 (some ⟨ab, 0, none⟩) ga n tc2 rc2 n gc hM hn hR hs9 hA hK (by omega)  w0) rfl (fun _ _ => rfl) ?_
        rintro ⟨⟨ga8, gc8⟩, ⟨la, lc⟩⟩ _
        refine SL.norm [_, _, _, _, _, _, _, _] rfl ?_
        refine SL.pure rfl rfl rfl (PureOp.move rfl) ?_
        refine SL.pure rfl rfl rfl (PureOp.extract rfl rfl) ?_
        refine SL.pure rfl rfl rfl (PureOp.extract rfl rfl) ?_
        refine SL.pure rfl rfl rfl (PureOp.assign rfl) ?_
        refine SL.pure rfl rfl rfl (PureOp.assign rfl) ?_
        refine SL.nil_then ?_
        refine WC.seq ?_
        refine WC.seq ?_
        refine WC.region ?_
        refine SL.pure rfl rfl rfl (PureOp.move rfl) ?_
        refine SL.pure rfl rfl rfl (PureOp.gtr rfl rfl) ?_
        refine SL.nil_then ?_
        refine WC.cond rfl (fun h9 => ?_) (fun h9 => ?_)
        · try simp only [Bool.and_eq_true, Bool.or_eq_true, Bool.not_eq_true', Bool.not_eq_false', Bool.and_eq_false_iff, Bool.or_eq_false_iff, decide_eq_true_eq, decide_eq_false_iff_not, Int.not_lt, Int.not_le, ne_eq, Decidable.not_not] at h9
          have ek : G.take k = G := List.take_of_length_le (by omega)
          rw [ek] at hc
          obtain ⟨qE, qC, qL⟩ := close_lost (T := T) (A := A) (G := G) (by omega)
          refine WC.seq ?_
          refine WC.region ?_
          refine SL.pure rfl rfl rfl (PureOp.move rfl) ?_
          refine SL.pure rfl rfl rfl (PureOp.eql rfl rfl) ?_
          refine SL.lit 138 true rfl (by rw [qE]; rfl) ?_
          refine SL.pure rfl rfl rfl (PureOp.move rfl) ?_
          refine SL.ung rfl rfl rfl rfl ?_
          refine SL.pure rfl rfl rfl (PureOp.move rfl) ?_
          refine SL.ung rfl rfl rfl rfl ?_
          refine SL.pure rfl rfl rfl (PureOp.len rfl Try.underlying22) ?_
          refine SL.ung rfl rfl rfl rfl ?_
          refine SL.pure rfl rfl rfl (PureOp.eql rfl rfl) ?_
          refine SL.lit 142 true rfl (by rw [qL]; rfl) ?_
          refine SL.pure rfl rfl rfl (PureOp.pickT rfl rfl) ?_
          refine SL.pure rfl rfl rfl (PureOp.move rfl) ?_
          refine SL.ung rfl rfl rfl rfl ?_
          refine SL.pure rfl rfl rfl (PureOp.move rfl) ?_
          refine SL.ung rfl rfl rfl rfl ?_
          refine SL.callo (fun ma mc => .slice ma ((missL T A G).length) mc) rfl rfl rfl rfl rfl rfl callable14 (fun w hw => pmiss_ok b T R A (closeC T A false G) G ta2 ra2 (some ⟨ab, 0, none⟩) ga8 n tc2 rc2 n gc8 hM hn hR hs9 hA hK (by omega) w (ObjIn.of hw 0 rfl) (SliceIn.rows (l := T) (hw.mem (i := 1) rfl) encI_len (by omega)) (SliceIn.rows (l := R) (hw.mem (i := 2) rfl) encI_len (by omega)) (SliceIn.rows (l := A) (hw.mem (i := 3) rfl) encBo_len (Nat.le_of_eq (Eq.symm hA))) (SliceIn.rows (l := G) (hw.mem (i := 4) rfl) encBag_len (Nat.le_refl _))) (fun ma mc => ?_)
          refine SL.norm [_, _, _, _, _, _, _, _, _] rfl ?_
          refine SL.ung rfl rfl rfl rfl ?_
          refine SL.pure rfl rfl rfl (PureOp.len rfl Try.underlying38) ?_
          refine SL.ung rfl rfl rfl rfl ?_
          refine SL.pure rfl rfl rfl (PureOp.move rfl) ?_
          refine SL.ung rfl rfl rfl rfl ?_
          refine SL.pure rfl rfl rfl (PureOp.eql rfl rfl) ?_
          refine SL.lit 149 true rfl (by rw [hc]; simp) ?_
          refine SL.pure rfl rfl rfl (PureOp.pickT rfl rfl) ?_
          refine SL.pure rfl rfl rfl (PureOp.move rfl) ?_
          refine SL.ung rfl rfl rfl rfl ?_
          refine SL.calle rfl rfl rfl rfl rfl rfl callable8 (fun w hw => knows_ok w) ?_
          refine SL.norm [_, _, _, _, _, _, _, _, _] rfl ?_
          refine SL.pure rfl rfl rfl (PureOp.pickT rfl rfl) ?_
          refine SL.pure rfl rfl rfl (PureOp.assign rfl) ?_
          refine SL.nil_then ?_
          refine WC.ret ?_
          refine QX.ret_then ?_
          refine QX.ret1 rfl rfl ?_
          intro w hw
          rfl
        · try simp only [Bool.and_eq_true, Bool.or_eq_true, Bool.not_eq_true', Bool.not_eq_false', Bool.and_eq_false_iff, Bool.or_eq_false_iff, decide_eq_true_eq, decide_eq_false_iff_not, Int.not_lt, Int.not_le, ne_eq, Decidable.not_not] at h9
          have ek : G.take k = G := List.take_of_length_le (by omega)
          rw [ek] at hc
          obtain ⟨qE, qC, qL⟩ := close_all (T := T) (A := A) (G := G) hn (by omega)
          have b1 := listL_le T A false n
          have b2 : (closeL T A false G).length ≤ n := by rw [qL]; exact listL_le T A true n
          refine WC.skip ?_
          refine QX.then_ ?_
          refine WC.seq ?_
          refine WC.seq ?_
          refine WC.region ?_
          refine SL.pure rfl rfl rfl (PureOp.assign rfl) ?_
          refine SL.nil_then ?_
          refine WC.block ?_
          refine WC.loop (σ := Nat) (fun q_ => [(0, 0, .slice ta n tc), (1, 0, .slice ra m rc), (2, 0, .slice al nl cl_), (7, 0, .pointer (some ⟨b, 0, none⟩)), (8, 0, .int .i64 0), (9, 0, .slice oa mb oc), (10, 0, .int .i64 ((i : Nat) : Int)), (15, 0, .slice wa ((listL T A false n).length) wc), (16, 0, .int .i64 ((c : Nat) : Int)), (17, 0, .int .i64 ((k : Nat) : Int)), (18, 0, .slice la ((closeL T A false G).length) lc), (19, 0, .int .i64 (closeE T A false G)), (21, 0, .tuple #[.pointer (some ⟨b, 0, none⟩), .int .i64 0]), (22, 0, .slice ta n tc), (23, 0, .slice ra m rc), (24, 0, .tuple #[.pointer (some ⟨b, 0, none⟩), .int .i64 0]), (25, 0, .pointer (some ⟨b, 0, none⟩)), (26, 0, .int .i64 0), (27, 0, .int .i64 0), (28, 0, .bool false), (29, 0, .bool false), (30, 0, .slice ta n tc), (31, 0, .int .i64 ((n : Nat) : Int)), (32, 0, .bool (decide (60 < ((n : Nat) : Int)))), (33, 0, .bool (decide (60 < ((n : Nat) : Int)))), (35, 0, .int .i64 ((i : Nat) : Int)), (36, 0, .slice al nl cl_), (37, 0, .int .i64 ((nl : Nat) : Int)), (38, 0, .bool (decide (((i : Nat) : Int) < ((nl : Nat) : Int)))), (39, 0, .bool (decide (((i : Nat) : Int) < ((nl : Nat) : Int)))), (42, 0, .bool ((decide (((i : Nat) : Int) < ((nl : Nat) : Int))) && (decide (((i : Nat) : Int) < 60)))), (113, 0, .pointer (some ⟨b, 0, none⟩)), (114, 0, .slice wa ((listL T A false n).length) wc), (115, 0, .int .i64 ((k : Nat) : Int)), (116, 0, .slice oa mb oc), (117, 0, .int .i64 ((mb : Nat) : Int)), (118, 0, .bool (decide (((k : Nat) : Int) < ((mb : Nat) : Int)))), (130, 0, .tuple #[.slice la ((closeL T A false G).length) lc, .int .i64 (closeE T A false G)]), (131, 0, .pointer (some ⟨b, 0, none⟩)), (132, 0, .tuple #[.slice la ((closeL T A false G).length) lc, .int .i64 (closeE T A false G)]), (133, 0, .slice la ((closeL T A false G).length) lc), (134, 0, .int .i64 (closeE T A false G)), (135, 0, .int .i64 ((c : Nat) : Int)), (136, 0, .bool (decide (0 < ((c : Nat) : Int)))), (20, 0, .int .i64 ((q_ : Nat) : Int))]) (fun q_ => [Item.cells b [.bool true, .bool (closeC T A false G), .slice ta2 n tc2, .slice ra2 n rc2, .slice (some ⟨ab, 0, none⟩) n n, .slice ga8 G.length gc8] 44, Item.own w0.heap.size ta2 n tc2 3 1 (cellsOf encI T), Item.own w0.heap.size ra2 n rc2 3 1 (cellsOf encI R), Item.own w0.heap.size (some ⟨ab, 0, none⟩) n n 4 1 (cellsOf encBo A), Item.own w0.heap.size ga8 G.length gc8 47 3 (cellsOf encBag G), Item.own w0.heap.size oa mb oc 47 3 (cellsOf encBag (G)), Item.own w0.heap.size wa ((listL T A false n).length) wc 3 1 (cellsOf encI (listL T A false n)), Item.own w0.heap.size la ((closeL T A false G).length) lc 3 1 (cellsOf encI (closeL T A false G))]) (fun q_ => q_ ≤ n) (fun q_ => n - q_) 8 (0) (Nat.zero_le _) ⟨rfl, rfl, rfl, rfl, rfl, rfl, rfl, rfl, rfl, rfl, rfl, rfl, rfl, rfl, rfl, rfl, rfl, rfl, rfl, rfl, rfl, rfl, rfl, rfl, rfl, rfl, rfl, rfl, rfl, rfl, rfl, rfl, rfl, rfl, rfl, rfl, rfl, rfl, rfl, rfl, rfl, rfl, rfl, rfl, rfl, rfl, rfl, rfl, rfl, rfl, rfl, rfl, rfl, rfl, rfl, rfl, rfl, rfl, rfl, rfl, rfl, rfl, rfl, rfl, rfl, rfl, rfl, rfl, rfl, rfl, rfl, rfl, rfl, rfl, rfl, rfl, rfl, rfl, rfl, rfl, rfl, rfl, rfl, rfl, rfl, rfl, rfl, rfl, rfl, rfl, trivial⟩ rfl ?_
          rintro j hj
          refine WC.seq ?_
          refine WC.seq ?_
          refine WC.region ?_
          refine SL.pure rfl rfl rfl (PureOp.move rfl) ?_
          refine SL.pure rfl rfl rfl (PureOp.move rfl) ?_
          refine SL.pure rfl rfl rfl (PureOp.len rfl Try.underlying22) ?_
          refine SL.pure rfl rfl rfl (PureOp.lss rfl rfl) ?_
          refine SL.nil_then ?_
          refine WC.cond rfl (fun h10 => ?_) (fun h10 => ?_)
          · try simp only [Bool.and_eq_true, Bool.or_eq_true, Bool.not_eq_true', Bool.not_eq_false', Bool.and_eq_false_iff, Bool.or_eq_false_iff, decide_eq_true_eq, decide_eq_false_iff_not, Int.not_lt, Int.not_le, ne_eq, Decidable.not_not] at h10
            refine WC.skip ?_
            refine QX.then_ ?_
            refine WC.seq ?_
            refine WC.block ?_
            refine WC.seq ?_
            refine WC.quiet rfl (by kernel_rfl) ?_
            refine SQ.pure rfl rfl rfl (PureOp.move rfl) ?_
            refine SQ.pure rfl rfl rfl (PureOp.move rfl) ?_
            refine SQ.pure rfl rfl rfl (PureOp.move rfl) ?_
            refine SQ.pure rfl rfl rfl (PureOp.indexAddrN Try.underlying22 sz3 rfl rfl (AoOk.in_ sT) (fun _ => by omega)) ?_
            refine SQ.pure rfl rfl rfl (PureOp.load (v := .int .i64 (nth T j)) Try.underlying3 rfl rfl (fun _ => (CellIs.in_ sT j 0 (by omega) (by omega)))) ?_
            refine SQ.calle rfl rfl rfl rfl rfl rfl callable24 (fun w hw => (by have h := has_ok (listL T A false n) _ _ _ rfl (by have := listL_le T A false n; omega) (nth T j) w (SliceIn.rows (hw.mem (i := 6) rfl) encI_len (Nat.le_refl _)); have e : decide (0 ≤ ixT (listL T A false n) (nth T j)) = decide (nth A j = false) := (by rw [has_at hM hn (by omega)]); rw [e] at h; exact h)) ?_
            refine SQ.pure rfl rfl rfl (PureOp.move rfl) ?_
            refine SQ.pure rfl rfl rfl (PureOp.move rfl) ?_
            refine SQ.pure rfl rfl rfl (PureOp.move rfl) ?_
            refine SQ.pure rfl rfl rfl (PureOp.indexAddrN Try.underlying22 sz3 rfl rfl (AoOk.in_ sT) (fun _ => by omega)) ?_
            refine SQ.pure rfl rfl rfl (PureOp.load (v := .int .i64 (nth T j)) Try.underlying3 rfl rfl (fun _ => (CellIs.in_ sT j 0 (by omega) (by omega)))) ?_
            refine SQ.calle rfl rfl rfl rfl rfl rfl callable24 (fun w hw => (by have h := has_ok (closeL T A false G) _ _ _ rfl (by rw [qL]; have := listL_le T A true n; omega) (nth T j) w (SliceIn.rows (hw.mem (i := 7) rfl) encI_len (Nat.le_refl _)); have e : decide (0 ≤ ixT (closeL T A false G) (nth T j)) = decide (nth A j = true) := (by rw [qL, has_at hM hn (by omega)]); rw [e] at h; exact h)) ?_
            refine SQ.pure rfl rfl rfl (PureOp.eqlb rfl rfl Try.underlying4) ?_
            refine SQ.nil_then ?_
            refine WC.cond rfl (fun h11 => ?_) (fun h11 => ?_)
            · try simp only [Bool.and_eq_true, Bool.or_eq_true, Bool.not_eq_true', Bool.not_eq_false', Bool.and_eq_false_iff, Bool.or_eq_false_iff, decide_eq_true_eq, decide_eq_false_iff_not, Int.not_lt, Int.not_le, ne_eq, Decidable.not_not] at h11
              exact (by exfalso; revert h11; cases nth A j <;> simp)
            · try simp only [Bool.and_eq_true, Bool.or_eq_true, Bool.not_eq_true', Bool.not_eq_false', Bool.and_eq_false_iff, Bool.or_eq_false_iff, decide_eq_true_eq, decide_eq_false_iff_not, Int.not_lt, Int.not_le, ne_eq, Decidable.not_not] at h11
              refine WC.skip ?_
              refine QX.normal_in ?_
              refine QX.then_ ?_
              refine WC.region ?_
              refine SL.pure rfl rfl rfl (PureOp.move rfl) ?_
              refine SL.pure rfl rfl rfl (PureOp.addN (k := 1) rfl rfl (fun _ => by omega)) ?_
              refine SL.pure rfl rfl rfl (PureOp.assign rfl) ?_
              refine SL.nil ?_
              refine QX.round 8 (j + 1) ⟨(by first | omega | (dsimp only; omega)), by first | omega | (dsimp only; omega)⟩ ⟨rfl, rfl, rfl, rfl, rfl, rfl, rfl, rfl, rfl, rfl, rfl, rfl, rfl, rfl, rfl, rfl, rfl, rfl, rfl, rfl, rfl, rfl, rfl, rfl, rfl, rfl, rfl, rfl, rfl, rfl, rfl, rfl, rfl, rfl, rfl, rfl, rfl, rfl, rfl, rfl, rfl, rfl, rfl, rfl, rfl, rfl, rfl, rfl, rfl, rfl, rfl, rfl, rfl, rfl, rfl, rfl, rfl, rfl, rfl, rfl, rfl, rfl, rfl, rfl, rfl, rfl, rfl, rfl, rfl, rfl, rfl, rfl, rfl, rfl, rfl, rfl, rfl, rfl, rfl, rfl, rfl, rfl, rfl, rfl, rfl, rfl, rfl, rfl, rfl, rfl, trivial⟩ rfl
          · try simp only [Bool.and_eq_true, Bool.or_eq_true, Bool.not_eq_true', Bool.not_eq_false', Bool.and_eq_false_iff, Bool.or_eq_false_iff, decide_eq_true_eq, decide_eq_false_iff_not, Int.not_lt, Int.not_le, ne_eq, Decidable.not_not] at h10
            refine WC.exit ?_
            refine QX.exit_then ?_
            refine QX.exit_then ?_
            refine QX.exit_hit ?_
            refine QX.then_ ?_
            refine WC.seq ?_
            refine WC.region ?_
            refine SL.pure rfl rfl rfl (PureOp.move rfl) ?_
            refine SL.pure rfl rfl rfl (PureOp.eql rfl rfl) ?_
            refine SL.lit 174 true rfl (by rw [qE]; rfl) ?_
            refine SL.pure rfl rfl rfl (PureOp.move rfl) ?_
            refine SL.ung rfl rfl rfl rfl ?_
            refine SL.pure rfl rfl rfl (PureOp.move rfl) ?_
            refine SL.ung rfl rfl rfl rfl ?_
            refine SL.pure rfl rfl rfl (PureOp.len rfl Try.underlying22) ?_
            refine SL.ung rfl rfl rfl rfl ?_
            refine SL.pure rfl rfl rfl (PureOp.move rfl) ?_
            refine SL.ung rfl rfl rfl rfl ?_
            refine SL.pure rfl rfl rfl (PureOp.len rfl Try.underlying22) ?_
            refine SL.ung rfl rfl rfl rfl ?_
            refine SL.pure rfl rfl rfl (PureOp.add rfl rfl (fun _ => by omega)) ?_
            refine SL.ung rfl rfl rfl rfl ?_
            refine SL.pure rfl rfl rfl (PureOp.move rfl) ?_
            refine SL.ung rfl rfl rfl rfl ?_
            refine SL.pure rfl rfl rfl (PureOp.len rfl Try.underlying22) ?_
            refine SL.ung rfl rfl rfl rfl ?_
            refine SL.pure rfl rfl rfl (PureOp.eql rfl rfl) ?_
            refine SL.lit 183 true rfl (by rw [qL]; have q := list_sum (T := T) (A := A) n; simp; omega) ?_
            refine SL.pure rfl rfl rfl (PureOp.pickT rfl rfl) ?_
            refine SL.pure rfl rfl rfl (PureOp.move rfl) ?_
            refine SL.ung rfl rfl rfl rfl ?_
            refine SL.pure rfl rfl rfl (PureOp.move rfl) ?_
            refine SL.ung rfl rfl rfl rfl ?_
            refine SL.callM [0, 1, 2, 3, 4] rfl rfl rfl rfl rfl rfl callable22 (by decide) (pboard_ok b T R A (closeC T A false G) G ta2 ra2 (some ⟨ab, 0, none⟩) ga8 n tc2 rc2 n gc8 hM hn hR hs9 hA hK (by omega) 0 w0) rfl (fun _ _ => rfl) ?_
            rintro ⟨ga9, gc9⟩ _
            refine SL.norm [_, _, _, _, _, _, _, _] rfl ?_
            refine SL.ung rfl rfl rfl rfl ?_
            refine SL.pure rfl rfl rfl (PureOp.eql rfl rfl) ?_
            refine SL.lit 188 true rfl (by rw [qC, movE, if_pos rfl]; rfl) ?_
            refine SL.pure rfl rfl rfl (PureOp.pickT rfl rfl) ?_
            refine SL.pure rfl rfl rfl (PureOp.move rfl) ?_
            refine SL.ung rfl rfl rfl rfl ?_
            refine SL.calle rfl rfl rfl rfl rfl rfl callable8 (fun w hw => knows_ok w) ?_
            refine SL.norm [_, _, _, _, _, _, _, _] rfl ?_
            refine SL.pure rfl rfl rfl (PureOp.pickT rfl rfl) ?_
            refine SL.pure rfl rfl rfl (PureOp.assign rfl) ?_
            refine SL.nil_then ?_
            refine WC.ret ?_
            refine QX.ret1 rfl rfl ?_
            intro w hw
            rfl

end Go.Proofs.Ythbgnjengkjigaa
