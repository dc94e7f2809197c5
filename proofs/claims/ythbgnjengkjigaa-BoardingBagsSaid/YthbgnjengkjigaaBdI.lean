import Derived.Test.YthbgnjengkjigaaBdH
namespace Go.Proofs.Ythbgnjengkjigaa
open Go Go.RowKit Eng
set_option linter.unusedVariables false
set_option linter.unusedSimpArgs false

set_option maxHeartbeats 4000000 in
set_option maxRecDepth 100000 in
theorem samei_ok (l : List Int) (a1 a2 : Option Addr) (n1 n2 c1 c2 : Nat) (hn1 : n1 = l.length) (hn2 : n2 = l.length) (w0 : World) (hz1 : SliceIn w0 1 a1 n1 c1 (rowsF encI l)) (hz2 : SliceIn w0 1 a2 n2 c2 (rowsF encI l)) (hnb : n1 ≤ 100000) : FnC Try.prog 16 [.slice a1 n1 c1, .slice a2 n2 c2] w0 fun v w' => v = .bool true := by
  refine fnc (N := 26) Try.func16 rfl rfl rfl ?_
  refine WC.seq ?_
  refine WC.region ?_
  refine SL.pure rfl rfl rfl (PureOp.assign rfl) ?_
  refine SL.nil_then ?_
  refine WC.seq ?_
  refine WC.seq ?_
  refine WC.region ?_
  refine SL.pure rfl rfl rfl (PureOp.move rfl) ?_
  refine SL.pure rfl rfl rfl (PureOp.len rfl Try.underlying22) ?_
  refine SL.pure rfl rfl rfl (PureOp.move rfl) ?_
  refine SL.pure rfl rfl rfl (PureOp.len rfl Try.underlying22) ?_
  refine SL.pure rfl rfl rfl (PureOp.neq rfl rfl) ?_
  refine SL.nil_then ?_
  refine WC.cond rfl (fun h1 => ?_) (fun h1 => ?_)
  · try simp only [Bool.and_eq_true, Bool.or_eq_true, Bool.not_eq_true', Bool.not_eq_false', Bool.and_eq_false_iff, Bool.or_eq_false_iff, decide_eq_true_eq, decide_eq_false_iff_not, Int.not_lt, Int.not_le, ne_eq, Decidable.not_not] at h1
    exact absurd h1 (by omega)
  · try simp only [Bool.and_eq_true, Bool.or_eq_true, Bool.not_eq_true', Bool.not_eq_false', Bool.and_eq_false_iff, Bool.or_eq_false_iff, decide_eq_true_eq, decide_eq_false_iff_not, Int.not_lt, Int.not_le, ne_eq, Decidable.not_not] at h1
    refine WC.skip ?_
    refine QX.then_ ?_
    refine WC.seq ?_
    refine WC.seq ?_
    refine WC.region ?_
    refine SL.pure rfl rfl rfl (PureOp.assign rfl) ?_
    refine SL.nil_then ?_
    refine WC.block ?_
    refine WC.loop (σ := Nat) (fun q_ => [(0, 0, .slice a1 n1 c1), (1, 0, .slice a2 n2 c2), (6, 0, .slice a1 n1 c1), (7, 0, .int .i64 ((n1 : Nat) : Int)), (8, 0, .slice a2 n2 c2), (9, 0, .int .i64 ((n2 : Nat) : Int)), (10, 0, .bool (decide (((n1 : Nat) : Int) ≠ ((n2 : Nat) : Int)))), (5, 0, .int .i64 ((q_ : Nat) : Int))]) (fun q_ => []) (fun q_ => q_ ≤ n1) (fun q_ => n1 - q_) 0 (0) (Nat.zero_le _) ⟨rfl, rfl, rfl, rfl, rfl, rfl, rfl, rfl, rfl, rfl, rfl, rfl, rfl, rfl, rfl, rfl, trivial⟩ rfl ?_
    rintro k hk
    refine WC.seq ?_
    refine WC.seq ?_
    refine WC.region ?_
    refine SL.pure rfl rfl rfl (PureOp.move rfl) ?_
    refine SL.pure rfl rfl rfl (PureOp.move rfl) ?_
    refine SL.pure rfl rfl rfl (PureOp.len rfl Try.underlying22) ?_
    refine SL.pure rfl rfl rfl (PureOp.lss rfl rfl) ?_
    refine SL.nil_then ?_
    refine WC.cond rfl (fun h2 => ?_) (fun h2 => ?_)
    · try simp only [Bool.and_eq_true, Bool.or_eq_true, Bool.not_eq_true', Bool.not_eq_false', Bool.and_eq_false_iff, Bool.or_eq_false_iff, decide_eq_true_eq, decide_eq_false_iff_not, Int.not_lt, Int.not_le, ne_eq, Decidable.not_not] at h2
      refine WC.skip ?_
      refine QX.then_ ?_
      refine WC.seq ?_
      refine WC.block ?_
      refine WC.seq ?_
      refine WC.quiet rfl (by kernel_rfl) ?_
      refine SQ.pure rfl rfl rfl (PureOp.move rfl) ?_
      refine SQ.pure rfl rfl rfl (PureOp.move rfl) ?_
      refine SQ.pure rfl rfl rfl (PureOp.indexAddrN Try.underlying22 sz3 rfl rfl (AoOk.in_ hz1) (fun _ => by omega)) ?_
      refine SQ.pure rfl rfl rfl (PureOp.load (v := .int .i64 (nth l k)) Try.underlying3 rfl rfl (fun _ => (CellIs.in_ hz1 k 0 (by omega) (by omega)))) ?_
      refine SQ.pure rfl rfl rfl (PureOp.move rfl) ?_
      refine SQ.pure rfl rfl rfl (PureOp.move rfl) ?_
      refine SQ.pure rfl rfl rfl (PureOp.indexAddrN Try.underlying22 sz3 rfl rfl (AoOk.in_ hz2) (fun _ => by omega)) ?_
      refine SQ.pure rfl rfl rfl (PureOp.load (v := .int .i64 (nth l k)) Try.underlying3 rfl rfl (fun _ => (CellIs.in_ hz2 k 0 (by omega) (by omega)))) ?_
      refine SQ.pure rfl rfl rfl (PureOp.neq rfl rfl) ?_
      refine SQ.nil_then ?_
      refine WC.cond rfl (fun h3 => ?_) (fun h3 => ?_)
      · try simp only [Bool.and_eq_true, Bool.or_eq_true, Bool.not_eq_true', Bool.not_eq_false', Bool.and_eq_false_iff, Bool.or_eq_false_iff, decide_eq_true_eq, decide_eq_false_iff_not, Int.not_lt, Int.not_le, ne_eq, Decidable.not_not] at h3
        exact absurd h3 (by simp [eqB, eqV])
      · try simp only [Bool.and_eq_true, Bool.or_eq_true, Bool.not_eq_true', Bool.not_eq_false', Bool.and_eq_false_iff, Bool.or_eq_false_iff, decide_eq_true_eq, decide_eq_false_iff_not, Int.not_lt, Int.not_le, ne_eq, Decidable.not_not] at h3
        refine WC.skip ?_
        refine QX.normal_in ?_
        refine QX.then_ ?_
        refine WC.region ?_
        refine SL.pure rfl rfl rfl (PureOp.move rfl) ?_
        refine SL.pure rfl rfl rfl (PureOp.addN (k := 1) rfl rfl (fun _ => by omega)) ?_
        refine SL.pure rfl rfl rfl (PureOp.assign rfl) ?_
        refine SL.nil ?_
        refine QX.round 0 (k + 1) ⟨by omega, by first | omega | (dsimp only; omega)⟩ ⟨rfl, rfl, rfl, rfl, rfl, rfl, rfl, rfl, rfl, rfl, rfl, rfl, rfl, rfl, rfl, rfl, trivial⟩ rfl
    · try simp only [Bool.and_eq_true, Bool.or_eq_true, Bool.not_eq_true', Bool.not_eq_false', Bool.and_eq_false_iff, Bool.or_eq_false_iff, decide_eq_true_eq, decide_eq_false_iff_not, Int.not_lt, Int.not_le, ne_eq, Decidable.not_not] at h2
      refine WC.exit ?_
      refine QX.exit_then ?_
      refine QX.exit_then ?_
      refine QX.exit_hit ?_
      refine QX.then_ ?_
      refine WC.seq ?_
      refine WC.region ?_
      refine SL.pure rfl rfl rfl (PureOp.assign rfl) ?_
      refine SL.nil_then ?_
      refine WC.ret ?_
      refine QX.ret1 rfl rfl ?_
      intro w hw
      rfl

set_option maxHeartbeats 4000000 in
set_option maxRecDepth 100000 in
theorem sameb_ok (l : List Bag) (a1 a2 : Option Addr) (n1 n2 c1 c2 : Nat) (hn1 : n1 = l.length) (hn2 : n2 = l.length) (w0 : World) (hz1 : SliceIn w0 3 a1 n1 c1 (rowsF encBag l)) (hz2 : SliceIn w0 3 a2 n2 c2 (rowsF encBag l)) (hnb : n1 ≤ 100000) : FnC Try.prog 13 [.slice a1 n1 c1, .slice a2 n2 c2] w0 fun v w' => v = .bool true := by
  refine fnc (N := 26) Try.func13 rfl rfl rfl ?_
  refine WC.seq ?_
  refine WC.region ?_
  refine SL.pure rfl rfl rfl (PureOp.assign rfl) ?_
  refine SL.nil_then ?_
  refine WC.seq ?_
  refine WC.seq ?_
  refine WC.region ?_
  refine SL.pure rfl rfl rfl (PureOp.move rfl) ?_
  refine SL.pure rfl rfl rfl (PureOp.len rfl Try.underlying38) ?_
  refine SL.pure rfl rfl rfl (PureOp.move rfl) ?_
  refine SL.pure rfl rfl rfl (PureOp.len rfl Try.underlying38) ?_
  refine SL.pure rfl rfl rfl (PureOp.neq rfl rfl) ?_
  refine SL.nil_then ?_
  refine WC.cond rfl (fun h1 => ?_) (fun h1 => ?_)
  · try simp only [Bool.and_eq_true, Bool.or_eq_true, Bool.not_eq_true', Bool.not_eq_false', Bool.and_eq_false_iff, Bool.or_eq_false_iff, decide_eq_true_eq, decide_eq_false_iff_not, Int.not_lt, Int.not_le, ne_eq, Decidable.not_not] at h1
    exact absurd h1 (by omega)
  · try simp only [Bool.and_eq_true, Bool.or_eq_true, Bool.not_eq_true', Bool.not_eq_false', Bool.and_eq_false_iff, Bool.or_eq_false_iff, decide_eq_true_eq, decide_eq_false_iff_not, Int.not_lt, Int.not_le, ne_eq, Decidable.not_not] at h1
    refine WC.skip ?_
    refine QX.then_ ?_
    refine WC.seq ?_
    refine WC.seq ?_
    refine WC.region ?_
    refine SL.pure rfl rfl rfl (PureOp.assign rfl) ?_
    refine SL.nil_then ?_
    refine WC.block ?_
    refine WC.loop (σ := Nat) (fun q_ => [(0, 0, .slice a1 n1 c1), (1, 0, .slice a2 n2 c2), (6, 0, .slice a1 n1 c1), (7, 0, .int .i64 ((n1 : Nat) : Int)), (8, 0, .slice a2 n2 c2), (9, 0, .int .i64 ((n2 : Nat) : Int)), (10, 0, .bool (decide (((n1 : Nat) : Int) ≠ ((n2 : Nat) : Int)))), (5, 0, .int .i64 ((q_ : Nat) : Int))]) (fun q_ => []) (fun q_ => q_ ≤ n1) (fun q_ => n1 - q_) 0 (0) (Nat.zero_le _) ⟨rfl, rfl, rfl, rfl, rfl, rfl, rfl, rfl, rfl, rfl, rfl, rfl, rfl, rfl, rfl, rfl, trivial⟩ rfl ?_
    rintro k hk
    refine WC.seq ?_
    refine WC.seq ?_
    refine WC.region ?_
    refine SL.pure rfl rfl rfl (PureOp.move rfl) ?_
    refine SL.pure rfl rfl rfl (PureOp.move rfl) ?_
    refine SL.pure rfl rfl rfl (PureOp.len rfl Try.underlying38) ?_
    refine SL.pure rfl rfl rfl (PureOp.lss rfl rfl) ?_
    refine SL.nil_then ?_
    refine WC.cond rfl (fun h2 => ?_) (fun h2 => ?_)
    · try simp only [Bool.and_eq_true, Bool.or_eq_true, Bool.not_eq_true', Bool.not_eq_false', Bool.and_eq_false_iff, Bool.or_eq_false_iff, decide_eq_true_eq, decide_eq_false_iff_not, Int.not_lt, Int.not_le, ne_eq, Decidable.not_not] at h2
      refine WC.skip ?_
      refine QX.then_ ?_
      refine WC.seq ?_
      refine WC.block ?_
      refine WC.seq ?_
      refine WC.quiet rfl (by kernel_rfl) ?_
      refine SQ.pure rfl rfl rfl (PureOp.move rfl) ?_
      refine SQ.pure rfl rfl rfl (PureOp.move rfl) ?_
      refine SQ.pure rfl rfl rfl (PureOp.indexAddrN Try.underlying38 sz47 rfl rfl (AoOk.in_ hz1) (fun _ => by omega)) ?_
      refine SQ.pure rfl rfl rfl (PureOp.loads (vs := [.int .i64 ((nth l k).1), .int .i64 ((nth l k).2.1), .int .i64 ((nth l k).2.2)]) Try.underlying47 rfl rfl (fun _ => (RowIs.in_ hz1 k 0 3 (by omega) (by omega))) sz47) ?_
      refine SQ.pure rfl rfl rfl (PureOp.move rfl) ?_
      refine SQ.pure rfl rfl rfl (PureOp.move rfl) ?_
      refine SQ.pure rfl rfl rfl (PureOp.indexAddrN Try.underlying38 sz47 rfl rfl (AoOk.in_ hz2) (fun _ => by omega)) ?_
      refine SQ.pure rfl rfl rfl (PureOp.loads (vs := [.int .i64 ((nth l k).1), .int .i64 ((nth l k).2.1), .int .i64 ((nth l k).2.2)]) Try.underlying47 rfl rfl (fun _ => (RowIs.in_ hz2 k 0 3 (by omega) (by omega))) sz47) ?_
      refine SQ.pure rfl rfl rfl (PureOp.neqa rfl rfl flat47 rfl) ?_
      refine SQ.nil_then ?_
      refine WC.cond rfl (fun h3 => ?_) (fun h3 => ?_)
      · try simp only [Bool.and_eq_true, Bool.or_eq_true, Bool.not_eq_true', Bool.not_eq_false', Bool.and_eq_false_iff, Bool.or_eq_false_iff, decide_eq_true_eq, decide_eq_false_iff_not, Int.not_lt, Int.not_le, ne_eq, Decidable.not_not] at h3
        exact absurd h3 (by simp [eqB, eqV])
      · try simp only [Bool.and_eq_true, Bool.or_eq_true, Bool.not_eq_true', Bool.not_eq_false', Bool.and_eq_false_iff, Bool.or_eq_false_iff, decide_eq_true_eq, decide_eq_false_iff_not, Int.not_lt, Int.not_le, ne_eq, Decidable.not_not] at h3
        refine WC.skip ?_
        refine QX.normal_in ?_
        refine QX.then_ ?_
        refine WC.region ?_
        refine SL.pure rfl rfl rfl (PureOp.move rfl) ?_
        refine SL.pure rfl rfl rfl (PureOp.addN (k := 1) rfl rfl (fun _ => by omega)) ?_
        refine SL.pure rfl rfl rfl (PureOp.assign rfl) ?_
        refine SL.nil ?_
        refine QX.round 0 (k + 1) ⟨by omega, by first | omega | (dsimp only; omega)⟩ ⟨rfl, rfl, rfl, rfl, rfl, rfl, rfl, rfl, rfl, rfl, rfl, rfl, rfl, rfl, rfl, rfl, trivial⟩ rfl
    · try simp only [Bool.and_eq_true, Bool.or_eq_true, Bool.not_eq_true', Bool.not_eq_false', Bool.and_eq_false_iff, Bool.or_eq_false_iff, decide_eq_true_eq, decide_eq_false_iff_not, Int.not_lt, Int.not_le, ne_eq, Decidable.not_not] at h2
      refine WC.exit ?_
      refine QX.exit_then ?_
      refine QX.exit_then ?_
      refine QX.exit_hit ?_
      refine QX.then_ ?_
      refine WC.seq ?_
      refine WC.region ?_
      refine SL.pure rfl rfl rfl (PureOp.assign rfl) ?_
      refine SL.nil_then ?_
      refine WC.ret ?_
      refine QX.ret1 rfl rfl ?_
      intro w hw
      rfl

theorem made78 : Made [7, 8] [1, 30] := made_of (by decide)
theorem known0 (T : List Int) : Known T [] := fun b hb => by cases hb
theorem known1 : Known [7, 8] [(5, 7, 20)] := fun b hb => by
  obtain rfl : b = (5, 7, 20) := by simpa using hb
  decide
theorem kload (b : Nat) (ta ra aa ga : Option Addr) (tc rc ac gc : Nat) (w0 : World) : MC Try.prog 21 [.pointer (some ⟨b, 0, none⟩), .agg (encBag (5, 7, 20)).toArray] w0 [Item.cells b [.bool true, .bool false, .slice ta 2 tc, .slice ra 2 rc, .slice aa 2 ac, .slice ga (([] : List Bag).length) gc] 44, Item.own w0.heap.size ta 2 tc 3 1 (cellsOf encI ([7, 8] : List Int)), Item.own w0.heap.size ra 2 rc 3 1 (cellsOf encI ([1, 30] : List Int)), Item.own w0.heap.size aa 2 ac 4 1 (cellsOf encBo ([false, false] : List Bool)), Item.own w0.heap.size ga (([] : List Bag).length) gc 47 3 (cellsOf encBag ([] : List Bag))] (fun u_ : Option Addr × Nat => .int .i64 0) (fun u_ => [Item.cells b [.bool true, .bool false, .slice ta 2 tc, .slice ra 2 rc, .slice aa 2 ac, .slice u_.1 (([((5, 7, 20) : Bag)]).length) u_.2] 44, Item.own w0.heap.size ta 2 tc 3 1 (cellsOf encI ([7, 8] : List Int)), Item.own w0.heap.size ra 2 rc 3 1 (cellsOf encI ([1, 30] : List Int)), Item.own w0.heap.size aa 2 ac 4 1 (cellsOf encBo ([false, false] : List Bool)), Item.own w0.heap.size u_.1 (([((5, 7, 20) : Bag)]).length) u_.2 47 3 (cellsOf encBag ([((5, 7, 20) : Bag)]))]) (fun _ => True) (fun _ => []) := by
  have h := pload_ok b [7, 8] [1, 30] [false, false] false ([] : List Bag) ta ra aa ga 2 tc rc ac gc made78 rfl rfl (by decide) rfl (known0 _) (by decide) (5, 7, 20) w0
  have e0 : loadE [7, 8] false ([] : List Bag) (5, 7, 20) = 0 := by decide
  have e1 : loadG [7, 8] false ([] : List Bag) (5, 7, 20) = [((5, 7, 20) : Bag)] := by decide
  rw [e0, e1] at h
  exact h
theorem kboard (b : Nat) (ta ra aa ga : Option Addr) (tc rc ac gc : Nat) (w0 : World) : MC Try.prog 22 [.pointer (some ⟨b, 0, none⟩), .int .i64 8] w0 [Item.cells b [.bool true, .bool false, .slice ta 2 tc, .slice ra 2 rc, .slice aa 2 ac, .slice ga (([((5, 7, 20) : Bag)]).length) gc] 44, Item.own w0.heap.size ta 2 tc 3 1 (cellsOf encI ([7, 8] : List Int)), Item.own w0.heap.size ra 2 rc 3 1 (cellsOf encI ([1, 30] : List Int)), Item.own w0.heap.size aa 2 ac 4 1 (cellsOf encBo ([false, false] : List Bool)), Item.own w0.heap.size ga (([((5, 7, 20) : Bag)]).length) gc 47 3 (cellsOf encBag ([((5, 7, 20) : Bag)]))] (fun u_ : Option Addr × Nat => .int .i64 0) (fun u_ => [Item.cells b [.bool true, .bool false, .slice ta 2 tc, .slice ra 2 rc, .slice aa 2 ac, .slice u_.1 (([((5, 7, 20) : Bag)]).length) u_.2] 44, Item.own w0.heap.size ta 2 tc 3 1 (cellsOf encI ([7, 8] : List Int)), Item.own w0.heap.size ra 2 rc 3 1 (cellsOf encI ([1, 30] : List Int)), Item.own w0.heap.size aa 2 ac 4 1 (cellsOf encBo ([false, true] : List Bool)), Item.own w0.heap.size u_.1 (([((5, 7, 20) : Bag)]).length) u_.2 47 3 (cellsOf encBag ([((5, 7, 20) : Bag)]))]) (fun _ => True) (fun _ => []) := by
  have h := pboard_ok b [7, 8] [1, 30] [false, false] false ([((5, 7, 20) : Bag)]) ta ra aa ga 2 tc rc ac gc made78 rfl rfl (by decide) rfl known1 (by decide) 8 w0
  have e0 : movE [7, 8] [false, false] false 8 true 6 = 0 := by decide
  have e1 : movA [7, 8] [false, false] false 8 true = [false, true] := by decide
  rw [e0, e1] at h
  exact h
theorem kclose1 (b : Nat) (ta ra aa ga : Option Addr) (tc rc ac gc : Nat) (w0 : World) : MC Try.prog 20 [.pointer (some ⟨b, 0, none⟩)] w0 [Item.cells b [.bool true, .bool false, .slice ta 2 tc, .slice ra 2 rc, .slice aa 2 ac, .slice ga (([((5, 7, 20) : Bag)]).length) gc] 44, Item.own w0.heap.size ta 2 tc 3 1 (cellsOf encI ([7, 8] : List Int)), Item.own w0.heap.size ra 2 rc 3 1 (cellsOf encI ([1, 30] : List Int)), Item.own w0.heap.size aa 2 ac 4 1 (cellsOf encBo ([false, true] : List Bool)), Item.own w0.heap.size ga (([((5, 7, 20) : Bag)]).length) gc 47 3 (cellsOf encBag ([((5, 7, 20) : Bag)]))] (fun u_ : (Option Addr × Nat) × (Option Addr × Nat) => .tuple #[.slice u_.2.1 0 u_.2.2, .int .i64 34]) (fun u_ => [Item.cells b [.bool true, .bool false, .slice ta 2 tc, .slice ra 2 rc, .slice aa 2 ac, .slice u_.1.1 (([((5, 7, 20) : Bag)]).length) u_.1.2] 44, Item.own w0.heap.size ta 2 tc 3 1 (cellsOf encI ([7, 8] : List Int)), Item.own w0.heap.size ra 2 rc 3 1 (cellsOf encI ([1, 30] : List Int)), Item.own w0.heap.size aa 2 ac 4 1 (cellsOf encBo ([false, true] : List Bool)), Item.own w0.heap.size u_.1.1 (([((5, 7, 20) : Bag)]).length) u_.1.2 47 3 (cellsOf encBag ([((5, 7, 20) : Bag)]))]) (fun _ => True) (fun u_ => [.own w0.heap.size u_.2.1 0 u_.2.2 3 1 (cellsOf encI ([] : List Int))]) := by
  have h := pclose_ok b [7, 8] [1, 30] [false, true] false ([((5, 7, 20) : Bag)]) ta ra aa ga 2 tc rc ac gc made78 rfl rfl (by decide) rfl known1 (by decide)  w0
  have e0 : closeE [7, 8] [false, true] false ([((5, 7, 20) : Bag)]) = 34 := by decide
  have e1 : closeC [7, 8] [false, true] false ([((5, 7, 20) : Bag)]) = false := by decide
  have e2 : closeL [7, 8] [false, true] false ([((5, 7, 20) : Bag)]) = [] := by decide
  rw [e0, e1, e2] at h
  exact h
theorem kun1 (b : Nat) (ta ra aa ga : Option Addr) (tc rc ac gc : Nat) (w0 : World) : MC Try.prog 19 [.pointer (some ⟨b, 0, none⟩), .int .i64 5] w0 [Item.cells b [.bool true, .bool false, .slice ta 2 tc, .slice ra 2 rc, .slice aa 2 ac, .slice ga (([((5, 7, 20) : Bag)]).length) gc] 44, Item.own w0.heap.size ta 2 tc 3 1 (cellsOf encI ([7, 8] : List Int)), Item.own w0.heap.size ra 2 rc 3 1 (cellsOf encI ([1, 30] : List Int)), Item.own w0.heap.size aa 2 ac 4 1 (cellsOf encBo ([false, true] : List Bool)), Item.own w0.heap.size ga (([((5, 7, 20) : Bag)]).length) gc 47 3 (cellsOf encBag ([((5, 7, 20) : Bag)]))] (fun u_ : Option Addr × Nat => .tuple #[.agg (encBag (5, 7, 20)).toArray, .int .i64 0]) (fun u_ => [Item.cells b [.bool true, .bool false, .slice ta 2 tc, .slice ra 2 rc, .slice aa 2 ac, .slice u_.1 (([] : List Bag).length) u_.2] 44, Item.own w0.heap.size ta 2 tc 3 1 (cellsOf encI ([7, 8] : List Int)), Item.own w0.heap.size ra 2 rc 3 1 (cellsOf encI ([1, 30] : List Int)), Item.own w0.heap.size aa 2 ac 4 1 (cellsOf encBo ([false, true] : List Bool)), Item.own w0.heap.size u_.1 (([] : List Bag).length) u_.2 47 3 (cellsOf encBag ([] : List Bag))]) (fun _ => True) (fun _ => []) := by
  have h := punload_ok b [7, 8] [1, 30] [false, true] false ([((5, 7, 20) : Bag)]) ta ra aa ga 2 tc rc ac gc made78 rfl rfl (by decide) rfl known1 (by decide) 5 w0
  have e0 : unE false ([((5, 7, 20) : Bag)]) 5 = 0 := by decide
  have e1 : unG false ([((5, 7, 20) : Bag)]) 5 = ([] : List Bag) := by decide
  have e2 : unB false ([((5, 7, 20) : Bag)]) 5 = (5, 7, 20) := by decide
  rw [e0, e1, e2] at h
  exact h
theorem kun2 (b : Nat) (ta ra aa ga : Option Addr) (tc rc ac gc : Nat) (w0 : World) : MC Try.prog 19 [.pointer (some ⟨b, 0, none⟩), .int .i64 5] w0 [Item.cells b [.bool true, .bool false, .slice ta 2 tc, .slice ra 2 rc, .slice aa 2 ac, .slice ga (([] : List Bag).length) gc] 44, Item.own w0.heap.size ta 2 tc 3 1 (cellsOf encI ([7, 8] : List Int)), Item.own w0.heap.size ra 2 rc 3 1 (cellsOf encI ([1, 30] : List Int)), Item.own w0.heap.size aa 2 ac 4 1 (cellsOf encBo ([false, true] : List Bool)), Item.own w0.heap.size ga (([] : List Bag).length) gc 47 3 (cellsOf encBag ([] : List Bag))] (fun u_ : Option Addr × Nat => .tuple #[.agg (encBag (0, 0, 0)).toArray, .int .i64 7]) (fun u_ => [Item.cells b [.bool true, .bool false, .slice ta 2 tc, .slice ra 2 rc, .slice aa 2 ac, .slice u_.1 (([] : List Bag).length) u_.2] 44, Item.own w0.heap.size ta 2 tc 3 1 (cellsOf encI ([7, 8] : List Int)), Item.own w0.heap.size ra 2 rc 3 1 (cellsOf encI ([1, 30] : List Int)), Item.own w0.heap.size aa 2 ac 4 1 (cellsOf encBo ([false, true] : List Bool)), Item.own w0.heap.size u_.1 (([] : List Bag).length) u_.2 47 3 (cellsOf encBag ([] : List Bag))]) (fun _ => True) (fun _ => []) := by
  have h := punload_ok b [7, 8] [1, 30] [false, true] false ([] : List Bag) ta ra aa ga 2 tc rc ac gc made78 rfl rfl (by decide) rfl (known0 _) (by decide) 5 w0
  have e0 : unE false ([] : List Bag) 5 = 7 := by decide
  have e1 : unG false ([] : List Bag) 5 = ([] : List Bag) := by decide
  have e2 : unB false ([] : List Bag) 5 = (0, 0, 0) := by decide
  rw [e0, e1, e2] at h
  exact h
theorem kclose2 (b : Nat) (ta ra aa ga : Option Addr) (tc rc ac gc : Nat) (w0 : World) : MC Try.prog 20 [.pointer (some ⟨b, 0, none⟩)] w0 [Item.cells b [.bool true, .bool false, .slice ta 2 tc, .slice ra 2 rc, .slice aa 2 ac, .slice ga (([] : List Bag).length) gc] 44, Item.own w0.heap.size ta 2 tc 3 1 (cellsOf encI ([7, 8] : List Int)), Item.own w0.heap.size ra 2 rc 3 1 (cellsOf encI ([1, 30] : List Int)), Item.own w0.heap.size aa 2 ac 4 1 (cellsOf encBo ([false, true] : List Bool)), Item.own w0.heap.size ga (([] : List Bag).length) gc 47 3 (cellsOf encBag ([] : List Bag))] (fun u_ : (Option Addr × Nat) × (Option Addr × Nat) => .tuple #[.slice u_.2.1 1 u_.2.2, .int .i64 0]) (fun u_ => [Item.cells b [.bool true, .bool true, .slice ta 2 tc, .slice ra 2 rc, .slice aa 2 ac, .slice u_.1.1 (([] : List Bag).length) u_.1.2] 44, Item.own w0.heap.size ta 2 tc 3 1 (cellsOf encI ([7, 8] : List Int)), Item.own w0.heap.size ra 2 rc 3 1 (cellsOf encI ([1, 30] : List Int)), Item.own w0.heap.size aa 2 ac 4 1 (cellsOf encBo ([false, true] : List Bool)), Item.own w0.heap.size u_.1.1 (([] : List Bag).length) u_.1.2 47 3 (cellsOf encBag ([] : List Bag))]) (fun _ => True) (fun u_ => [.own w0.heap.size u_.2.1 1 u_.2.2 3 1 (cellsOf encI [8])]) := by
  have h := pclose_ok b [7, 8] [1, 30] [false, true] false ([] : List Bag) ta ra aa ga 2 tc rc ac gc made78 rfl rfl (by decide) rfl (known0 _) (by decide)  w0
  have e0 : closeE [7, 8] [false, true] false ([] : List Bag) = 0 := by decide
  have e1 : closeC [7, 8] [false, true] false ([] : List Bag) = true := by decide
  have e2 : closeL [7, 8] [false, true] false ([] : List Bag) = [8] := by decide
  rw [e0, e1, e2] at h
  exact h
theorem kboard2 (b : Nat) (ta ra aa ga : Option Addr) (tc rc ac gc : Nat) (w0 : World) : MC Try.prog 22 [.pointer (some ⟨b, 0, none⟩), .int .i64 7] w0 [Item.cells b [.bool true, .bool true, .slice ta 2 tc, .slice ra 2 rc, .slice aa 2 ac, .slice ga (([] : List Bag).length) gc] 44, Item.own w0.heap.size ta 2 tc 3 1 (cellsOf encI ([7, 8] : List Int)), Item.own w0.heap.size ra 2 rc 3 1 (cellsOf encI ([1, 30] : List Int)), Item.own w0.heap.size aa 2 ac 4 1 (cellsOf encBo ([false, true] : List Bool)), Item.own w0.heap.size ga (([] : List Bag).length) gc 47 3 (cellsOf encBag ([] : List Bag))] (fun u_ : Option Addr × Nat => .int .i64 10) (fun u_ => [Item.cells b [.bool true, .bool true, .slice ta 2 tc, .slice ra 2 rc, .slice aa 2 ac, .slice u_.1 (([] : List Bag).length) u_.2] 44, Item.own w0.heap.size ta 2 tc 3 1 (cellsOf encI ([7, 8] : List Int)), Item.own w0.heap.size ra 2 rc 3 1 (cellsOf encI ([1, 30] : List Int)), Item.own w0.heap.size aa 2 ac 4 1 (cellsOf encBo ([false, true] : List Bool)), Item.own w0.heap.size u_.1 (([] : List Bag).length) u_.2 47 3 (cellsOf encBag ([] : List Bag))]) (fun _ => True) (fun _ => []) := by
  have h := pboard_ok b [7, 8] [1, 30] [false, true] true ([] : List Bag) ta ra aa ga 2 tc rc ac gc made78 rfl rfl (by decide) rfl (known0 _) (by decide) 7 w0
  have e0 : movE [7, 8] [false, true] true 7 true 6 = 10 := by decide
  have e1 : movA [7, 8] [false, true] true 7 true = [false, true] := by decide
  rw [e0, e1] at h
  exact h
end Go.Proofs.Ythbgnjengkjigaa
