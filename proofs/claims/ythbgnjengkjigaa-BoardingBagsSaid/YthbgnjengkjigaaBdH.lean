import Derived.Test.YthbgnjengkjigaaBdG
import Derived.Test.YthbgnjengkjigaaSeal
namespace Go.Proofs.Ythbgnjengkjigaa
open Go Go.RowKit Eng
set_option linter.unusedVariables false
set_option linter.unusedSimpArgs false

set_option maxHeartbeats 4000000 in
set_option maxRecDepth 100000 in
theorem pnewbad (T R : List Int) (ta ra : Option Addr) (n m tc rc : Nat) (hn : n = T.length) (hm : m = R.length) (he : newE T R ≠ 0) (w0 : World) (sT : SliceIn w0 1 ta n tc (rowsF encI T)) (sR : SliceIn w0 1 ra m rc (rowsF encI R)) : FnC Try.prog 7 [.slice ta n tc, .slice ra m rc] w0 fun v w' => v = .tuple #[.pointer none, .int .i64 (newE T R)] := by
  have hle := sT.le
  refine fnc (N := 50) Try.func7 rfl rfl rfl ?_
  refine WC.seq ?_
  refine WC.region ?_
  refine SL.pure rfl rfl rfl (PureOp.assign rfl) ?_
  refine SL.pure rfl rfl rfl (PureOp.assign rfl) ?_
  refine SL.nil_then ?_
  refine WC.seq ?_
  refine WC.seq ?_
  refine WC.region ?_
  refine SL.pure rfl rfl rfl (PureOp.move rfl) ?_
  refine SL.pure rfl rfl rfl (PureOp.len rfl Try.underlying22) ?_
  refine SL.pure rfl rfl rfl (PureOp.gtr rfl rfl) ?_
  refine SL.nil_then ?_
  refine WC.cond rfl (fun h1 => ?_) (fun h1 => ?_)
  · try simp only [Bool.and_eq_true, Bool.or_eq_true, Bool.not_eq_true', Bool.not_eq_false', Bool.and_eq_false_iff, Bool.or_eq_false_iff, decide_eq_true_eq, decide_eq_false_iff_not, Int.not_lt, Int.not_le, ne_eq, Decidable.not_not] at h1
    refine WC.seq ?_
    refine WC.region ?_
    refine SL.pure rfl rfl rfl (PureOp.assign rfl) ?_
    refine SL.pure rfl rfl rfl (PureOp.assign rfl) ?_
    refine SL.nil_then ?_
    refine WC.ret ?_
    refine QX.ret_then ?_
    refine QX.ret2 rfl rfl rfl ?_
    intro w hw
    rw [newE, if_pos (by omega)]
  · try simp only [Bool.and_eq_true, Bool.or_eq_true, Bool.not_eq_true', Bool.not_eq_false', Bool.and_eq_false_iff, Bool.or_eq_false_iff, decide_eq_true_eq, decide_eq_false_iff_not, Int.not_lt, Int.not_le, ne_eq, Decidable.not_not] at h1
    refine WC.skip ?_
    refine QX.then_ ?_
    refine WC.seq ?_
    refine WC.seq ?_
    refine WC.region ?_
    refine SL.pure rfl rfl rfl (PureOp.move rfl) ?_
    refine SL.pure rfl rfl rfl (PureOp.len rfl Try.underlying22) ?_
    refine SL.pure rfl rfl rfl (PureOp.move rfl) ?_
    refine SL.pure rfl rfl rfl (PureOp.len rfl Try.underlying22) ?_
    refine SL.pure rfl rfl rfl (PureOp.neq rfl rfl) ?_
    refine SL.nil_then ?_
    refine WC.cond rfl (fun h2 => ?_) (fun h2 => ?_)
    · try simp only [Bool.and_eq_true, Bool.or_eq_true, Bool.not_eq_true', Bool.not_eq_false', Bool.and_eq_false_iff, Bool.or_eq_false_iff, decide_eq_true_eq, decide_eq_false_iff_not, Int.not_lt, Int.not_le, ne_eq, Decidable.not_not] at h2
      refine WC.seq ?_
      refine WC.region ?_
      refine SL.pure rfl rfl rfl (PureOp.assign rfl) ?_
      refine SL.pure rfl rfl rfl (PureOp.assign rfl) ?_
      refine SL.nil_then ?_
      refine WC.ret ?_
      refine QX.ret_then ?_
      refine QX.ret2 rfl rfl rfl ?_
      intro w hw
      rw [newE, if_neg (by omega), if_pos (by omega)]
    · try simp only [Bool.and_eq_true, Bool.or_eq_true, Bool.not_eq_true', Bool.not_eq_false', Bool.and_eq_false_iff, Bool.or_eq_false_iff, decide_eq_true_eq, decide_eq_false_iff_not, Int.not_lt, Int.not_le, ne_eq, Decidable.not_not] at h2
      refine WC.skip ?_
      refine QX.then_ ?_
      refine WC.seq ?_
      refine WC.seq ?_
      refine WC.region ?_
      refine SL.pure rfl rfl rfl (PureOp.move rfl) ?_
      refine SL.pure rfl rfl rfl (PureOp.len rfl Try.underlying22) ?_
      refine SL.pure rfl rfl rfl (PureOp.move rfl) ?_
      refine SL.nil_then ?_
      refine WC.block ?_
      refine WC.loop (σ := Nat) (fun q_ => [(0, 0, .slice ta n tc), (1, 0, .slice ra m rc), (8, 0, .slice ta n tc), (9, 0, .int .i64 ((n : Nat) : Int)), (10, 0, .bool (decide (999 < ((n : Nat) : Int)))), (11, 0, .slice ta n tc), (12, 0, .int .i64 ((n : Nat) : Int)), (13, 0, .slice ra m rc), (14, 0, .int .i64 ((m : Nat) : Int)), (15, 0, .bool (decide (((n : Nat) : Int) ≠ ((m : Nat) : Int)))), (16, 0, .slice ta n tc), (17, 0, .int .i64 ((n : Nat) : Int)), (18, 0, .int .i64 ((q_ : Nat) : Int))]) (fun q_ => []) (fun q_ => q_ ≤ n ∧ newK T R q_ = 0) (fun q_ => n - q_) 0 (0) (⟨Nat.zero_le _, rfl⟩) ⟨rfl, rfl, rfl, rfl, rfl, rfl, rfl, rfl, rfl, rfl, rfl, rfl, rfl, rfl, rfl, rfl, rfl, rfl, rfl, rfl, rfl, rfl, rfl, rfl, rfl, rfl, trivial⟩ rfl ?_
      rintro k ⟨hk, hz⟩
      refine WC.seq ?_
      refine WC.region ?_
      refine SL.pure rfl rfl rfl (PureOp.lss rfl rfl) ?_
      refine SL.nil_then ?_
      refine WC.seq ?_
      refine WC.cond rfl (fun h3 => ?_) (fun h3 => ?_)
      · try simp only [Bool.and_eq_true, Bool.or_eq_true, Bool.not_eq_true', Bool.not_eq_false', Bool.and_eq_false_iff, Bool.or_eq_false_iff, decide_eq_true_eq, decide_eq_false_iff_not, Int.not_lt, Int.not_le, ne_eq, Decidable.not_not] at h3
        refine WC.skip ?_
        refine QX.then_ ?_
        refine WC.seq ?_
        refine WC.block ?_
        refine WC.seq ?_
        refine WC.region ?_
        refine SL.pure rfl rfl rfl (PureOp.move rfl) ?_
        refine SL.pure rfl rfl rfl (PureOp.indexAddrN Try.underlying22 sz3 rfl rfl (AoOk.in_ sT) (fun _ => by omega)) ?_
        refine SL.pure rfl rfl rfl (PureOp.load (v := .int .i64 (nth T k)) Try.underlying3 rfl rfl (fun _ => (CellIs.in_ sT k 0 (by omega) (by omega)))) ?_
        refine SL.pure rfl rfl rfl (PureOp.assign rfl) ?_
        refine SL.pure rfl rfl rfl (PureOp.assign rfl) ?_
        refine SL.nil_then ?_
        refine WC.seq ?_
        refine WC.seq ?_
        refine WC.region ?_
        refine SL.pure rfl rfl rfl (PureOp.move rfl) ?_
        refine SL.pure rfl rfl rfl (PureOp.move rfl) ?_
        refine SL.pure rfl rfl rfl (PureOp.indexAddrN Try.underlying22 sz3 rfl rfl (AoOk.in_ sR) (fun _ => by omega)) ?_
        refine SL.pure rfl rfl rfl (PureOp.load (v := .int .i64 (nth R k)) Try.underlying3 rfl rfl (fun _ => (CellIs.in_ sR k 0 (by omega) (by omega)))) ?_
        refine SL.pure rfl rfl rfl (PureOp.lss rfl rfl) ?_
        refine SL.pure rfl rfl rfl (PureOp.move rfl) ?_
        refine SL.newg 28 false rfl ?_
        refine SL.gpure (c := 1) rfl rfl rfl rfl rfl rfl rfl (PureOp.move rfl) ?_
        refine SL.gpure (c := 1) rfl rfl rfl rfl rfl rfl rfl (PureOp.move rfl) ?_
        refine SL.gpure (c := 1) rfl rfl rfl rfl rfl rfl rfl (PureOp.indexAddrN Try.underlying22 sz3 rfl rfl (AoOk.in_ sR) (by intro hg; simp [gval] at hg; omega)) ?_
        refine SL.gpure (c := 1) rfl rfl rfl rfl rfl rfl rfl (PureOp.load (v := .int .i64 (nth R k)) Try.underlying3 rfl rfl (by intro hg; simp [gval] at hg; exact (CellIs.in_ sR k 0 (by omega) (by omega)))) ?_
        refine SL.gpure (c := 1) rfl rfl rfl rfl rfl rfl rfl (PureOp.gtr rfl rfl) ?_
        refine SL.pure rfl rfl rfl (PureOp.or_ rfl rfl rfl rfl) ?_
        refine SL.nil_then ?_
        refine WC.cond rfl (fun h4 => ?_) (fun h4 => ?_)
        · try simp only [Bool.and_eq_true, Bool.or_eq_true, Bool.not_eq_true', Bool.not_eq_false', Bool.and_eq_false_iff, Bool.or_eq_false_iff, decide_eq_true_eq, decide_eq_false_iff_not, Int.not_lt, Int.not_le, ne_eq, Decidable.not_not] at h4
          refine WC.seq ?_
          refine WC.region ?_
          refine SL.pure rfl rfl rfl (PureOp.assign rfl) ?_
          refine SL.pure rfl rfl rfl (PureOp.assign rfl) ?_
          refine SL.nil_then ?_
          refine WC.ret ?_
          refine QX.ret_then ?_
          refine QX.ret_in ?_
          refine QX.ret_then ?_
          refine QX.ret_then ?_
          refine QX.ret_in ?_
          refine QX.ret_then ?_
          refine QX.ret2 rfl rfl rfl ?_
          intro w hw
          have e := newE_of (k := k + 1) (by omega) (by omega) (newK_row hz (by omega)) (by decide) (by omega)
          rw [e]
        · try simp only [Bool.and_eq_true, Bool.or_eq_true, Bool.not_eq_true', Bool.not_eq_false', Bool.and_eq_false_iff, Bool.or_eq_false_iff, decide_eq_true_eq, decide_eq_false_iff_not, Int.not_lt, Int.not_le, ne_eq, Decidable.not_not] at h4
          refine WC.skip ?_
          refine QX.then_ ?_
          refine WC.seq ?_
          refine WC.region ?_
          refine SL.pure rfl rfl rfl (PureOp.move rfl) ?_
          refine SL.pure rfl rfl rfl (PureOp.move rfl) ?_
          refine SL.pure rfl rfl rfl (PureOp.sliceh Try.underlying22 sz3 rfl rfl (fun _ => by omega)) ?_
          refine SL.pure rfl rfl rfl (PureOp.move rfl) ?_
          refine SL.calle rfl rfl rfl rfl rfl rfl callable25 (fun w hw => (by have h := contains_ok ((T.drop 0).take (k - 0)) _ _ _ (by rw [List.length_take, List.length_drop]; omega) (by omega) (nth T k) w (SliceIn.subrows (sT.below hw.below) hn 0 k (by omega) (by omega)); rw [ixT_take (by omega)] at h; exact h)) ?_
          refine SL.norm [] rfl ?_
          refine SL.nil_then ?_
          refine WC.cond rfl (fun h5 => ?_) (fun h5 => ?_)
          · try simp only [Bool.and_eq_true, Bool.or_eq_true, Bool.not_eq_true', Bool.not_eq_false', Bool.and_eq_false_iff, Bool.or_eq_false_iff, decide_eq_true_eq, decide_eq_false_iff_not, Int.not_lt, Int.not_le, ne_eq, Decidable.not_not] at h5
            refine WC.seq ?_
            refine WC.region ?_
            refine SL.pure rfl rfl rfl (PureOp.assign rfl) ?_
            refine SL.pure rfl rfl rfl (PureOp.assign rfl) ?_
            refine SL.nil_then ?_
            refine WC.ret ?_
            refine QX.ret_in ?_
            refine QX.ret_then ?_
            refine QX.ret_then ?_
            refine QX.ret_in ?_
            refine QX.ret_then ?_
            refine QX.ret2 rfl rfl rfl ?_
            intro w hw
            have e := newE_of (k := k + 1) (by omega) (by omega) (newK_twice hz (by omega) (by simpa using h5)) (by decide) (by omega)
            rw [e]
          · try simp only [Bool.and_eq_true, Bool.or_eq_true, Bool.not_eq_true', Bool.not_eq_false', Bool.and_eq_false_iff, Bool.or_eq_false_iff, decide_eq_true_eq, decide_eq_false_iff_not, Int.not_lt, Int.not_le, ne_eq, Decidable.not_not] at h5
            refine WC.skip ?_
            refine QX.normal_in ?_
            refine QX.then_ ?_
            refine WC.region ?_
            refine SL.pure rfl rfl rfl (PureOp.addN (k := 1) rfl rfl (fun _ => by omega)) ?_
            refine SL.pure rfl rfl rfl (PureOp.move rfl) ?_
            refine SL.nil ?_
            refine QX.round 0 (k + 1) ⟨⟨(by first | omega | (dsimp only; omega)), newK_next hz (by omega) (by simpa using h5)⟩, by first | omega | (dsimp only; omega)⟩ ⟨rfl, rfl, rfl, rfl, rfl, rfl, rfl, rfl, rfl, rfl, rfl, rfl, rfl, rfl, rfl, rfl, rfl, rfl, rfl, rfl, rfl, rfl, rfl, rfl, rfl, rfl, trivial⟩ rfl
      · try simp only [Bool.and_eq_true, Bool.or_eq_true, Bool.not_eq_true', Bool.not_eq_false', Bool.and_eq_false_iff, Bool.or_eq_false_iff, decide_eq_true_eq, decide_eq_false_iff_not, Int.not_lt, Int.not_le, ne_eq, Decidable.not_not] at h3
        exact (by exfalso; have e := newE_end (T := T) (R := R) (by omega) (by omega) (by rw [← hn, show n = k from by omega]; exact hz); exact he e)

set_option maxHeartbeats 4000000 in
set_option maxRecDepth 100000 in
theorem rnewbad (T R : List Int) (ta ra : Option Addr) (n m tc rc : Nat) (hn : n = T.length) (hm : m = R.length) (he : newE T R ≠ 0) (w0 : World) (sT : SliceIn w0 1 ta n tc (rowsF encI T)) (sR : SliceIn w0 1 ra m rc (rowsF encI R)) : FnC Try.prog 10 [.slice ta n tc, .slice ra m rc] w0 fun v w' => v = .tuple #[.pointer none, .int .i64 (newE T R)] := by
  have hle := sT.le
  refine fnc (N := 59) Try.func10 rfl rfl rfl ?_
  refine WC.seq ?_
  refine WC.region ?_
  refine SL.pure rfl rfl rfl (PureOp.assign rfl) ?_
  refine SL.pure rfl rfl rfl (PureOp.assign rfl) ?_
  refine SL.nil_then ?_
  refine WC.seq ?_
  refine WC.seq ?_
  refine WC.region ?_
  refine SL.pure rfl rfl rfl (PureOp.move rfl) ?_
  refine SL.pure rfl rfl rfl (PureOp.len rfl Try.underlying22) ?_
  refine SL.pure rfl rfl rfl (PureOp.gtr rfl rfl) ?_
  refine SL.nil_then ?_
  refine WC.cond rfl (fun h1 => ?_) (fun h1 => ?_)
  · try simp only [Bool.and_eq_true, Bool.or_eq_true, Bool.not_eq_true', Bool.not_eq_false', Bool.and_eq_false_iff, Bool.or_eq_false_iff, decide_eq_true_eq, decide_eq_false_iff_not, Int.not_lt, Int.not_le, ne_eq, Decidable.not_not] at h1
    refine WC.seq ?_
    refine WC.region ?_
    refine SL.pure rfl rfl rfl (PureOp.assign rfl) ?_
    refine SL.pure rfl rfl rfl (PureOp.assign rfl) ?_
    refine SL.nil_then ?_
    refine WC.ret ?_
    refine QX.ret_then ?_
    refine QX.ret2 rfl rfl rfl ?_
    intro w hw
    rw [newE, if_pos (by omega)]
  · try simp only [Bool.and_eq_true, Bool.or_eq_true, Bool.not_eq_true', Bool.not_eq_false', Bool.and_eq_false_iff, Bool.or_eq_false_iff, decide_eq_true_eq, decide_eq_false_iff_not, Int.not_lt, Int.not_le, ne_eq, Decidable.not_not] at h1
    refine WC.skip ?_
    refine QX.then_ ?_
    refine WC.seq ?_
    refine WC.seq ?_
    refine WC.region ?_
    refine SL.pure rfl rfl rfl (PureOp.move rfl) ?_
    refine SL.pure rfl rfl rfl (PureOp.len rfl Try.underlying22) ?_
    refine SL.pure rfl rfl rfl (PureOp.move rfl) ?_
    refine SL.pure rfl rfl rfl (PureOp.len rfl Try.underlying22) ?_
    refine SL.pure rfl rfl rfl (PureOp.neq rfl rfl) ?_
    refine SL.nil_then ?_
    refine WC.cond rfl (fun h2 => ?_) (fun h2 => ?_)
    · try simp only [Bool.and_eq_true, Bool.or_eq_true, Bool.not_eq_true', Bool.not_eq_false', Bool.and_eq_false_iff, Bool.or_eq_false_iff, decide_eq_true_eq, decide_eq_false_iff_not, Int.not_lt, Int.not_le, ne_eq, Decidable.not_not] at h2
      refine WC.seq ?_
      refine WC.region ?_
      refine SL.pure rfl rfl rfl (PureOp.assign rfl) ?_
      refine SL.pure rfl rfl rfl (PureOp.assign rfl) ?_
      refine SL.nil_then ?_
      refine WC.ret ?_
      refine QX.ret_then ?_
      refine QX.ret2 rfl rfl rfl ?_
      intro w hw
      rw [newE, if_neg (by omega), if_pos (by omega)]
    · try simp only [Bool.and_eq_true, Bool.or_eq_true, Bool.not_eq_true', Bool.not_eq_false', Bool.and_eq_false_iff, Bool.or_eq_false_iff, decide_eq_true_eq, decide_eq_false_iff_not, Int.not_lt, Int.not_le, ne_eq, Decidable.not_not] at h2
      refine WC.skip ?_
      refine QX.then_ ?_
      refine WC.seq ?_
      refine WC.seq ?_
      refine WC.region ?_
      refine SL.pure rfl rfl rfl (PureOp.assign rfl) ?_
      refine SL.nil_then ?_
      refine WC.block ?_
      refine WC.loop (σ := Nat) (fun q_ => [(0, 0, .slice ta n tc), (1, 0, .slice ra m rc), (8, 0, .slice ta n tc), (9, 0, .int .i64 ((n : Nat) : Int)), (10, 0, .bool (decide (999 < ((n : Nat) : Int)))), (11, 0, .slice ta n tc), (12, 0, .int .i64 ((n : Nat) : Int)), (13, 0, .slice ra m rc), (14, 0, .int .i64 ((m : Nat) : Int)), (15, 0, .bool (decide (((n : Nat) : Int) ≠ ((m : Nat) : Int)))), (6, 0, .int .i64 ((q_ : Nat) : Int))]) (fun q_ => []) (fun q_ => q_ ≤ n ∧ newK T R q_ = 0) (fun q_ => n - q_) 0 (0) (⟨Nat.zero_le _, rfl⟩) ⟨rfl, rfl, rfl, rfl, rfl, rfl, rfl, rfl, rfl, rfl, rfl, rfl, rfl, rfl, rfl, rfl, rfl, rfl, rfl, rfl, rfl, rfl, trivial⟩ rfl ?_
      rintro k ⟨hk, hz⟩
      refine WC.seq ?_
      refine WC.seq ?_
      refine WC.region ?_
      refine SL.pure rfl rfl rfl (PureOp.move rfl) ?_
      refine SL.pure rfl rfl rfl (PureOp.move rfl) ?_
      refine SL.pure rfl rfl rfl (PureOp.len rfl Try.underlying22) ?_
      refine SL.pure rfl rfl rfl (PureOp.lss rfl rfl) ?_
      refine SL.nil_then ?_
      refine WC.cond rfl (fun h3 => ?_) (fun h3 => ?_)
      · try simp only [Bool.and_eq_true, Bool.or_eq_true, Bool.not_eq_true', Bool.not_eq_false', Bool.and_eq_false_iff, Bool.or_eq_false_iff, decide_eq_true_eq, decide_eq_false_iff_not, Int.not_lt, Int.not_le, ne_eq, Decidable.not_not] at h3
        refine WC.skip ?_
        refine QX.then_ ?_
        refine WC.seq ?_
        refine WC.block ?_
        refine WC.seq ?_
        refine WC.seq ?_
        refine WC.region ?_
        refine SL.pure rfl rfl rfl (PureOp.move rfl) ?_
        refine SL.pure rfl rfl rfl (PureOp.move rfl) ?_
        refine SL.pure rfl rfl rfl (PureOp.indexAddrN Try.underlying22 sz3 rfl rfl (AoOk.in_ sR) (fun _ => by omega)) ?_
        refine SL.pure rfl rfl rfl (PureOp.load (v := .int .i64 (nth R k)) Try.underlying3 rfl rfl (fun _ => (CellIs.in_ sR k 0 (by omega) (by omega)))) ?_
        refine SL.pure rfl rfl rfl (PureOp.lss rfl rfl) ?_
        refine SL.pure rfl rfl rfl (PureOp.move rfl) ?_
        refine SL.newg 27 false rfl ?_
        refine SL.gpure (c := 1) rfl rfl rfl rfl rfl rfl rfl (PureOp.move rfl) ?_
        refine SL.gpure (c := 1) rfl rfl rfl rfl rfl rfl rfl (PureOp.move rfl) ?_
        refine SL.gpure (c := 1) rfl rfl rfl rfl rfl rfl rfl (PureOp.indexAddrN Try.underlying22 sz3 rfl rfl (AoOk.in_ sR) (by intro hg; simp [gval] at hg; omega)) ?_
        refine SL.gpure (c := 1) rfl rfl rfl rfl rfl rfl rfl (PureOp.load (v := .int .i64 (nth R k)) Try.underlying3 rfl rfl (by intro hg; simp [gval] at hg; exact (CellIs.in_ sR k 0 (by omega) (by omega)))) ?_
        refine SL.gpure (c := 1) rfl rfl rfl rfl rfl rfl rfl (PureOp.gtr rfl rfl) ?_
        refine SL.pure rfl rfl rfl (PureOp.or_ rfl rfl rfl rfl) ?_
        refine SL.nil_then ?_
        refine WC.cond rfl (fun h4 => ?_) (fun h4 => ?_)
        · try simp only [Bool.and_eq_true, Bool.or_eq_true, Bool.not_eq_true', Bool.not_eq_false', Bool.and_eq_false_iff, Bool.or_eq_false_iff, decide_eq_true_eq, decide_eq_false_iff_not, Int.not_lt, Int.not_le, ne_eq, Decidable.not_not] at h4
          refine WC.seq ?_
          refine WC.region ?_
          refine SL.pure rfl rfl rfl (PureOp.assign rfl) ?_
          refine SL.pure rfl rfl rfl (PureOp.assign rfl) ?_
          refine SL.nil_then ?_
          refine WC.ret ?_
          refine QX.ret_then ?_
          refine QX.ret_in ?_
          refine QX.ret_then ?_
          refine QX.ret_then ?_
          refine QX.ret_in ?_
          refine QX.ret_then ?_
          refine QX.ret2 rfl rfl rfl ?_
          intro w hw
          have e := newE_of (k := k + 1) (by omega) (by omega) (newK_row hz (by omega)) (by decide) (by omega)
          rw [e]
        · try simp only [Bool.and_eq_true, Bool.or_eq_true, Bool.not_eq_true', Bool.not_eq_false', Bool.and_eq_false_iff, Bool.or_eq_false_iff, decide_eq_true_eq, decide_eq_false_iff_not, Int.not_lt, Int.not_le, ne_eq, Decidable.not_not] at h4
          refine WC.skip ?_
          refine QX.then_ ?_
          refine WC.seq ?_
          refine WC.region ?_
          refine SL.pure rfl rfl rfl (PureOp.assign rfl) ?_
          refine SL.nil_then ?_
          refine WC.block ?_
          refine WC.loop (σ := Nat) (fun q_ => [(0, 0, .slice ta n tc), (1, 0, .slice ra m rc), (6, 0, .int .i64 ((k : Nat) : Int)), (8, 0, .slice ta n tc), (9, 0, .int .i64 ((n : Nat) : Int)), (10, 0, .bool (decide (999 < ((n : Nat) : Int)))), (11, 0, .slice ta n tc), (12, 0, .int .i64 ((n : Nat) : Int)), (13, 0, .slice ra m rc), (14, 0, .int .i64 ((m : Nat) : Int)), (15, 0, .bool (decide (((n : Nat) : Int) ≠ ((m : Nat) : Int)))), (16, 0, .int .i64 ((k : Nat) : Int)), (17, 0, .slice ta n tc), (18, 0, .int .i64 ((n : Nat) : Int)), (19, 0, .bool (decide (((k : Nat) : Int) < ((n : Nat) : Int)))), (22, 0, .slice ra m rc), (23, 0, .int .i64 ((k : Nat) : Int)), (24, 0, .pointer (some ⟨blk ra, off ra + k * 1, none⟩)), (25, 0, .int .i64 (nth R k)), (26, 0, .bool (decide (nth R k < 1))), (27, 0, .bool (decide (nth R k < 1))), (33, 0, .bool ((decide (nth R k < 1)) || (decide (999 < nth R k)))), (7, 0, .int .i64 ((q_ : Nat) : Int))]) (fun q_ => []) (fun q_ => q_ ≤ k ∧ ∀ i, i < q_ → decide (nth T i = nth T k) = false) (fun q_ => k - q_) 0 (0) (⟨Nat.zero_le _, fun _ h => absurd h (Nat.not_lt_zero _)⟩) ⟨rfl, rfl, rfl, rfl, rfl, rfl, rfl, rfl, rfl, rfl, rfl, rfl, rfl, rfl, rfl, rfl, rfl, rfl, rfl, rfl, rfl, rfl, rfl, rfl, rfl, rfl, rfl, rfl, rfl, rfl, rfl, rfl, rfl, rfl, rfl, rfl, rfl, rfl, rfl, rfl, rfl, rfl, rfl, rfl, rfl, rfl, trivial⟩ rfl ?_
          rintro j ⟨hj, ha⟩
          refine WC.seq ?_
          refine WC.seq ?_
          refine WC.region ?_
          refine SL.pure rfl rfl rfl (PureOp.move rfl) ?_
          refine SL.pure rfl rfl rfl (PureOp.move rfl) ?_
          refine SL.pure rfl rfl rfl (PureOp.lss rfl rfl) ?_
          refine SL.nil_then ?_
          refine WC.cond rfl (fun h5 => ?_) (fun h5 => ?_)
          · try simp only [Bool.and_eq_true, Bool.or_eq_true, Bool.not_eq_true', Bool.not_eq_false', Bool.and_eq_false_iff, Bool.or_eq_false_iff, decide_eq_true_eq, decide_eq_false_iff_not, Int.not_lt, Int.not_le, ne_eq, Decidable.not_not] at h5
            refine WC.skip ?_
            refine QX.then_ ?_
            refine WC.seq ?_
            refine WC.block ?_
            refine WC.seq ?_
            refine WC.drawH 9 [false, false, false, false, false, false, false, false, false] rfl rfl rfl ?_
            refine SD.take 0 [true, false, false, false, false, false, false, false, false] rfl (by kernel_rfl) rfl (fun _ h => h) rfl rfl rfl (PureOp.move rfl) ?_
            refine SD.take 1 [true, true, false, false, false, false, false, false, false] rfl (by kernel_rfl) rfl (fun _ h => h) rfl rfl rfl (PureOp.move rfl) ?_
            refine SD.take 2 [true, true, true, false, false, false, false, false, false] rfl (by kernel_rfl) rfl (fun _ h => h) rfl rfl rfl (PureOp.indexAddrN Try.underlying22 sz3 rfl rfl (AoOk.in_ sT) (fun _ => by omega)) ?_
            refine SD.take 3 [true, true, true, true, false, false, false, false, false] rfl (by kernel_rfl) rfl (fun _ h => h) rfl rfl rfl (PureOp.load (v := .int .i64 (nth T j)) Try.underlying3 rfl rfl (fun _ => (CellIs.in_ sT j 0 (by omega) (by omega)))) ?_
            refine SD.take 4 [true, true, true, true, true, false, false, false, false] rfl (by kernel_rfl) rfl (fun _ h => h) rfl rfl rfl (PureOp.move rfl) ?_
            refine SD.take 5 [true, true, true, true, true, true, false, false, false] rfl (by kernel_rfl) rfl (fun _ h => h) rfl rfl rfl (PureOp.move rfl) ?_
            refine SD.take 6 [true, true, true, true, true, true, true, false, false] rfl (by kernel_rfl) rfl (fun _ h => h) rfl rfl rfl (PureOp.indexAddrN Try.underlying22 sz3 rfl rfl (AoOk.in_ sT) (fun _ => by omega)) ?_
            refine SD.take 7 [true, true, true, true, true, true, true, true, false] rfl (by kernel_rfl) rfl (fun _ h => h) rfl rfl rfl (PureOp.load (v := .int .i64 (nth T k)) Try.underlying3 rfl rfl (fun _ => (CellIs.in_ sT k 0 (by omega) (by omega)))) ?_
            refine SD.take 8 [true, true, true, true, true, true, true, true, true] rfl (by kernel_rfl) rfl (fun _ h => h) rfl rfl rfl (PureOp.eql rfl rfl) ?_
            refine SD.done (by kernel_rfl) ?_
            refine QX.ofK ?_
            refine QX.then_ ?_
            refine WC.cond rfl (fun h6 => ?_) (fun h6 => ?_)
            · try simp only [Bool.and_eq_true, Bool.or_eq_true, Bool.not_eq_true', Bool.not_eq_false', Bool.and_eq_false_iff, Bool.or_eq_false_iff, decide_eq_true_eq, decide_eq_false_iff_not, Int.not_lt, Int.not_le, ne_eq, Decidable.not_not] at h6
              refine WC.seq ?_
              refine WC.region ?_
              refine SL.pure rfl rfl rfl (PureOp.assign rfl) ?_
              refine SL.pure rfl rfl rfl (PureOp.assign rfl) ?_
              refine SL.nil_then ?_
              refine WC.ret ?_
              refine QX.ret_in ?_
              refine QX.ret_then ?_
              refine QX.ret_then ?_
              refine QX.ret_in ?_
              refine QX.ret_in ?_
              refine QX.ret_then ?_
              refine QX.ret_then ?_
              refine QX.ret_in ?_
              refine QX.ret_then ?_
              refine QX.ret2 rfl rfl rfl ?_
              intro w hw
              have e := newE_of (k := k + 1) (by omega) (by omega) (newK_twice hz (by omega) (by rw [fnd_hit (k := j) (by omega) (by simpa using h6) ha]; omega)) (by decide) (by omega)
              rw [e]
            · try simp only [Bool.and_eq_true, Bool.or_eq_true, Bool.not_eq_true', Bool.not_eq_false', Bool.and_eq_false_iff, Bool.or_eq_false_iff, decide_eq_true_eq, decide_eq_false_iff_not, Int.not_lt, Int.not_le, ne_eq, Decidable.not_not] at h6
              refine WC.skip ?_
              refine QX.normal_in ?_
              refine QX.then_ ?_
              refine WC.region ?_
              refine SL.pure rfl rfl rfl (PureOp.move rfl) ?_
              refine SL.pure rfl rfl rfl (PureOp.addN (k := 1) rfl rfl (fun _ => by omega)) ?_
              refine SL.pure rfl rfl rfl (PureOp.assign rfl) ?_
              refine SL.nil ?_
              refine QX.round 0 (j + 1) ⟨⟨(by first | omega | (dsimp only; omega)), fun i hi => by
                    by_cases e : i = j
                    · subst e; simpa using h6
                    · exact ha i (by omega)⟩, by first | omega | (dsimp only; omega)⟩ ⟨rfl, rfl, rfl, rfl, rfl, rfl, rfl, rfl, rfl, rfl, rfl, rfl, rfl, rfl, rfl, rfl, rfl, rfl, rfl, rfl, rfl, rfl, rfl, rfl, rfl, rfl, rfl, rfl, rfl, rfl, rfl, rfl, rfl, rfl, rfl, rfl, rfl, rfl, rfl, rfl, rfl, rfl, rfl, rfl, rfl, rfl, trivial⟩ rfl
          · try simp only [Bool.and_eq_true, Bool.or_eq_true, Bool.not_eq_true', Bool.not_eq_false', Bool.and_eq_false_iff, Bool.or_eq_false_iff, decide_eq_true_eq, decide_eq_false_iff_not, Int.not_lt, Int.not_le, ne_eq, Decidable.not_not] at h5
            refine WC.exit ?_
            refine QX.exit_then ?_
            refine QX.exit_then ?_
            refine QX.exit_hit ?_
            refine QX.normal_in ?_
            refine QX.then_ ?_
            refine WC.region ?_
            refine SL.pure rfl rfl rfl (PureOp.move rfl) ?_
            refine SL.pure rfl rfl rfl (PureOp.addN (k := 1) rfl rfl (fun _ => by omega)) ?_
            refine SL.pure rfl rfl rfl (PureOp.assign rfl) ?_
            refine SL.nil ?_
            refine QX.round 0 (k + 1) ⟨⟨(by first | omega | (dsimp only; omega)), newK_next hz (by omega) (by rw [fnd_miss (fun i hi => ha i (by omega))]; decide)⟩, by first | omega | (dsimp only; omega)⟩ ⟨rfl, rfl, rfl, rfl, rfl, rfl, rfl, rfl, rfl, rfl, rfl, rfl, rfl, rfl, rfl, rfl, rfl, rfl, rfl, rfl, rfl, rfl, trivial⟩ rfl
      · try simp only [Bool.and_eq_true, Bool.or_eq_true, Bool.not_eq_true', Bool.not_eq_false', Bool.and_eq_false_iff, Bool.or_eq_false_iff, decide_eq_true_eq, decide_eq_false_iff_not, Int.not_lt, Int.not_le, ne_eq, Decidable.not_not] at h3
        exact (by exfalso; have e := newE_end (T := T) (R := R) (by omega) (by omega) (by rw [← hn, show n = k from by omega]; exact hz); exact he e)

set_option maxHeartbeats 4000000 in
set_option maxRecDepth 100000 in
theorem pnew (T R : List Int) (ta ra : Option Addr) (n m tc rc : Nat) (hn : n = T.length) (hm : m = R.length) (he : newE T R = 0) (w0 : World) (sT : SliceIn w0 1 ta n tc (rowsF encI T)) (sR : SliceIn w0 1 ra m rc (rowsF encI R)) : MC Try.prog 7 [.slice ta n tc, .slice ra m rc] w0 [] (fun u_ : Nat × (Option Addr × Nat) × (Option Addr × Nat) × Nat => .tuple #[.pointer (some ⟨u_.1, 0, none⟩), .int .i64 0]) (fun _ => []) (fun u_ => w0.heap.size ≤ u_.1) (fun u_ => [Item.cells u_.1 [.bool true, .bool false, .slice u_.2.1.1 n u_.2.1.2, .slice u_.2.2.1.1 n u_.2.2.1.2, .slice (some ⟨u_.2.2.2, 0, none⟩) n n, .slice none 0 0] 44, Item.own w0.heap.size u_.2.1.1 n u_.2.1.2 3 1 (cellsOf encI T), Item.own w0.heap.size u_.2.2.1.1 n u_.2.2.1.2 3 1 (cellsOf encI R), Item.own w0.heap.size (some ⟨u_.2.2.2, 0, none⟩) n n 4 1 (cellsOf encBo (List.replicate n false))]) := by
  have hle := sT.le
  refine mcalls (N := 50) Try.func7 rfl rfl rfl ?_
  intro X
  show WC _ _ _ _ _ _ _ [X]
  refine WC.seq ?_
  refine WC.region ?_
  refine SL.pure rfl rfl rfl (PureOp.assign rfl) ?_
  refine SL.pure rfl rfl rfl (PureOp.assign rfl) ?_
  refine SL.nil_then ?_
  refine WC.seq ?_
  refine WC.seq ?_
  refine WC.region ?_
  refine SL.pure rfl rfl rfl (PureOp.move rfl) ?_
  refine SL.pure rfl rfl rfl (PureOp.len rfl Try.underlying22) ?_
  refine SL.pure rfl rfl rfl (PureOp.gtr rfl rfl) ?_
  refine SL.nil_then ?_
  refine WC.cond rfl (fun h1 => ?_) (fun h1 => ?_)
  · try simp only [Bool.and_eq_true, Bool.or_eq_true, Bool.not_eq_true', Bool.not_eq_false', Bool.and_eq_false_iff, Bool.or_eq_false_iff, decide_eq_true_eq, decide_eq_false_iff_not, Int.not_lt, Int.not_le, ne_eq, Decidable.not_not] at h1
    exact (by exfalso; rw [newE, if_pos (by omega)] at he; exact absurd he (by decide))
  · try simp only [Bool.and_eq_true, Bool.or_eq_true, Bool.not_eq_true', Bool.not_eq_false', Bool.and_eq_false_iff, Bool.or_eq_false_iff, decide_eq_true_eq, decide_eq_false_iff_not, Int.not_lt, Int.not_le, ne_eq, Decidable.not_not] at h1
    refine WC.skip ?_
    refine QX.then_ ?_
    refine WC.seq ?_
    refine WC.seq ?_
    refine WC.region ?_
    refine SL.pure rfl rfl rfl (PureOp.move rfl) ?_
    refine SL.pure rfl rfl rfl (PureOp.len rfl Try.underlying22) ?_
    refine SL.pure rfl rfl rfl (PureOp.move rfl) ?_
    refine SL.pure rfl rfl rfl (PureOp.len rfl Try.underlying22) ?_
    refine SL.pure rfl rfl rfl (PureOp.neq rfl rfl) ?_
    refine SL.nil_then ?_
    refine WC.cond rfl (fun h2 => ?_) (fun h2 => ?_)
    · try simp only [Bool.and_eq_true, Bool.or_eq_true, Bool.not_eq_true', Bool.not_eq_false', Bool.and_eq_false_iff, Bool.or_eq_false_iff, decide_eq_true_eq, decide_eq_false_iff_not, Int.not_lt, Int.not_le, ne_eq, Decidable.not_not] at h2
      exact (by exfalso; rw [newE, if_neg (by omega), if_pos (by omega)] at he; exact absurd he (by decide))
    · try simp only [Bool.and_eq_true, Bool.or_eq_true, Bool.not_eq_true', Bool.not_eq_false', Bool.and_eq_false_iff, Bool.or_eq_false_iff, decide_eq_true_eq, decide_eq_false_iff_not, Int.not_lt, Int.not_le, ne_eq, Decidable.not_not] at h2
      refine WC.skip ?_
      refine QX.then_ ?_
      refine WC.seq ?_
      refine WC.seq ?_
      refine WC.region ?_
      refine SL.pure rfl rfl rfl (PureOp.move rfl) ?_
      refine SL.pure rfl rfl rfl (PureOp.len rfl Try.underlying22) ?_
      refine SL.pure rfl rfl rfl (PureOp.move rfl) ?_
      refine SL.nil_then ?_
      refine WC.block ?_
      refine WC.loop (σ := Nat) (fun q_ => [(0, 0, .slice ta n tc), (1, 0, .slice ra m rc), (8, 0, .slice ta n tc), (9, 0, .int .i64 ((n : Nat) : Int)), (10, 0, .bool (decide (999 < ((n : Nat) : Int)))), (11, 0, .slice ta n tc), (12, 0, .int .i64 ((n : Nat) : Int)), (13, 0, .slice ra m rc), (14, 0, .int .i64 ((m : Nat) : Int)), (15, 0, .bool (decide (((n : Nat) : Int) ≠ ((m : Nat) : Int)))), (16, 0, .slice ta n tc), (17, 0, .int .i64 ((n : Nat) : Int)), (18, 0, .int .i64 ((q_ : Nat) : Int))]) (fun q_ => [X]) (fun q_ => q_ ≤ n ∧ newK T R q_ = 0) (fun q_ => n - q_) 1 (0) (⟨Nat.zero_le _, rfl⟩) ⟨rfl, rfl, rfl, rfl, rfl, rfl, rfl, rfl, rfl, rfl, rfl, rfl, rfl, rfl, rfl, rfl, rfl, rfl, rfl, rfl, rfl, rfl, rfl, rfl, rfl, rfl, trivial⟩ rfl ?_
      rintro k ⟨hk, hz⟩
      refine WC.seq ?_
      refine WC.region ?_
      refine SL.pure rfl rfl rfl (PureOp.lss rfl rfl) ?_
      refine SL.nil_then ?_
      refine WC.seq ?_
      refine WC.cond rfl (fun h3 => ?_) (fun h3 => ?_)
      · try simp only [Bool.and_eq_true, Bool.or_eq_true, Bool.not_eq_true', Bool.not_eq_false', Bool.and_eq_false_iff, Bool.or_eq_false_iff, decide_eq_true_eq, decide_eq_false_iff_not, Int.not_lt, Int.not_le, ne_eq, Decidable.not_not] at h3
        refine WC.skip ?_
        refine QX.then_ ?_
        refine WC.seq ?_
        refine WC.block ?_
        refine WC.seq ?_
        refine WC.region ?_
        refine SL.pure rfl rfl rfl (PureOp.move rfl) ?_
        refine SL.pure rfl rfl rfl (PureOp.indexAddrN Try.underlying22 sz3 rfl rfl (AoOk.in_ sT) (fun _ => by omega)) ?_
        refine SL.pure rfl rfl rfl (PureOp.load (v := .int .i64 (nth T k)) Try.underlying3 rfl rfl (fun _ => (CellIs.in_ sT k 0 (by omega) (by omega)))) ?_
        refine SL.pure rfl rfl rfl (PureOp.assign rfl) ?_
        refine SL.pure rfl rfl rfl (PureOp.assign rfl) ?_
        refine SL.nil_then ?_
        refine WC.seq ?_
        refine WC.seq ?_
        refine WC.region ?_
        refine SL.pure rfl rfl rfl (PureOp.move rfl) ?_
        refine SL.pure rfl rfl rfl (PureOp.move rfl) ?_
        refine SL.pure rfl rfl rfl (PureOp.indexAddrN Try.underlying22 sz3 rfl rfl (AoOk.in_ sR) (fun _ => by omega)) ?_
        refine SL.pure rfl rfl rfl (PureOp.load (v := .int .i64 (nth R k)) Try.underlying3 rfl rfl (fun _ => (CellIs.in_ sR k 0 (by omega) (by omega)))) ?_
        refine SL.pure rfl rfl rfl (PureOp.lss rfl rfl) ?_
        refine SL.pure rfl rfl rfl (PureOp.move rfl) ?_
        refine SL.newg 28 false rfl ?_
        refine SL.gpure (c := 1) rfl rfl rfl rfl rfl rfl rfl (PureOp.move rfl) ?_
        refine SL.gpure (c := 1) rfl rfl rfl rfl rfl rfl rfl (PureOp.move rfl) ?_
        refine SL.gpure (c := 1) rfl rfl rfl rfl rfl rfl rfl (PureOp.indexAddrN Try.underlying22 sz3 rfl rfl (AoOk.in_ sR) (by intro hg; simp [gval] at hg; omega)) ?_
        refine SL.gpure (c := 1) rfl rfl rfl rfl rfl rfl rfl (PureOp.load (v := .int .i64 (nth R k)) Try.underlying3 rfl rfl (by intro hg; simp [gval] at hg; exact (CellIs.in_ sR k 0 (by omega) (by omega)))) ?_
        refine SL.gpure (c := 1) rfl rfl rfl rfl rfl rfl rfl (PureOp.gtr rfl rfl) ?_
        refine SL.pure rfl rfl rfl (PureOp.or_ rfl rfl rfl rfl) ?_
        refine SL.nil_then ?_
        refine WC.cond rfl (fun h4 => ?_) (fun h4 => ?_)
        · try simp only [Bool.and_eq_true, Bool.or_eq_true, Bool.not_eq_true', Bool.not_eq_false', Bool.and_eq_false_iff, Bool.or_eq_false_iff, decide_eq_true_eq, decide_eq_false_iff_not, Int.not_lt, Int.not_le, ne_eq, Decidable.not_not] at h4
          exact (by exfalso; have e := newE_of (k := k + 1) (by omega) (by omega) (newK_row hz (by omega)) (by decide) (by omega); rw [e] at he; exact absurd he (by decide))
        · try simp only [Bool.and_eq_true, Bool.or_eq_true, Bool.not_eq_true', Bool.not_eq_false', Bool.and_eq_false_iff, Bool.or_eq_false_iff, decide_eq_true_eq, decide_eq_false_iff_not, Int.not_lt, Int.not_le, ne_eq, Decidable.not_not] at h4
          refine WC.skip ?_
          refine QX.then_ ?_
          refine WC.seq ?_
          refine WC.region ?_
          refine SL.pure rfl rfl rfl (PureOp.move rfl) ?_
          refine SL.pure rfl rfl rfl (PureOp.move rfl) ?_
          refine SL.pure rfl rfl rfl (PureOp.sliceh Try.underlying22 sz3 rfl rfl (fun _ => by omega)) ?_
          refine SL.pure rfl rfl rfl (PureOp.move rfl) ?_
          refine SL.calle rfl rfl rfl rfl rfl rfl callable25 (fun w hw => (by have h := contains_ok ((T.drop 0).take (k - 0)) _ _ _ (by rw [List.length_take, List.length_drop]; omega) (by omega) (nth T k) w (SliceIn.subrows (sT.below hw.below) hn 0 k (by omega) (by omega)); rw [ixT_take (by omega)] at h; exact h)) ?_
          refine SL.norm [_] rfl ?_
          refine SL.nil_then ?_
          refine WC.cond rfl (fun h5 => ?_) (fun h5 => ?_)
          · try simp only [Bool.and_eq_true, Bool.or_eq_true, Bool.not_eq_true', Bool.not_eq_false', Bool.and_eq_false_iff, Bool.or_eq_false_iff, decide_eq_true_eq, decide_eq_false_iff_not, Int.not_lt, Int.not_le, ne_eq, Decidable.not_not] at h5
            exact (by exfalso; have e := newE_of (k := k + 1) (by omega) (by omega) (newK_twice hz (by omega) (by simpa using h5)) (by decide) (by omega); rw [e] at he; exact absurd he (by decide))
          · try simp only [Bool.and_eq_true, Bool.or_eq_true, Bool.not_eq_true', Bool.not_eq_false', Bool.and_eq_false_iff, Bool.or_eq_false_iff, decide_eq_true_eq, decide_eq_false_iff_not, Int.not_lt, Int.not_le, ne_eq, Decidable.not_not] at h5
            refine WC.skip ?_
            refine QX.normal_in ?_
            refine QX.then_ ?_
            refine WC.region ?_
            refine SL.pure rfl rfl rfl (PureOp.addN (k := 1) rfl rfl (fun _ => by omega)) ?_
            refine SL.pure rfl rfl rfl (PureOp.move rfl) ?_
            refine SL.nil ?_
            refine QX.round 1 (k + 1) ⟨⟨(by first | omega | (dsimp only; omega)), newK_next hz (by omega) (by simpa using h5)⟩, by first | omega | (dsimp only; omega)⟩ ⟨rfl, rfl, rfl, rfl, rfl, rfl, rfl, rfl, rfl, rfl, rfl, rfl, rfl, rfl, rfl, rfl, rfl, rfl, rfl, rfl, rfl, rfl, rfl, rfl, rfl, rfl, trivial⟩ rfl
      · try simp only [Bool.and_eq_true, Bool.or_eq_true, Bool.not_eq_true', Bool.not_eq_false', Bool.and_eq_false_iff, Bool.or_eq_false_iff, decide_eq_true_eq, decide_eq_false_iff_not, Int.not_lt, Int.not_le, ne_eq, Decidable.not_not] at h3
        have ek : k = n := by omega
        have hM := made_of he
        refine WC.exit ?_
        refine QX.exit_then ?_
        refine QX.exit_then ?_
        refine QX.exit_hit ?_
        refine QX.then_ ?_
        refine WC.seq ?_
        refine WC.drawH 11 [false, false, false, false, false, false, false, false, false, false, false] rfl rfl rfl ?_
        refine SD.take 0 [true, false, false, false, false, false, false, false, false, false, false] rfl (by kernel_rfl) rfl (fun _ h => h) rfl rfl rfl (PureOp.move rfl) ?_
        refine SD.take 2 [true, false, true, false, false, false, false, false, false, false, false] rfl (by kernel_rfl) rfl (fun _ h => h) rfl rfl rfl (PureOp.move rfl) ?_
        refine SD.take 4 [true, false, true, false, true, false, false, false, false, false, false] rfl (by kernel_rfl) rfl (fun _ h => h) rfl rfl rfl (PureOp.move rfl) ?_
        refine SD.take 5 [true, false, true, false, true, true, false, false, false, false, false] rfl (by kernel_rfl) rfl (fun _ h => h) rfl rfl rfl (PureOp.len rfl Try.underlying22) ?_
        refine SD.all [1, 6] (by kernel_rfl) (by simp) ⟨⟨_, [true, true, true, false, true, true, false, false, false, false, false], rfl, rfl, ?_⟩, ⟨_, [true, false, true, false, true, true, true, false, false, false, false], rfl, rfl, ?_⟩, trivial⟩
        · skip
          refine SL.callo (fun qa qc => .slice qa n qc) rfl rfl rfl rfl rfl rfl callable26 (fun w hw => clone_ok T _ _ _ hn (by omega) w (sT.below hw.below)) (fun qa qc => ?_)
          refine SL.norm [_, _] rfl ?_
          refine SD.back (fun _ h => HeapOk.take h 1) ?_
          refine SD.all [3, 6] (by kernel_rfl) (by simp) ⟨⟨_, [true, true, true, true, true, true, false, false, false, false, false], rfl, rfl, ?_⟩, ⟨_, [true, true, true, false, true, true, true, false, false, false, false], rfl, rfl, ?_⟩, trivial⟩
          · skip
            refine SL.callo (fun pa pc => .slice pa m pc) rfl rfl rfl rfl rfl rfl callable26 (fun w hw => clone_ok R _ _ _ hm (by omega) w (sR.below hw.below)) (fun pa pc => ?_)
            refine SL.norm [_, _, _] rfl ?_
            refine SD.back (fun _ h => HeapOk.take h 1) ?_
            refine SD.one 6 [true, true, true, true, true, true, true, false, false, false, false] (by kernel_rfl) rfl rfl ?_
            refine SL.make rfl rfl Try.underlying42 elem4 rfl rfl (by omega) (by omega) (fun b1 hb1 => ?_)
            refine SL.norm [_, _, _, _] rfl ?_
            refine SD.back (fun _ h => HeapOk.take h 1) ?_
            refine SD.take 7 [true, true, true, true, true, true, true, true, false, false, false] rfl (by kernel_rfl) rfl (fun _ h => HeapOk.take h 1) rfl rfl rfl (PureOp.build bld44 rfl rfl) ?_
            refine SD.one 8 [true, true, true, true, true, true, true, true, true, false, false] (by kernel_rfl) rfl rfl ?_
            refine SL.box rfl rfl rfl (fun b2 hb2 => ?_)
            refine SL.norm [_, _, _, _, _] rfl ?_
            refine SD.back (fun _ h => HeapOk.take h 1) ?_
            refine SD.take 9 [true, true, true, true, true, true, true, true, true, true, false] rfl (by kernel_rfl) rfl (fun _ h => HeapOk.take h 1) rfl rfl rfl (PureOp.assign rfl) ?_
            refine SD.take 10 [true, true, true, true, true, true, true, true, true, true, true] rfl (by kernel_rfl) rfl (fun _ h => HeapOk.take h 1) rfl rfl rfl (PureOp.assign rfl) ?_
            refine SD.done (by kernel_rfl) ?_
            refine QX.ofK ?_
            refine QX.then_ ?_
            refine WC.ret ?_
            refine QX.body2 rfl rfl rfl ?_
            intro w hw
            obtain rfl : m = n := by omega
            refine ⟨(b2, (qa, qc), (pa, pc), b1), rfl, hb2, ?_⟩
            have h := HeapOk.pick [0, 4, 1, 2, 3] (by decide) hw
            rw [rep_bo] at h
            try rw [Nat.zero_add] at h
            try rw [Nat.zero_add] at h
            exact h
          · skip
            refine SL.make rfl rfl Try.underlying42 elem4 rfl rfl (by omega) (by omega) (fun b3 hb3 => ?_)
            refine SL.norm [_, _, _] rfl ?_
            refine SD.back (fun _ h => HeapOk.take h 1) ?_
            refine SD.one 3 [true, true, true, true, true, true, true, false, false, false, false] (by kernel_rfl) rfl rfl ?_
            refine SL.callo (fun pa pc => .slice pa m pc) rfl rfl rfl rfl rfl rfl callable26 (fun w hw => clone_ok R _ _ _ hm (by omega) w (sR.below hw.below)) (fun pa pc => ?_)
            refine SL.norm [_, _, _, _] rfl ?_
            refine SD.back (fun _ h => HeapOk.take h 1) ?_
            refine SD.take 7 [true, true, true, true, true, true, true, true, false, false, false] rfl (by kernel_rfl) rfl (fun _ h => HeapOk.take h 1) rfl rfl rfl (PureOp.build bld44 rfl rfl) ?_
            refine SD.one 8 [true, true, true, true, true, true, true, true, true, false, false] (by kernel_rfl) rfl rfl ?_
            refine SL.box rfl rfl rfl (fun b4 hb4 => ?_)
            refine SL.norm [_, _, _, _, _] rfl ?_
            refine SD.back (fun _ h => HeapOk.take h 1) ?_
            refine SD.take 9 [true, true, true, true, true, true, true, true, true, true, false] rfl (by kernel_rfl) rfl (fun _ h => HeapOk.take h 1) rfl rfl rfl (PureOp.assign rfl) ?_
            refine SD.take 10 [true, true, true, true, true, true, true, true, true, true, true] rfl (by kernel_rfl) rfl (fun _ h => HeapOk.take h 1) rfl rfl rfl (PureOp.assign rfl) ?_
            refine SD.done (by kernel_rfl) ?_
            refine QX.ofK ?_
            refine QX.then_ ?_
            refine WC.ret ?_
            refine QX.body2 rfl rfl rfl ?_
            intro w hw
            obtain rfl : m = n := by omega
            refine ⟨(b4, (qa, qc), (pa, pc), b3), rfl, hb4, ?_⟩
            have h := HeapOk.pick [0, 4, 1, 3, 2] (by decide) hw
            rw [rep_bo] at h
            try rw [Nat.zero_add] at h
            try rw [Nat.zero_add] at h
            exact h
        · skip
          refine SL.make rfl rfl Try.underlying42 elem4 rfl rfl (by omega) (by omega) (fun b5 hb5 => ?_)
          refine SL.norm [_, _] rfl ?_
          refine SD.back (fun _ h => HeapOk.take h 1) ?_
          refine SD.one 1 [true, true, true, false, true, true, true, false, false, false, false] (by kernel_rfl) rfl rfl ?_
          refine SL.callo (fun qa qc => .slice qa n qc) rfl rfl rfl rfl rfl rfl callable26 (fun w hw => clone_ok T _ _ _ hn (by omega) w (sT.below hw.below)) (fun qa qc => ?_)
          refine SL.norm [_, _, _] rfl ?_
          refine SD.back (fun _ h => HeapOk.take h 1) ?_
          refine SD.one 3 [true, true, true, true, true, true, true, false, false, false, false] (by kernel_rfl) rfl rfl ?_
          refine SL.callo (fun pa pc => .slice pa m pc) rfl rfl rfl rfl rfl rfl callable26 (fun w hw => clone_ok R _ _ _ hm (by omega) w (sR.below hw.below)) (fun pa pc => ?_)
          refine SL.norm [_, _, _, _] rfl ?_
          refine SD.back (fun _ h => HeapOk.take h 1) ?_
          refine SD.take 7 [true, true, true, true, true, true, true, true, false, false, false] rfl (by kernel_rfl) rfl (fun _ h => HeapOk.take h 1) rfl rfl rfl (PureOp.build bld44 rfl rfl) ?_
          refine SD.one 8 [true, true, true, true, true, true, true, true, true, false, false] (by kernel_rfl) rfl rfl ?_
          refine SL.box rfl rfl rfl (fun b6 hb6 => ?_)
          refine SL.norm [_, _, _, _, _] rfl ?_
          refine SD.back (fun _ h => HeapOk.take h 1) ?_
          refine SD.take 9 [true, true, true, true, true, true, true, true, true, true, false] rfl (by kernel_rfl) rfl (fun _ h => HeapOk.take h 1) rfl rfl rfl (PureOp.assign rfl) ?_
          refine SD.take 10 [true, true, true, true, true, true, true, true, true, true, true] rfl (by kernel_rfl) rfl (fun _ h => HeapOk.take h 1) rfl rfl rfl (PureOp.assign rfl) ?_
          refine SD.done (by kernel_rfl) ?_
          refine QX.ofK ?_
          refine QX.then_ ?_
          refine WC.ret ?_
          refine QX.body2 rfl rfl rfl ?_
          intro w hw
          obtain rfl : m = n := by omega
          refine ⟨(b6, (qa, qc), (pa, pc), b5), rfl, hb6, ?_⟩
          have h := HeapOk.pick [0, 4, 2, 3, 1] (by decide) hw
          rw [rep_bo] at h
          try rw [Nat.zero_add] at h
          try rw [Nat.zero_add] at h
          exact h

set_option maxHeartbeats 4000000 in
set_option maxRecDepth 100000 in
theorem rnew (T R : List Int) (ta ra : Option Addr) (n m tc rc : Nat) (hn : n = T.length) (hm : m = R.length) (he : newE T R = 0) (w0 : World) (sT : SliceIn w0 1 ta n tc (rowsF encI T)) (sR : SliceIn w0 1 ra m rc (rowsF encI R)) : MC Try.prog 10 [.slice ta n tc, .slice ra m rc] w0 [] (fun u_ : Nat × (Option Addr × Nat) × (Option Addr × Nat) × Nat => .tuple #[.pointer (some ⟨u_.1, 0, none⟩), .int .i64 0]) (fun _ => []) (fun u_ => w0.heap.size ≤ u_.1) (fun u_ => [Item.cells u_.1 [.slice u_.2.1.1 n u_.2.1.2, .slice u_.2.2.1.1 n u_.2.2.1.2, .slice (some ⟨u_.2.2.2, 0, none⟩) n n, .slice none 0 0, .bool true, .bool false] 59, Item.own w0.heap.size u_.2.1.1 n u_.2.1.2 3 1 (cellsOf encI T), Item.own w0.heap.size u_.2.2.1.1 n u_.2.2.1.2 3 1 (cellsOf encI R), Item.own w0.heap.size (some ⟨u_.2.2.2, 0, none⟩) n n 4 1 (cellsOf encBo (List.replicate n false))]) := by
  have hle := sT.le
  refine mcalls (N := 59) Try.func10 rfl rfl rfl ?_
  intro X
  show WC _ _ _ _ _ _ _ [X]
  refine WC.seq ?_
  refine WC.region ?_
  refine SL.pure rfl rfl rfl (PureOp.assign rfl) ?_
  refine SL.pure rfl rfl rfl (PureOp.assign rfl) ?_
  refine SL.nil_then ?_
  refine WC.seq ?_
  refine WC.seq ?_
  refine WC.region ?_
  refine SL.pure rfl rfl rfl (PureOp.move rfl) ?_
  refine SL.pure rfl rfl rfl (PureOp.len rfl Try.underlying22) ?_
  refine SL.pure rfl rfl rfl (PureOp.gtr rfl rfl) ?_
  refine SL.nil_then ?_
  refine WC.cond rfl (fun h1 => ?_) (fun h1 => ?_)
  · try simp only [Bool.and_eq_true, Bool.or_eq_true, Bool.not_eq_true', Bool.not_eq_false', Bool.and_eq_false_iff, Bool.or_eq_false_iff, decide_eq_true_eq, decide_eq_false_iff_not, Int.not_lt, Int.not_le, ne_eq, Decidable.not_not] at h1
    exact (by exfalso; rw [newE, if_pos (by omega)] at he; exact absurd he (by decide))
  · try simp only [Bool.and_eq_true, Bool.or_eq_true, Bool.not_eq_true', Bool.not_eq_false', Bool.and_eq_false_iff, Bool.or_eq_false_iff, decide_eq_true_eq, decide_eq_false_iff_not, Int.not_lt, Int.not_le, ne_eq, Decidable.not_not] at h1
    refine WC.skip ?_
    refine QX.then_ ?_
    refine WC.seq ?_
    refine WC.seq ?_
    refine WC.region ?_
    refine SL.pure rfl rfl rfl (PureOp.move rfl) ?_
    refine SL.pure rfl rfl rfl (PureOp.len rfl Try.underlying22) ?_
    refine SL.pure rfl rfl rfl (PureOp.move rfl) ?_
    refine SL.pure rfl rfl rfl (PureOp.len rfl Try.underlying22) ?_
    refine SL.pure rfl rfl rfl (PureOp.neq rfl rfl) ?_
    refine SL.nil_then ?_
    refine WC.cond rfl (fun h2 => ?_) (fun h2 => ?_)
    · try simp only [Bool.and_eq_true, Bool.or_eq_true, Bool.not_eq_true', Bool.not_eq_false', Bool.and_eq_false_iff, Bool.or_eq_false_iff, decide_eq_true_eq, decide_eq_false_iff_not, Int.not_lt, Int.not_le, ne_eq, Decidable.not_not] at h2
      exact (by exfalso; rw [newE, if_neg (by omega), if_pos (by omega)] at he; exact absurd he (by decide))
    · try simp only [Bool.and_eq_true, Bool.or_eq_true, Bool.not_eq_true', Bool.not_eq_false', Bool.and_eq_false_iff, Bool.or_eq_false_iff, decide_eq_true_eq, decide_eq_false_iff_not, Int.not_lt, Int.not_le, ne_eq, Decidable.not_not] at h2
      refine WC.skip ?_
      refine QX.then_ ?_
      refine WC.seq ?_
      refine WC.seq ?_
      refine WC.region ?_
      refine SL.pure rfl rfl rfl (PureOp.assign rfl) ?_
      refine SL.nil_then ?_
      refine WC.block ?_
      refine WC.loop (σ := Nat) (fun q_ => [(0, 0, .slice ta n tc), (1, 0, .slice ra m rc), (8, 0, .slice ta n tc), (9, 0, .int .i64 ((n : Nat) : Int)), (10, 0, .bool (decide (999 < ((n : Nat) : Int)))), (11, 0, .slice ta n tc), (12, 0, .int .i64 ((n : Nat) : Int)), (13, 0, .slice ra m rc), (14, 0, .int .i64 ((m : Nat) : Int)), (15, 0, .bool (decide (((n : Nat) : Int) ≠ ((m : Nat) : Int)))), (6, 0, .int .i64 ((q_ : Nat) : Int))]) (fun q_ => [X]) (fun q_ => q_ ≤ n ∧ newK T R q_ = 0) (fun q_ => n - q_) 1 (0) (⟨Nat.zero_le _, rfl⟩) ⟨rfl, rfl, rfl, rfl, rfl, rfl, rfl, rfl, rfl, rfl, rfl, rfl, rfl, rfl, rfl, rfl, rfl, rfl, rfl, rfl, rfl, rfl, trivial⟩ rfl ?_
      rintro k ⟨hk, hz⟩
      refine WC.seq ?_
      refine WC.seq ?_
      refine WC.region ?_
      refine SL.pure rfl rfl rfl (PureOp.move rfl) ?_
      refine SL.pure rfl rfl rfl (PureOp.move rfl) ?_
      refine SL.pure rfl rfl rfl (PureOp.len rfl Try.underlying22) ?_
      refine SL.pure rfl rfl rfl (PureOp.lss rfl rfl) ?_
      refine SL.nil_then ?_
      refine WC.cond rfl (fun h3 => ?_) (fun h3 => ?_)
      · try simp only [Bool.and_eq_true, Bool.or_eq_true, Bool.not_eq_true', Bool.not_eq_false', Bool.and_eq_false_iff, Bool.or_eq_false_iff, decide_eq_true_eq, decide_eq_false_iff_not, Int.not_lt, Int.not_le, ne_eq, Decidable.not_not] at h3
        refine WC.skip ?_
        refine QX.then_ ?_
        refine WC.seq ?_
        refine WC.block ?_
        refine WC.seq ?_
        refine WC.seq ?_
        refine WC.region ?_
        refine SL.pure rfl rfl rfl (PureOp.move rfl) ?_
        refine SL.pure rfl rfl rfl (PureOp.move rfl) ?_
        refine SL.pure rfl rfl rfl (PureOp.indexAddrN Try.underlying22 sz3 rfl rfl (AoOk.in_ sR) (fun _ => by omega)) ?_
        refine SL.pure rfl rfl rfl (PureOp.load (v := .int .i64 (nth R k)) Try.underlying3 rfl rfl (fun _ => (CellIs.in_ sR k 0 (by omega) (by omega)))) ?_
        refine SL.pure rfl rfl rfl (PureOp.lss rfl rfl) ?_
        refine SL.pure rfl rfl rfl (PureOp.move rfl) ?_
        refine SL.newg 27 false rfl ?_
        refine SL.gpure (c := 1) rfl rfl rfl rfl rfl rfl rfl (PureOp.move rfl) ?_
        refine SL.gpure (c := 1) rfl rfl rfl rfl rfl rfl rfl (PureOp.move rfl) ?_
        refine SL.gpure (c := 1) rfl rfl rfl rfl rfl rfl rfl (PureOp.indexAddrN Try.underlying22 sz3 rfl rfl (AoOk.in_ sR) (by intro hg; simp [gval] at hg; omega)) ?_
        refine SL.gpure (c := 1) rfl rfl rfl rfl rfl rfl rfl (PureOp.load (v := .int .i64 (nth R k)) Try.underlying3 rfl rfl (by intro hg; simp [gval] at hg; exact (CellIs.in_ sR k 0 (by omega) (by omega)))) ?_
        refine SL.gpure (c := 1) rfl rfl rfl rfl rfl rfl rfl (PureOp.gtr rfl rfl) ?_
        refine SL.pure rfl rfl rfl (PureOp.or_ rfl rfl rfl rfl) ?_
        refine SL.nil_then ?_
        refine WC.cond rfl (fun h4 => ?_) (fun h4 => ?_)
        · try simp only [Bool.and_eq_true, Bool.or_eq_true, Bool.not_eq_true', Bool.not_eq_false', Bool.and_eq_false_iff, Bool.or_eq_false_iff, decide_eq_true_eq, decide_eq_false_iff_not, Int.not_lt, Int.not_le, ne_eq, Decidable.not_not] at h4
          exact (by exfalso; have e := newE_of (k := k + 1) (by omega) (by omega) (newK_row hz (by omega)) (by decide) (by omega); rw [e] at he; exact absurd he (by decide))
        · try simp only [Bool.and_eq_true, Bool.or_eq_true, Bool.not_eq_true', Bool.not_eq_false', Bool.and_eq_false_iff, Bool.or_eq_false_iff, decide_eq_true_eq, decide_eq_false_iff_not, Int.not_lt, Int.not_le, ne_eq, Decidable.not_not] at h4
          refine WC.skip ?_
          refine QX.then_ ?_
          refine WC.seq ?_
          refine WC.region ?_
          refine SL.pure rfl rfl rfl (PureOp.assign rfl) ?_
          refine SL.nil_then ?_
          refine WC.block ?_
          refine WC.loop (σ := Nat) (fun q_ => [(0, 0, .slice ta n tc), (1, 0, .slice ra m rc), (6, 0, .int .i64 ((k : Nat) : Int)), (8, 0, .slice ta n tc), (9, 0, .int .i64 ((n : Nat) : Int)), (10, 0, .bool (decide (999 < ((n : Nat) : Int)))), (11, 0, .slice ta n tc), (12, 0, .int .i64 ((n : Nat) : Int)), (13, 0, .slice ra m rc), (14, 0, .int .i64 ((m : Nat) : Int)), (15, 0, .bool (decide (((n : Nat) : Int) ≠ ((m : Nat) : Int)))), (16, 0, .int .i64 ((k : Nat) : Int)), (17, 0, .slice ta n tc), (18, 0, .int .i64 ((n : Nat) : Int)), (19, 0, .bool (decide (((k : Nat) : Int) < ((n : Nat) : Int)))), (22, 0, .slice ra m rc), (23, 0, .int .i64 ((k : Nat) : Int)), (24, 0, .pointer (some ⟨blk ra, off ra + k * 1, none⟩)), (25, 0, .int .i64 (nth R k)), (26, 0, .bool (decide (nth R k < 1))), (27, 0, .bool (decide (nth R k < 1))), (33, 0, .bool ((decide (nth R k < 1)) || (decide (999 < nth R k)))), (7, 0, .int .i64 ((q_ : Nat) : Int))]) (fun q_ => [X]) (fun q_ => q_ ≤ k ∧ ∀ i, i < q_ → decide (nth T i = nth T k) = false) (fun q_ => k - q_) 1 (0) (⟨Nat.zero_le _, fun _ h => absurd h (Nat.not_lt_zero _)⟩) ⟨rfl, rfl, rfl, rfl, rfl, rfl, rfl, rfl, rfl, rfl, rfl, rfl, rfl, rfl, rfl, rfl, rfl, rfl, rfl, rfl, rfl, rfl, rfl, rfl, rfl, rfl, rfl, rfl, rfl, rfl, rfl, rfl, rfl, rfl, rfl, rfl, rfl, rfl, rfl, rfl, rfl, rfl, rfl, rfl, rfl, rfl, trivial⟩ rfl ?_
          rintro j ⟨hj, ha⟩
          refine WC.seq ?_
          refine WC.seq ?_
          refine WC.region ?_
          refine SL.pure rfl rfl rfl (PureOp.move rfl) ?_
          refine SL.pure rfl rfl rfl (PureOp.move rfl) ?_
          refine SL.pure rfl rfl rfl (PureOp.lss rfl rfl) ?_
          refine SL.nil_then ?_
          refine WC.cond rfl (fun h5 => ?_) (fun h5 => ?_)
          · try simp only [Bool.and_eq_true, Bool.or_eq_true, Bool.not_eq_true', Bool.not_eq_false', Bool.and_eq_false_iff, Bool.or_eq_false_iff, decide_eq_true_eq, decide_eq_false_iff_not, Int.not_lt, Int.not_le, ne_eq, Decidable.not_not] at h5
            refine WC.skip ?_
            refine QX.then_ ?_
            refine WC.seq ?_
            refine WC.block ?_
            refine WC.seq ?_
            refine WC.drawH 9 [false, false, false, false, false, false, false, false, false] rfl rfl rfl ?_
            refine SD.take 0 [true, false, false, false, false, false, false, false, false] rfl (by kernel_rfl) rfl (fun _ h => h) rfl rfl rfl (PureOp.move rfl) ?_
            refine SD.take 1 [true, true, false, false, false, false, false, false, false] rfl (by kernel_rfl) rfl (fun _ h => h) rfl rfl rfl (PureOp.move rfl) ?_
            refine SD.take 2 [true, true, true, false, false, false, false, false, false] rfl (by kernel_rfl) rfl (fun _ h => h) rfl rfl rfl (PureOp.indexAddrN Try.underlying22 sz3 rfl rfl (AoOk.in_ sT) (fun _ => by omega)) ?_
            refine SD.take 3 [true, true, true, true, false, false, false, false, false] rfl (by kernel_rfl) rfl (fun _ h => h) rfl rfl rfl (PureOp.load (v := .int .i64 (nth T j)) Try.underlying3 rfl rfl (fun _ => (CellIs.in_ sT j 0 (by omega) (by omega)))) ?_
            refine SD.take 4 [true, true, true, true, true, false, false, false, false] rfl (by kernel_rfl) rfl (fun _ h => h) rfl rfl rfl (PureOp.move rfl) ?_
            refine SD.take 5 [true, true, true, true, true, true, false, false, false] rfl (by kernel_rfl) rfl (fun _ h => h) rfl rfl rfl (PureOp.move rfl) ?_
            refine SD.take 6 [true, true, true, true, true, true, true, false, false] rfl (by kernel_rfl) rfl (fun _ h => h) rfl rfl rfl (PureOp.indexAddrN Try.underlying22 sz3 rfl rfl (AoOk.in_ sT) (fun _ => by omega)) ?_
            refine SD.take 7 [true, true, true, true, true, true, true, true, false] rfl (by kernel_rfl) rfl (fun _ h => h) rfl rfl rfl (PureOp.load (v := .int .i64 (nth T k)) Try.underlying3 rfl rfl (fun _ => (CellIs.in_ sT k 0 (by omega) (by omega)))) ?_
            refine SD.take 8 [true, true, true, true, true, true, true, true, true] rfl (by kernel_rfl) rfl (fun _ h => h) rfl rfl rfl (PureOp.eql rfl rfl) ?_
            refine SD.done (by kernel_rfl) ?_
            refine QX.ofK ?_
            refine QX.then_ ?_
            refine WC.cond rfl (fun h6 => ?_) (fun h6 => ?_)
            · try simp only [Bool.and_eq_true, Bool.or_eq_true, Bool.not_eq_true', Bool.not_eq_false', Bool.and_eq_false_iff, Bool.or_eq_false_iff, decide_eq_true_eq, decide_eq_false_iff_not, Int.not_lt, Int.not_le, ne_eq, Decidable.not_not] at h6
              exact (by exfalso; have e := newE_of (k := k + 1) (by omega) (by omega) (newK_twice hz (by omega) (by rw [fnd_hit (k := j) (by omega) (by simpa using h6) ha]; omega)) (by decide) (by omega); rw [e] at he; exact absurd he (by decide))
            · try simp only [Bool.and_eq_true, Bool.or_eq_true, Bool.not_eq_true', Bool.not_eq_false', Bool.and_eq_false_iff, Bool.or_eq_false_iff, decide_eq_true_eq, decide_eq_false_iff_not, Int.not_lt, Int.not_le, ne_eq, Decidable.not_not] at h6
              refine WC.skip ?_
              refine QX.normal_in ?_
              refine QX.then_ ?_
              refine WC.region ?_
              refine SL.pure rfl rfl rfl (PureOp.move rfl) ?_
              refine SL.pure rfl rfl rfl (PureOp.addN (k := 1) rfl rfl (fun _ => by omega)) ?_
              refine SL.pure rfl rfl rfl (PureOp.assign rfl) ?_
              refine SL.nil ?_
              refine QX.round 1 (j + 1) ⟨⟨(by first | omega | (dsimp only; omega)), fun i hi => by
                    by_cases e : i = j
                    · subst e; simpa using h6
                    · exact ha i (by omega)⟩, by first | omega | (dsimp only; omega)⟩ ⟨rfl, rfl, rfl, rfl, rfl, rfl, rfl, rfl, rfl, rfl, rfl, rfl, rfl, rfl, rfl, rfl, rfl, rfl, rfl, rfl, rfl, rfl, rfl, rfl, rfl, rfl, rfl, rfl, rfl, rfl, rfl, rfl, rfl, rfl, rfl, rfl, rfl, rfl, rfl, rfl, rfl, rfl, rfl, rfl, rfl, rfl, trivial⟩ rfl
          · try simp only [Bool.and_eq_true, Bool.or_eq_true, Bool.not_eq_true', Bool.not_eq_false', Bool.and_eq_false_iff, Bool.or_eq_false_iff, decide_eq_true_eq, decide_eq_false_iff_not, Int.not_lt, Int.not_le, ne_eq, Decidable.not_not] at h5
            refine WC.exit ?_
            refine QX.exit_then ?_
            refine QX.exit_then ?_
            refine QX.exit_hit ?_
            refine QX.normal_in ?_
            refine QX.then_ ?_
            refine WC.region ?_
            refine SL.pure rfl rfl rfl (PureOp.move rfl) ?_
            refine SL.pure rfl rfl rfl (PureOp.addN (k := 1) rfl rfl (fun _ => by omega)) ?_
            refine SL.pure rfl rfl rfl (PureOp.assign rfl) ?_
            refine SL.nil ?_
            refine QX.round 1 (k + 1) ⟨⟨(by first | omega | (dsimp only; omega)), newK_next hz (by omega) (by rw [fnd_miss (fun i hi => ha i (by omega))]; decide)⟩, by first | omega | (dsimp only; omega)⟩ ⟨rfl, rfl, rfl, rfl, rfl, rfl, rfl, rfl, rfl, rfl, rfl, rfl, rfl, rfl, rfl, rfl, rfl, rfl, rfl, rfl, rfl, rfl, trivial⟩ rfl
      · try simp only [Bool.and_eq_true, Bool.or_eq_true, Bool.not_eq_true', Bool.not_eq_false', Bool.and_eq_false_iff, Bool.or_eq_false_iff, decide_eq_true_eq, decide_eq_false_iff_not, Int.not_lt, Int.not_le, ne_eq, Decidable.not_not] at h3
        have ek : k = n := by omega
        have hM := made_of he
        refine WC.exit ?_
        refine QX.exit_then ?_
        refine QX.exit_then ?_
        refine QX.exit_hit ?_
        refine QX.then_ ?_
        refine WC.seq ?_
        refine WC.drawH 13 [false, false, false, false, false, false, false, false, false, false, false, false, false] rfl rfl rfl ?_
        refine SD.take 1 [false, true, false, false, false, false, false, false, false, false, false, false, false] rfl (by kernel_rfl) rfl (fun _ h => h) rfl rfl rfl (PureOp.move rfl) ?_
        refine SD.take 4 [false, true, false, false, true, false, false, false, false, false, false, false, false] rfl (by kernel_rfl) rfl (fun _ h => h) rfl rfl rfl (PureOp.move rfl) ?_
        refine SD.take 6 [false, true, false, false, true, false, true, false, false, false, false, false, false] rfl (by kernel_rfl) rfl (fun _ h => h) rfl rfl rfl (PureOp.move rfl) ?_
        refine SD.take 7 [false, true, false, false, true, false, true, true, false, false, false, false, false] rfl (by kernel_rfl) rfl (fun _ h => h) rfl rfl rfl (PureOp.len rfl Try.underlying22) ?_
        refine SD.all [0, 3, 8] (by kernel_rfl) (by simp) ⟨⟨_, [true, true, false, false, true, false, true, true, false, false, false, false, false], rfl, rfl, ?_⟩, ⟨_, [false, true, false, true, true, false, true, true, false, false, false, false, false], rfl, rfl, ?_⟩, ⟨_, [false, true, false, false, true, false, true, true, true, false, false, false, false], rfl, rfl, ?_⟩, trivial⟩
        · skip
          refine SL.buildSlice0 rfl rfl Try.underlying22 elem3 (fun b1 hb1 => ?_)
          refine SL.norm [_, _] rfl ?_
          refine SD.back (fun _ h => HeapOk.take h 1) ?_
          refine SD.all [2, 3, 8] (by kernel_rfl) (by simp) ⟨⟨_, [true, true, true, false, true, false, true, true, false, false, false, false, false], rfl, rfl, ?_⟩, ⟨_, [true, true, false, true, true, false, true, true, false, false, false, false, false], rfl, rfl, ?_⟩, ⟨_, [true, true, false, false, true, false, true, true, true, false, false, false, false], rfl, rfl, ?_⟩, trivial⟩
          · skip
            refine SL.append 1 rfl rfl Try.underlying22 elem3 rfl rfl rfl rfl (fun w hw => SrcIs.of (sT.below hw.below) encI_len hn) (by exact all_one_cells (fun x => rfl) _) (by omega) (by omega) (fun ao1_ cap1_ => ?_)
            refine SL.itemxs 1 rfl (show _ = cellsOf encI T from by rfl) ?_
            refine SL.norm [_, _] rfl ?_
            refine SD.back (fun _ h => HeapOk.take h 1) ?_
            refine SD.all [3, 8] (by kernel_rfl) (by simp) ⟨⟨_, [true, true, true, true, true, false, true, true, false, false, false, false, false], rfl, rfl, ?_⟩, ⟨_, [true, true, true, false, true, false, true, true, true, false, false, false, false], rfl, rfl, ?_⟩, trivial⟩
            · skip
              refine SL.buildSlice0 rfl rfl Try.underlying22 elem3 (fun b2 hb2 => ?_)
              refine SL.norm [_, _, _] rfl ?_
              refine SD.back (fun _ h => HeapOk.take h 1) ?_
              refine SD.all [5, 8] (by kernel_rfl) (by simp) ⟨⟨_, [true, true, true, true, true, true, true, true, false, false, false, false, false], rfl, rfl, ?_⟩, ⟨_, [true, true, true, true, true, false, true, true, true, false, false, false, false], rfl, rfl, ?_⟩, trivial⟩
              · skip
                refine SL.append 2 rfl rfl Try.underlying22 elem3 rfl rfl rfl rfl (fun w hw => SrcIs.of (sR.below hw.below) encI_len hm) (by exact all_one_cells (fun x => rfl) _) (by omega) (by omega) (fun ao2_ cap2_ => ?_)
                refine SL.itemxs 2 rfl (show _ = cellsOf encI R from by rfl) ?_
                refine SL.norm [_, _, _] rfl ?_
                refine SD.back (fun _ h => HeapOk.take h 1) ?_
                refine SD.one 8 [true, true, true, true, true, true, true, true, true, false, false, false, false] (by kernel_rfl) rfl rfl ?_
                refine SL.make rfl rfl Try.underlying42 elem4 rfl rfl (by omega) (by omega) (fun b3 hb3 => ?_)
                refine SL.norm [_, _, _, _] rfl ?_
                refine SD.back (fun _ h => HeapOk.take h 1) ?_
                refine SD.take 9 [true, true, true, true, true, true, true, true, true, true, false, false, false] rfl (by kernel_rfl) rfl (fun _ h => HeapOk.take h 1) rfl rfl rfl (PureOp.build bld59 rfl rfl) ?_
                refine SD.one 10 [true, true, true, true, true, true, true, true, true, true, true, false, false] (by kernel_rfl) rfl rfl ?_
                refine SL.box rfl rfl rfl (fun b4 hb4 => ?_)
                refine SL.norm [_, _, _, _, _] rfl ?_
                refine SD.back (fun _ h => HeapOk.take h 1) ?_
                refine SD.take 11 [true, true, true, true, true, true, true, true, true, true, true, true, false] rfl (by kernel_rfl) rfl (fun _ h => HeapOk.take h 1) rfl rfl rfl (PureOp.assign rfl) ?_
                refine SD.take 12 [true, true, true, true, true, true, true, true, true, true, true, true, true] rfl (by kernel_rfl) rfl (fun _ h => HeapOk.take h 1) rfl rfl rfl (PureOp.assign rfl) ?_
                refine SD.done (by kernel_rfl) ?_
                refine QX.ofK ?_
                refine QX.then_ ?_
                refine WC.ret ?_
                refine QX.body2 rfl rfl rfl ?_
                intro w hw
                obtain rfl : m = n := by omega
                refine ⟨(b4, (ao1_, cap1_), (ao2_, cap2_), b3), rfl, hb4, ?_⟩
                have h := HeapOk.pick [0, 4, 1, 2, 3] (by decide) hw
                rw [rep_bo] at h
                try rw [Nat.zero_add] at h
                try rw [Nat.zero_add] at h
                exact h
              · skip
                refine SL.make rfl rfl Try.underlying42 elem4 rfl rfl (by omega) (by omega) (fun b5 hb5 => ?_)
                refine SL.norm [_, _, _, _] rfl ?_
                refine SD.back (fun _ h => HeapOk.take h 1) ?_
                refine SD.one 5 [true, true, true, true, true, true, true, true, true, false, false, false, false] (by kernel_rfl) rfl rfl ?_
                refine SL.append 2 rfl rfl Try.underlying22 elem3 rfl rfl rfl rfl (fun w hw => SrcIs.of (sR.below hw.below) encI_len hm) (by exact all_one_cells (fun x => rfl) _) (by omega) (by omega) (fun ao3_ cap3_ => ?_)
                refine SL.itemxs 2 rfl (show _ = cellsOf encI R from by rfl) ?_
                refine SL.norm [_, _, _, _] rfl ?_
                refine SD.back (fun _ h => HeapOk.take h 1) ?_
                refine SD.take 9 [true, true, true, true, true, true, true, true, true, true, false, false, false] rfl (by kernel_rfl) rfl (fun _ h => HeapOk.take h 1) rfl rfl rfl (PureOp.build bld59 rfl rfl) ?_
                refine SD.one 10 [true, true, true, true, true, true, true, true, true, true, true, false, false] (by kernel_rfl) rfl rfl ?_
                refine SL.box rfl rfl rfl (fun b6 hb6 => ?_)
                refine SL.norm [_, _, _, _, _] rfl ?_
                refine SD.back (fun _ h => HeapOk.take h 1) ?_
                refine SD.take 11 [true, true, true, true, true, true, true, true, true, true, true, true, false] rfl (by kernel_rfl) rfl (fun _ h => HeapOk.take h 1) rfl rfl rfl (PureOp.assign rfl) ?_
                refine SD.take 12 [true, true, true, true, true, true, true, true, true, true, true, true, true] rfl (by kernel_rfl) rfl (fun _ h => HeapOk.take h 1) rfl rfl rfl (PureOp.assign rfl) ?_
                refine SD.done (by kernel_rfl) ?_
                refine QX.ofK ?_
                refine QX.then_ ?_
                refine WC.ret ?_
                refine QX.body2 rfl rfl rfl ?_
                intro w hw
                obtain rfl : m = n := by omega
                refine ⟨(b6, (ao1_, cap1_), (ao3_, cap3_), b5), rfl, hb6, ?_⟩
                have h := HeapOk.pick [0, 4, 1, 2, 3] (by decide) hw
                rw [rep_bo] at h
                try rw [Nat.zero_add] at h
                try rw [Nat.zero_add] at h
                exact h
            · skip
              refine SL.make rfl rfl Try.underlying42 elem4 rfl rfl (by omega) (by omega) (fun b7 hb7 => ?_)
              refine SL.norm [_, _, _] rfl ?_
              refine SD.back (fun _ h => HeapOk.take h 1) ?_
              refine SD.one 3 [true, true, true, true, true, false, true, true, true, false, false, false, false] (by kernel_rfl) rfl rfl ?_
              refine SL.buildSlice0 rfl rfl Try.underlying22 elem3 (fun b8 hb8 => ?_)
              refine SL.norm [_, _, _, _] rfl ?_
              refine SD.back (fun _ h => HeapOk.take h 1) ?_
              refine SD.one 5 [true, true, true, true, true, true, true, true, true, false, false, false, false] (by kernel_rfl) rfl rfl ?_
              refine SL.append 3 rfl rfl Try.underlying22 elem3 rfl rfl rfl rfl (fun w hw => SrcIs.of (sR.below hw.below) encI_len hm) (by exact all_one_cells (fun x => rfl) _) (by omega) (by omega) (fun ao4_ cap4_ => ?_)
              refine SL.itemxs 3 rfl (show _ = cellsOf encI R from by rfl) ?_
              refine SL.norm [_, _, _, _] rfl ?_
              refine SD.back (fun _ h => HeapOk.take h 1) ?_
              refine SD.take 9 [true, true, true, true, true, true, true, true, true, true, false, false, false] rfl (by kernel_rfl) rfl (fun _ h => HeapOk.take h 1) rfl rfl rfl (PureOp.build bld59 rfl rfl) ?_
              refine SD.one 10 [true, true, true, true, true, true, true, true, true, true, true, false, false] (by kernel_rfl) rfl rfl ?_
              refine SL.box rfl rfl rfl (fun b9 hb9 => ?_)
              refine SL.norm [_, _, _, _, _] rfl ?_
              refine SD.back (fun _ h => HeapOk.take h 1) ?_
              refine SD.take 11 [true, true, true, true, true, true, true, true, true, true, true, true, false] rfl (by kernel_rfl) rfl (fun _ h => HeapOk.take h 1) rfl rfl rfl (PureOp.assign rfl) ?_
              refine SD.take 12 [true, true, true, true, true, true, true, true, true, true, true, true, true] rfl (by kernel_rfl) rfl (fun _ h => HeapOk.take h 1) rfl rfl rfl (PureOp.assign rfl) ?_
              refine SD.done (by kernel_rfl) ?_
              refine QX.ofK ?_
              refine QX.then_ ?_
              refine WC.ret ?_
              refine QX.body2 rfl rfl rfl ?_
              intro w hw
              obtain rfl : m = n := by omega
              refine ⟨(b9, (ao1_, cap1_), (ao4_, cap4_), b7), rfl, hb9, ?_⟩
              have h := HeapOk.pick [0, 4, 1, 3, 2] (by decide) hw
              rw [rep_bo] at h
              try rw [Nat.zero_add] at h
              try rw [Nat.zero_add] at h
              exact h
          · skip
            refine SL.buildSlice0 rfl rfl Try.underlying22 elem3 (fun b10 hb10 => ?_)
            refine SL.norm [_, _, _] rfl ?_
            refine SD.back (fun _ h => HeapOk.take h 1) ?_
            refine SD.all [2, 8] (by kernel_rfl) (by simp) ⟨⟨_, [true, true, true, true, true, false, true, true, false, false, false, false, false], rfl, rfl, ?_⟩, ⟨_, [true, true, false, true, true, false, true, true, true, false, false, false, false], rfl, rfl, ?_⟩, trivial⟩
            · skip
              refine SL.append 1 rfl rfl Try.underlying22 elem3 rfl rfl rfl rfl (fun w hw => SrcIs.of (sT.below hw.below) encI_len hn) (by exact all_one_cells (fun x => rfl) _) (by omega) (by omega) (fun ao5_ cap5_ => ?_)
              refine SL.itemxs 1 rfl (show _ = cellsOf encI T from by rfl) ?_
              refine SL.norm [_, _, _] rfl ?_
              refine SD.back (fun _ h => HeapOk.take h 1) ?_
              refine SD.all [5, 8] (by kernel_rfl) (by simp) ⟨⟨_, [true, true, true, true, true, true, true, true, false, false, false, false, false], rfl, rfl, ?_⟩, ⟨_, [true, true, true, true, true, false, true, true, true, false, false, false, false], rfl, rfl, ?_⟩, trivial⟩
              · skip
                refine SL.append 2 rfl rfl Try.underlying22 elem3 rfl rfl rfl rfl (fun w hw => SrcIs.of (sR.below hw.below) encI_len hm) (by exact all_one_cells (fun x => rfl) _) (by omega) (by omega) (fun ao6_ cap6_ => ?_)
                refine SL.itemxs 2 rfl (show _ = cellsOf encI R from by rfl) ?_
                refine SL.norm [_, _, _] rfl ?_
                refine SD.back (fun _ h => HeapOk.take h 1) ?_
                refine SD.one 8 [true, true, true, true, true, true, true, true, true, false, false, false, false] (by kernel_rfl) rfl rfl ?_
                refine SL.make rfl rfl Try.underlying42 elem4 rfl rfl (by omega) (by omega) (fun b11 hb11 => ?_)
                refine SL.norm [_, _, _, _] rfl ?_
                refine SD.back (fun _ h => HeapOk.take h 1) ?_
                refine SD.take 9 [true, true, true, true, true, true, true, true, true, true, false, false, false] rfl (by kernel_rfl) rfl (fun _ h => HeapOk.take h 1) rfl rfl rfl (PureOp.build bld59 rfl rfl) ?_
                refine SD.one 10 [true, true, true, true, true, true, true, true, true, true, true, false, false] (by kernel_rfl) rfl rfl ?_
                refine SL.box rfl rfl rfl (fun b12 hb12 => ?_)
                refine SL.norm [_, _, _, _, _] rfl ?_
                refine SD.back (fun _ h => HeapOk.take h 1) ?_
                refine SD.take 11 [true, true, true, true, true, true, true, true, true, true, true, true, false] rfl (by kernel_rfl) rfl (fun _ h => HeapOk.take h 1) rfl rfl rfl (PureOp.assign rfl) ?_
                refine SD.take 12 [true, true, true, true, true, true, true, true, true, true, true, true, true] rfl (by kernel_rfl) rfl (fun _ h => HeapOk.take h 1) rfl rfl rfl (PureOp.assign rfl) ?_
                refine SD.done (by kernel_rfl) ?_
                refine QX.ofK ?_
                refine QX.then_ ?_
                refine WC.ret ?_
                refine QX.body2 rfl rfl rfl ?_
                intro w hw
                obtain rfl : m = n := by omega
                refine ⟨(b12, (ao5_, cap5_), (ao6_, cap6_), b11), rfl, hb12, ?_⟩
                have h := HeapOk.pick [0, 4, 1, 2, 3] (by decide) hw
                rw [rep_bo] at h
                try rw [Nat.zero_add] at h
                try rw [Nat.zero_add] at h
                exact h
              · skip
                refine SL.make rfl rfl Try.underlying42 elem4 rfl rfl (by omega) (by omega) (fun b13 hb13 => ?_)
                refine SL.norm [_, _, _, _] rfl ?_
                refine SD.back (fun _ h => HeapOk.take h 1) ?_
                refine SD.one 5 [true, true, true, true, true, true, true, true, true, false, false, false, false] (by kernel_rfl) rfl rfl ?_
                refine SL.append 2 rfl rfl Try.underlying22 elem3 rfl rfl rfl rfl (fun w hw => SrcIs.of (sR.below hw.below) encI_len hm) (by exact all_one_cells (fun x => rfl) _) (by omega) (by omega) (fun ao7_ cap7_ => ?_)
                refine SL.itemxs 2 rfl (show _ = cellsOf encI R from by rfl) ?_
                refine SL.norm [_, _, _, _] rfl ?_
                refine SD.back (fun _ h => HeapOk.take h 1) ?_
                refine SD.take 9 [true, true, true, true, true, true, true, true, true, true, false, false, false] rfl (by kernel_rfl) rfl (fun _ h => HeapOk.take h 1) rfl rfl rfl (PureOp.build bld59 rfl rfl) ?_
                refine SD.one 10 [true, true, true, true, true, true, true, true, true, true, true, false, false] (by kernel_rfl) rfl rfl ?_
                refine SL.box rfl rfl rfl (fun b14 hb14 => ?_)
                refine SL.norm [_, _, _, _, _] rfl ?_
                refine SD.back (fun _ h => HeapOk.take h 1) ?_
                refine SD.take 11 [true, true, true, true, true, true, true, true, true, true, true, true, false] rfl (by kernel_rfl) rfl (fun _ h => HeapOk.take h 1) rfl rfl rfl (PureOp.assign rfl) ?_
                refine SD.take 12 [true, true, true, true, true, true, true, true, true, true, true, true, true] rfl (by kernel_rfl) rfl (fun _ h => HeapOk.take h 1) rfl rfl rfl (PureOp.assign rfl) ?_
                refine SD.done (by kernel_rfl) ?_
                refine QX.ofK ?_
                refine QX.then_ ?_
                refine WC.ret ?_
                refine QX.body2 rfl rfl rfl ?_
                intro w hw
                obtain rfl : m = n := by omega
                refine ⟨(b14, (ao5_, cap5_), (ao7_, cap7_), b13), rfl, hb14, ?_⟩
                have h := HeapOk.pick [0, 4, 1, 2, 3] (by decide) hw
                rw [rep_bo] at h
                try rw [Nat.zero_add] at h
                try rw [Nat.zero_add] at h
                exact h
            · skip
              refine SL.make rfl rfl Try.underlying42 elem4 rfl rfl (by omega) (by omega) (fun b15 hb15 => ?_)
              refine SL.norm [_, _, _, _] rfl ?_
              refine SD.back (fun _ h => HeapOk.take h 1) ?_
              refine SD.one 2 [true, true, true, true, true, false, true, true, true, false, false, false, false] (by kernel_rfl) rfl rfl ?_
              refine SL.append 1 rfl rfl Try.underlying22 elem3 rfl rfl rfl rfl (fun w hw => SrcIs.of (sT.below hw.below) encI_len hn) (by exact all_one_cells (fun x => rfl) _) (by omega) (by omega) (fun ao8_ cap8_ => ?_)
              refine SL.itemxs 1 rfl (show _ = cellsOf encI T from by rfl) ?_
              refine SL.norm [_, _, _, _] rfl ?_
              refine SD.back (fun _ h => HeapOk.take h 1) ?_
              refine SD.one 5 [true, true, true, true, true, true, true, true, true, false, false, false, false] (by kernel_rfl) rfl rfl ?_
              refine SL.append 2 rfl rfl Try.underlying22 elem3 rfl rfl rfl rfl (fun w hw => SrcIs.of (sR.below hw.below) encI_len hm) (by exact all_one_cells (fun x => rfl) _) (by omega) (by omega) (fun ao9_ cap9_ => ?_)
              refine SL.itemxs 2 rfl (show _ = cellsOf encI R from by rfl) ?_
              refine SL.norm [_, _, _, _] rfl ?_
              refine SD.back (fun _ h => HeapOk.take h 1) ?_
              refine SD.take 9 [true, true, true, true, true, true, true, true, true, true, false, false, false] rfl (by kernel_rfl) rfl (fun _ h => HeapOk.take h 1) rfl rfl rfl (PureOp.build bld59 rfl rfl) ?_
              refine SD.one 10 [true, true, true, true, true, true, true, true, true, true, true, false, false] (by kernel_rfl) rfl rfl ?_
              refine SL.box rfl rfl rfl (fun b16 hb16 => ?_)
              refine SL.norm [_, _, _, _, _] rfl ?_
              refine SD.back (fun _ h => HeapOk.take h 1) ?_
              refine SD.take 11 [true, true, true, true, true, true, true, true, true, true, true, true, false] rfl (by kernel_rfl) rfl (fun _ h => HeapOk.take h 1) rfl rfl rfl (PureOp.assign rfl) ?_
              refine SD.take 12 [true, true, true, true, true, true, true, true, true, true, true, true, true] rfl (by kernel_rfl) rfl (fun _ h => HeapOk.take h 1) rfl rfl rfl (PureOp.assign rfl) ?_
              refine SD.done (by kernel_rfl) ?_
              refine QX.ofK ?_
              refine QX.then_ ?_
              refine WC.ret ?_
              refine QX.body2 rfl rfl rfl ?_
              intro w hw
              obtain rfl : m = n := by omega
              refine ⟨(b16, (ao8_, cap8_), (ao9_, cap9_), b15), rfl, hb16, ?_⟩
              have h := HeapOk.pick [0, 4, 1, 2, 3] (by decide) hw
              rw [rep_bo] at h
              try rw [Nat.zero_add] at h
              try rw [Nat.zero_add] at h
              exact h
          · skip
            refine SL.make rfl rfl Try.underlying42 elem4 rfl rfl (by omega) (by omega) (fun b17 hb17 => ?_)
            refine SL.norm [_, _, _] rfl ?_
            refine SD.back (fun _ h => HeapOk.take h 1) ?_
            refine SD.all [2, 3] (by kernel_rfl) (by simp) ⟨⟨_, [true, true, true, false, true, false, true, true, true, false, false, false, false], rfl, rfl, ?_⟩, ⟨_, [true, true, false, true, true, false, true, true, true, false, false, false, false], rfl, rfl, ?_⟩, trivial⟩
            · skip
              refine SL.append 1 rfl rfl Try.underlying22 elem3 rfl rfl rfl rfl (fun w hw => SrcIs.of (sT.below hw.below) encI_len hn) (by exact all_one_cells (fun x => rfl) _) (by omega) (by omega) (fun ao10_ cap10_ => ?_)
              refine SL.itemxs 1 rfl (show _ = cellsOf encI T from by rfl) ?_
              refine SL.norm [_, _, _] rfl ?_
              refine SD.back (fun _ h => HeapOk.take h 1) ?_
              refine SD.one 3 [true, true, true, true, true, false, true, true, true, false, false, false, false] (by kernel_rfl) rfl rfl ?_
              refine SL.buildSlice0 rfl rfl Try.underlying22 elem3 (fun b18 hb18 => ?_)
              refine SL.norm [_, _, _, _] rfl ?_
              refine SD.back (fun _ h => HeapOk.take h 1) ?_
              refine SD.one 5 [true, true, true, true, true, true, true, true, true, false, false, false, false] (by kernel_rfl) rfl rfl ?_
              refine SL.append 3 rfl rfl Try.underlying22 elem3 rfl rfl rfl rfl (fun w hw => SrcIs.of (sR.below hw.below) encI_len hm) (by exact all_one_cells (fun x => rfl) _) (by omega) (by omega) (fun ao11_ cap11_ => ?_)
              refine SL.itemxs 3 rfl (show _ = cellsOf encI R from by rfl) ?_
              refine SL.norm [_, _, _, _] rfl ?_
              refine SD.back (fun _ h => HeapOk.take h 1) ?_
              refine SD.take 9 [true, true, true, true, true, true, true, true, true, true, false, false, false] rfl (by kernel_rfl) rfl (fun _ h => HeapOk.take h 1) rfl rfl rfl (PureOp.build bld59 rfl rfl) ?_
              refine SD.one 10 [true, true, true, true, true, true, true, true, true, true, true, false, false] (by kernel_rfl) rfl rfl ?_
              refine SL.box rfl rfl rfl (fun b19 hb19 => ?_)
              refine SL.norm [_, _, _, _, _] rfl ?_
              refine SD.back (fun _ h => HeapOk.take h 1) ?_
              refine SD.take 11 [true, true, true, true, true, true, true, true, true, true, true, true, false] rfl (by kernel_rfl) rfl (fun _ h => HeapOk.take h 1) rfl rfl rfl (PureOp.assign rfl) ?_
              refine SD.take 12 [true, true, true, true, true, true, true, true, true, true, true, true, true] rfl (by kernel_rfl) rfl (fun _ h => HeapOk.take h 1) rfl rfl rfl (PureOp.assign rfl) ?_
              refine SD.done (by kernel_rfl) ?_
              refine QX.ofK ?_
              refine QX.then_ ?_
              refine WC.ret ?_
              refine QX.body2 rfl rfl rfl ?_
              intro w hw
              obtain rfl : m = n := by omega
              refine ⟨(b19, (ao10_, cap10_), (ao11_, cap11_), b17), rfl, hb19, ?_⟩
              have h := HeapOk.pick [0, 4, 1, 3, 2] (by decide) hw
              rw [rep_bo] at h
              try rw [Nat.zero_add] at h
              try rw [Nat.zero_add] at h
              exact h
            · skip
              refine SL.buildSlice0 rfl rfl Try.underlying22 elem3 (fun b20 hb20 => ?_)
              refine SL.norm [_, _, _, _] rfl ?_
              refine SD.back (fun _ h => HeapOk.take h 1) ?_
              refine SD.one 2 [true, true, true, true, true, false, true, true, true, false, false, false, false] (by kernel_rfl) rfl rfl ?_
              refine SL.append 1 rfl rfl Try.underlying22 elem3 rfl rfl rfl rfl (fun w hw => SrcIs.of (sT.below hw.below) encI_len hn) (by exact all_one_cells (fun x => rfl) _) (by omega) (by omega) (fun ao12_ cap12_ => ?_)
              refine SL.itemxs 1 rfl (show _ = cellsOf encI T from by rfl) ?_
              refine SL.norm [_, _, _, _] rfl ?_
              refine SD.back (fun _ h => HeapOk.take h 1) ?_
              refine SD.one 5 [true, true, true, true, true, true, true, true, true, false, false, false, false] (by kernel_rfl) rfl rfl ?_
              refine SL.append 3 rfl rfl Try.underlying22 elem3 rfl rfl rfl rfl (fun w hw => SrcIs.of (sR.below hw.below) encI_len hm) (by exact all_one_cells (fun x => rfl) _) (by omega) (by omega) (fun ao13_ cap13_ => ?_)
              refine SL.itemxs 3 rfl (show _ = cellsOf encI R from by rfl) ?_
              refine SL.norm [_, _, _, _] rfl ?_
              refine SD.back (fun _ h => HeapOk.take h 1) ?_
              refine SD.take 9 [true, true, true, true, true, true, true, true, true, true, false, false, false] rfl (by kernel_rfl) rfl (fun _ h => HeapOk.take h 1) rfl rfl rfl (PureOp.build bld59 rfl rfl) ?_
              refine SD.one 10 [true, true, true, true, true, true, true, true, true, true, true, false, false] (by kernel_rfl) rfl rfl ?_
              refine SL.box rfl rfl rfl (fun b21 hb21 => ?_)
              refine SL.norm [_, _, _, _, _] rfl ?_
              refine SD.back (fun _ h => HeapOk.take h 1) ?_
              refine SD.take 11 [true, true, true, true, true, true, true, true, true, true, true, true, false] rfl (by kernel_rfl) rfl (fun _ h => HeapOk.take h 1) rfl rfl rfl (PureOp.assign rfl) ?_
              refine SD.take 12 [true, true, true, true, true, true, true, true, true, true, true, true, true] rfl (by kernel_rfl) rfl (fun _ h => HeapOk.take h 1) rfl rfl rfl (PureOp.assign rfl) ?_
              refine SD.done (by kernel_rfl) ?_
              refine QX.ofK ?_
              refine QX.then_ ?_
              refine WC.ret ?_
              refine QX.body2 rfl rfl rfl ?_
              intro w hw
              obtain rfl : m = n := by omega
              refine ⟨(b21, (ao12_, cap12_), (ao13_, cap13_), b17), rfl, hb21, ?_⟩
              have h := HeapOk.pick [0, 4, 1, 3, 2] (by decide) hw
              rw [rep_bo] at h
              try rw [Nat.zero_add] at h
              try rw [Nat.zero_add] at h
              exact h
        · skip
          refine SL.buildSlice0 rfl rfl Try.underlying22 elem3 (fun b22 hb22 => ?_)
          refine SL.norm [_, _] rfl ?_
          refine SD.back (fun _ h => HeapOk.take h 1) ?_
          refine SD.all [0, 8] (by kernel_rfl) (by simp) ⟨⟨_, [true, true, false, true, true, false, true, true, false, false, false, false, false], rfl, rfl, ?_⟩, ⟨_, [false, true, false, true, true, false, true, true, true, false, false, false, false], rfl, rfl, ?_⟩, trivial⟩
          · skip
            refine SL.buildSlice0 rfl rfl Try.underlying22 elem3 (fun b23 hb23 => ?_)
            refine SL.norm [_, _, _] rfl ?_
            refine SD.back (fun _ h => HeapOk.take h 1) ?_
            refine SD.all [2, 8] (by kernel_rfl) (by simp) ⟨⟨_, [true, true, true, true, true, false, true, true, false, false, false, false, false], rfl, rfl, ?_⟩, ⟨_, [true, true, false, true, true, false, true, true, true, false, false, false, false], rfl, rfl, ?_⟩, trivial⟩
            · skip
              refine SL.append 2 rfl rfl Try.underlying22 elem3 rfl rfl rfl rfl (fun w hw => SrcIs.of (sT.below hw.below) encI_len hn) (by exact all_one_cells (fun x => rfl) _) (by omega) (by omega) (fun ao14_ cap14_ => ?_)
              refine SL.itemxs 2 rfl (show _ = cellsOf encI T from by rfl) ?_
              refine SL.norm [_, _, _] rfl ?_
              refine SD.back (fun _ h => HeapOk.take h 1) ?_
              refine SD.all [5, 8] (by kernel_rfl) (by simp) ⟨⟨_, [true, true, true, true, true, true, true, true, false, false, false, false, false], rfl, rfl, ?_⟩, ⟨_, [true, true, true, true, true, false, true, true, true, false, false, false, false], rfl, rfl, ?_⟩, trivial⟩
              · skip
                refine SL.append 1 rfl rfl Try.underlying22 elem3 rfl rfl rfl rfl (fun w hw => SrcIs.of (sR.below hw.below) encI_len hm) (by exact all_one_cells (fun x => rfl) _) (by omega) (by omega) (fun ao15_ cap15_ => ?_)
                refine SL.itemxs 1 rfl (show _ = cellsOf encI R from by rfl) ?_
                refine SL.norm [_, _, _] rfl ?_
                refine SD.back (fun _ h => HeapOk.take h 1) ?_
                refine SD.one 8 [true, true, true, true, true, true, true, true, true, false, false, false, false] (by kernel_rfl) rfl rfl ?_
                refine SL.make rfl rfl Try.underlying42 elem4 rfl rfl (by omega) (by omega) (fun b24 hb24 => ?_)
                refine SL.norm [_, _, _, _] rfl ?_
                refine SD.back (fun _ h => HeapOk.take h 1) ?_
                refine SD.take 9 [true, true, true, true, true, true, true, true, true, true, false, false, false] rfl (by kernel_rfl) rfl (fun _ h => HeapOk.take h 1) rfl rfl rfl (PureOp.build bld59 rfl rfl) ?_
                refine SD.one 10 [true, true, true, true, true, true, true, true, true, true, true, false, false] (by kernel_rfl) rfl rfl ?_
                refine SL.box rfl rfl rfl (fun b25 hb25 => ?_)
                refine SL.norm [_, _, _, _, _] rfl ?_
                refine SD.back (fun _ h => HeapOk.take h 1) ?_
                refine SD.take 11 [true, true, true, true, true, true, true, true, true, true, true, true, false] rfl (by kernel_rfl) rfl (fun _ h => HeapOk.take h 1) rfl rfl rfl (PureOp.assign rfl) ?_
                refine SD.take 12 [true, true, true, true, true, true, true, true, true, true, true, true, true] rfl (by kernel_rfl) rfl (fun _ h => HeapOk.take h 1) rfl rfl rfl (PureOp.assign rfl) ?_
                refine SD.done (by kernel_rfl) ?_
                refine QX.ofK ?_
                refine QX.then_ ?_
                refine WC.ret ?_
                refine QX.body2 rfl rfl rfl ?_
                intro w hw
                obtain rfl : m = n := by omega
                refine ⟨(b25, (ao14_, cap14_), (ao15_, cap15_), b24), rfl, hb25, ?_⟩
                have h := HeapOk.pick [0, 4, 2, 1, 3] (by decide) hw
                rw [rep_bo] at h
                try rw [Nat.zero_add] at h
                try rw [Nat.zero_add] at h
                exact h
              · skip
                refine SL.make rfl rfl Try.underlying42 elem4 rfl rfl (by omega) (by omega) (fun b26 hb26 => ?_)
                refine SL.norm [_, _, _, _] rfl ?_
                refine SD.back (fun _ h => HeapOk.take h 1) ?_
                refine SD.one 5 [true, true, true, true, true, true, true, true, true, false, false, false, false] (by kernel_rfl) rfl rfl ?_
                refine SL.append 1 rfl rfl Try.underlying22 elem3 rfl rfl rfl rfl (fun w hw => SrcIs.of (sR.below hw.below) encI_len hm) (by exact all_one_cells (fun x => rfl) _) (by omega) (by omega) (fun ao16_ cap16_ => ?_)
                refine SL.itemxs 1 rfl (show _ = cellsOf encI R from by rfl) ?_
                refine SL.norm [_, _, _, _] rfl ?_
                refine SD.back (fun _ h => HeapOk.take h 1) ?_
                refine SD.take 9 [true, true, true, true, true, true, true, true, true, true, false, false, false] rfl (by kernel_rfl) rfl (fun _ h => HeapOk.take h 1) rfl rfl rfl (PureOp.build bld59 rfl rfl) ?_
                refine SD.one 10 [true, true, true, true, true, true, true, true, true, true, true, false, false] (by kernel_rfl) rfl rfl ?_
                refine SL.box rfl rfl rfl (fun b27 hb27 => ?_)
                refine SL.norm [_, _, _, _, _] rfl ?_
                refine SD.back (fun _ h => HeapOk.take h 1) ?_
                refine SD.take 11 [true, true, true, true, true, true, true, true, true, true, true, true, false] rfl (by kernel_rfl) rfl (fun _ h => HeapOk.take h 1) rfl rfl rfl (PureOp.assign rfl) ?_
                refine SD.take 12 [true, true, true, true, true, true, true, true, true, true, true, true, true] rfl (by kernel_rfl) rfl (fun _ h => HeapOk.take h 1) rfl rfl rfl (PureOp.assign rfl) ?_
                refine SD.done (by kernel_rfl) ?_
                refine QX.ofK ?_
                refine QX.then_ ?_
                refine WC.ret ?_
                refine QX.body2 rfl rfl rfl ?_
                intro w hw
                obtain rfl : m = n := by omega
                refine ⟨(b27, (ao14_, cap14_), (ao16_, cap16_), b26), rfl, hb27, ?_⟩
                have h := HeapOk.pick [0, 4, 2, 1, 3] (by decide) hw
                rw [rep_bo] at h
                try rw [Nat.zero_add] at h
                try rw [Nat.zero_add] at h
                exact h
            · skip
              refine SL.make rfl rfl Try.underlying42 elem4 rfl rfl (by omega) (by omega) (fun b28 hb28 => ?_)
              refine SL.norm [_, _, _, _] rfl ?_
              refine SD.back (fun _ h => HeapOk.take h 1) ?_
              refine SD.one 2 [true, true, true, true, true, false, true, true, true, false, false, false, false] (by kernel_rfl) rfl rfl ?_
              refine SL.append 2 rfl rfl Try.underlying22 elem3 rfl rfl rfl rfl (fun w hw => SrcIs.of (sT.below hw.below) encI_len hn) (by exact all_one_cells (fun x => rfl) _) (by omega) (by omega) (fun ao17_ cap17_ => ?_)
              refine SL.itemxs 2 rfl (show _ = cellsOf encI T from by rfl) ?_
              refine SL.norm [_, _, _, _] rfl ?_
              refine SD.back (fun _ h => HeapOk.take h 1) ?_
              refine SD.one 5 [true, true, true, true, true, true, true, true, true, false, false, false, false] (by kernel_rfl) rfl rfl ?_
              refine SL.append 1 rfl rfl Try.underlying22 elem3 rfl rfl rfl rfl (fun w hw => SrcIs.of (sR.below hw.below) encI_len hm) (by exact all_one_cells (fun x => rfl) _) (by omega) (by omega) (fun ao18_ cap18_ => ?_)
              refine SL.itemxs 1 rfl (show _ = cellsOf encI R from by rfl) ?_
              refine SL.norm [_, _, _, _] rfl ?_
              refine SD.back (fun _ h => HeapOk.take h 1) ?_
              refine SD.take 9 [true, true, true, true, true, true, true, true, true, true, false, false, false] rfl (by kernel_rfl) rfl (fun _ h => HeapOk.take h 1) rfl rfl rfl (PureOp.build bld59 rfl rfl) ?_
              refine SD.one 10 [true, true, true, true, true, true, true, true, true, true, true, false, false] (by kernel_rfl) rfl rfl ?_
              refine SL.box rfl rfl rfl (fun b29 hb29 => ?_)
              refine SL.norm [_, _, _, _, _] rfl ?_
              refine SD.back (fun _ h => HeapOk.take h 1) ?_
              refine SD.take 11 [true, true, true, true, true, true, true, true, true, true, true, true, false] rfl (by kernel_rfl) rfl (fun _ h => HeapOk.take h 1) rfl rfl rfl (PureOp.assign rfl) ?_
              refine SD.take 12 [true, true, true, true, true, true, true, true, true, true, true, true, true] rfl (by kernel_rfl) rfl (fun _ h => HeapOk.take h 1) rfl rfl rfl (PureOp.assign rfl) ?_
              refine SD.done (by kernel_rfl) ?_
              refine QX.ofK ?_
              refine QX.then_ ?_
              refine WC.ret ?_
              refine QX.body2 rfl rfl rfl ?_
              intro w hw
              obtain rfl : m = n := by omega
              refine ⟨(b29, (ao17_, cap17_), (ao18_, cap18_), b28), rfl, hb29, ?_⟩
              have h := HeapOk.pick [0, 4, 2, 1, 3] (by decide) hw
              rw [rep_bo] at h
              try rw [Nat.zero_add] at h
              try rw [Nat.zero_add] at h
              exact h
          · skip
            refine SL.make rfl rfl Try.underlying42 elem4 rfl rfl (by omega) (by omega) (fun b30 hb30 => ?_)
            refine SL.norm [_, _, _] rfl ?_
            refine SD.back (fun _ h => HeapOk.take h 1) ?_
            refine SD.one 0 [true, true, false, true, true, false, true, true, true, false, false, false, false] (by kernel_rfl) rfl rfl ?_
            refine SL.buildSlice0 rfl rfl Try.underlying22 elem3 (fun b31 hb31 => ?_)
            refine SL.norm [_, _, _, _] rfl ?_
            refine SD.back (fun _ h => HeapOk.take h 1) ?_
            refine SD.one 2 [true, true, true, true, true, false, true, true, true, false, false, false, false] (by kernel_rfl) rfl rfl ?_
            refine SL.append 3 rfl rfl Try.underlying22 elem3 rfl rfl rfl rfl (fun w hw => SrcIs.of (sT.below hw.below) encI_len hn) (by exact all_one_cells (fun x => rfl) _) (by omega) (by omega) (fun ao19_ cap19_ => ?_)
            refine SL.itemxs 3 rfl (show _ = cellsOf encI T from by rfl) ?_
            refine SL.norm [_, _, _, _] rfl ?_
            refine SD.back (fun _ h => HeapOk.take h 1) ?_
            refine SD.one 5 [true, true, true, true, true, true, true, true, true, false, false, false, false] (by kernel_rfl) rfl rfl ?_
            refine SL.append 1 rfl rfl Try.underlying22 elem3 rfl rfl rfl rfl (fun w hw => SrcIs.of (sR.below hw.below) encI_len hm) (by exact all_one_cells (fun x => rfl) _) (by omega) (by omega) (fun ao20_ cap20_ => ?_)
            refine SL.itemxs 1 rfl (show _ = cellsOf encI R from by rfl) ?_
            refine SL.norm [_, _, _, _] rfl ?_
            refine SD.back (fun _ h => HeapOk.take h 1) ?_
            refine SD.take 9 [true, true, true, true, true, true, true, true, true, true, false, false, false] rfl (by kernel_rfl) rfl (fun _ h => HeapOk.take h 1) rfl rfl rfl (PureOp.build bld59 rfl rfl) ?_
            refine SD.one 10 [true, true, true, true, true, true, true, true, true, true, true, false, false] (by kernel_rfl) rfl rfl ?_
            refine SL.box rfl rfl rfl (fun b32 hb32 => ?_)
            refine SL.norm [_, _, _, _, _] rfl ?_
            refine SD.back (fun _ h => HeapOk.take h 1) ?_
            refine SD.take 11 [true, true, true, true, true, true, true, true, true, true, true, true, false] rfl (by kernel_rfl) rfl (fun _ h => HeapOk.take h 1) rfl rfl rfl (PureOp.assign rfl) ?_
            refine SD.take 12 [true, true, true, true, true, true, true, true, true, true, true, true, true] rfl (by kernel_rfl) rfl (fun _ h => HeapOk.take h 1) rfl rfl rfl (PureOp.assign rfl) ?_
            refine SD.done (by kernel_rfl) ?_
            refine QX.ofK ?_
            refine QX.then_ ?_
            refine WC.ret ?_
            refine QX.body2 rfl rfl rfl ?_
            intro w hw
            obtain rfl : m = n := by omega
            refine ⟨(b32, (ao19_, cap19_), (ao20_, cap20_), b30), rfl, hb32, ?_⟩
            have h := HeapOk.pick [0, 4, 3, 1, 2] (by decide) hw
            rw [rep_bo] at h
            try rw [Nat.zero_add] at h
            try rw [Nat.zero_add] at h
            exact h
        · skip
          refine SL.make rfl rfl Try.underlying42 elem4 rfl rfl (by omega) (by omega) (fun b33 hb33 => ?_)
          refine SL.norm [_, _] rfl ?_
          refine SD.back (fun _ h => HeapOk.take h 1) ?_
          refine SD.all [0, 3] (by kernel_rfl) (by simp) ⟨⟨_, [true, true, false, false, true, false, true, true, true, false, false, false, false], rfl, rfl, ?_⟩, ⟨_, [false, true, false, true, true, false, true, true, true, false, false, false, false], rfl, rfl, ?_⟩, trivial⟩
          · skip
            refine SL.buildSlice0 rfl rfl Try.underlying22 elem3 (fun b34 hb34 => ?_)
            refine SL.norm [_, _, _] rfl ?_
            refine SD.back (fun _ h => HeapOk.take h 1) ?_
            refine SD.all [2, 3] (by kernel_rfl) (by simp) ⟨⟨_, [true, true, true, false, true, false, true, true, true, false, false, false, false], rfl, rfl, ?_⟩, ⟨_, [true, true, false, true, true, false, true, true, true, false, false, false, false], rfl, rfl, ?_⟩, trivial⟩
            · skip
              refine SL.append 2 rfl rfl Try.underlying22 elem3 rfl rfl rfl rfl (fun w hw => SrcIs.of (sT.below hw.below) encI_len hn) (by exact all_one_cells (fun x => rfl) _) (by omega) (by omega) (fun ao21_ cap21_ => ?_)
              refine SL.itemxs 2 rfl (show _ = cellsOf encI T from by rfl) ?_
              refine SL.norm [_, _, _] rfl ?_
              refine SD.back (fun _ h => HeapOk.take h 1) ?_
              refine SD.one 3 [true, true, true, true, true, false, true, true, true, false, false, false, false] (by kernel_rfl) rfl rfl ?_
              refine SL.buildSlice0 rfl rfl Try.underlying22 elem3 (fun b35 hb35 => ?_)
              refine SL.norm [_, _, _, _] rfl ?_
              refine SD.back (fun _ h => HeapOk.take h 1) ?_
              refine SD.one 5 [true, true, true, true, true, true, true, true, true, false, false, false, false] (by kernel_rfl) rfl rfl ?_
              refine SL.append 3 rfl rfl Try.underlying22 elem3 rfl rfl rfl rfl (fun w hw => SrcIs.of (sR.below hw.below) encI_len hm) (by exact all_one_cells (fun x => rfl) _) (by omega) (by omega) (fun ao22_ cap22_ => ?_)
              refine SL.itemxs 3 rfl (show _ = cellsOf encI R from by rfl) ?_
              refine SL.norm [_, _, _, _] rfl ?_
              refine SD.back (fun _ h => HeapOk.take h 1) ?_
              refine SD.take 9 [true, true, true, true, true, true, true, true, true, true, false, false, false] rfl (by kernel_rfl) rfl (fun _ h => HeapOk.take h 1) rfl rfl rfl (PureOp.build bld59 rfl rfl) ?_
              refine SD.one 10 [true, true, true, true, true, true, true, true, true, true, true, false, false] (by kernel_rfl) rfl rfl ?_
              refine SL.box rfl rfl rfl (fun b36 hb36 => ?_)
              refine SL.norm [_, _, _, _, _] rfl ?_
              refine SD.back (fun _ h => HeapOk.take h 1) ?_
              refine SD.take 11 [true, true, true, true, true, true, true, true, true, true, true, true, false] rfl (by kernel_rfl) rfl (fun _ h => HeapOk.take h 1) rfl rfl rfl (PureOp.assign rfl) ?_
              refine SD.take 12 [true, true, true, true, true, true, true, true, true, true, true, true, true] rfl (by kernel_rfl) rfl (fun _ h => HeapOk.take h 1) rfl rfl rfl (PureOp.assign rfl) ?_
              refine SD.done (by kernel_rfl) ?_
              refine QX.ofK ?_
              refine QX.then_ ?_
              refine WC.ret ?_
              refine QX.body2 rfl rfl rfl ?_
              intro w hw
              obtain rfl : m = n := by omega
              refine ⟨(b36, (ao21_, cap21_), (ao22_, cap22_), b33), rfl, hb36, ?_⟩
              have h := HeapOk.pick [0, 4, 2, 3, 1] (by decide) hw
              rw [rep_bo] at h
              try rw [Nat.zero_add] at h
              try rw [Nat.zero_add] at h
              exact h
            · skip
              refine SL.buildSlice0 rfl rfl Try.underlying22 elem3 (fun b37 hb37 => ?_)
              refine SL.norm [_, _, _, _] rfl ?_
              refine SD.back (fun _ h => HeapOk.take h 1) ?_
              refine SD.one 2 [true, true, true, true, true, false, true, true, true, false, false, false, false] (by kernel_rfl) rfl rfl ?_
              refine SL.append 2 rfl rfl Try.underlying22 elem3 rfl rfl rfl rfl (fun w hw => SrcIs.of (sT.below hw.below) encI_len hn) (by exact all_one_cells (fun x => rfl) _) (by omega) (by omega) (fun ao23_ cap23_ => ?_)
              refine SL.itemxs 2 rfl (show _ = cellsOf encI T from by rfl) ?_
              refine SL.norm [_, _, _, _] rfl ?_
              refine SD.back (fun _ h => HeapOk.take h 1) ?_
              refine SD.one 5 [true, true, true, true, true, true, true, true, true, false, false, false, false] (by kernel_rfl) rfl rfl ?_
              refine SL.append 3 rfl rfl Try.underlying22 elem3 rfl rfl rfl rfl (fun w hw => SrcIs.of (sR.below hw.below) encI_len hm) (by exact all_one_cells (fun x => rfl) _) (by omega) (by omega) (fun ao24_ cap24_ => ?_)
              refine SL.itemxs 3 rfl (show _ = cellsOf encI R from by rfl) ?_
              refine SL.norm [_, _, _, _] rfl ?_
              refine SD.back (fun _ h => HeapOk.take h 1) ?_
              refine SD.take 9 [true, true, true, true, true, true, true, true, true, true, false, false, false] rfl (by kernel_rfl) rfl (fun _ h => HeapOk.take h 1) rfl rfl rfl (PureOp.build bld59 rfl rfl) ?_
              refine SD.one 10 [true, true, true, true, true, true, true, true, true, true, true, false, false] (by kernel_rfl) rfl rfl ?_
              refine SL.box rfl rfl rfl (fun b38 hb38 => ?_)
              refine SL.norm [_, _, _, _, _] rfl ?_
              refine SD.back (fun _ h => HeapOk.take h 1) ?_
              refine SD.take 11 [true, true, true, true, true, true, true, true, true, true, true, true, false] rfl (by kernel_rfl) rfl (fun _ h => HeapOk.take h 1) rfl rfl rfl (PureOp.assign rfl) ?_
              refine SD.take 12 [true, true, true, true, true, true, true, true, true, true, true, true, true] rfl (by kernel_rfl) rfl (fun _ h => HeapOk.take h 1) rfl rfl rfl (PureOp.assign rfl) ?_
              refine SD.done (by kernel_rfl) ?_
              refine QX.ofK ?_
              refine QX.then_ ?_
              refine WC.ret ?_
              refine QX.body2 rfl rfl rfl ?_
              intro w hw
              obtain rfl : m = n := by omega
              refine ⟨(b38, (ao23_, cap23_), (ao24_, cap24_), b33), rfl, hb38, ?_⟩
              have h := HeapOk.pick [0, 4, 2, 3, 1] (by decide) hw
              rw [rep_bo] at h
              try rw [Nat.zero_add] at h
              try rw [Nat.zero_add] at h
              exact h
          · skip
            refine SL.buildSlice0 rfl rfl Try.underlying22 elem3 (fun b39 hb39 => ?_)
            refine SL.norm [_, _, _] rfl ?_
            refine SD.back (fun _ h => HeapOk.take h 1) ?_
            refine SD.one 0 [true, true, false, true, true, false, true, true, true, false, false, false, false] (by kernel_rfl) rfl rfl ?_
            refine SL.buildSlice0 rfl rfl Try.underlying22 elem3 (fun b40 hb40 => ?_)
            refine SL.norm [_, _, _, _] rfl ?_
            refine SD.back (fun _ h => HeapOk.take h 1) ?_
            refine SD.one 2 [true, true, true, true, true, false, true, true, true, false, false, false, false] (by kernel_rfl) rfl rfl ?_
            refine SL.append 3 rfl rfl Try.underlying22 elem3 rfl rfl rfl rfl (fun w hw => SrcIs.of (sT.below hw.below) encI_len hn) (by exact all_one_cells (fun x => rfl) _) (by omega) (by omega) (fun ao25_ cap25_ => ?_)
            refine SL.itemxs 3 rfl (show _ = cellsOf encI T from by rfl) ?_
            refine SL.norm [_, _, _, _] rfl ?_
            refine SD.back (fun _ h => HeapOk.take h 1) ?_
            refine SD.one 5 [true, true, true, true, true, true, true, true, true, false, false, false, false] (by kernel_rfl) rfl rfl ?_
            refine SL.append 2 rfl rfl Try.underlying22 elem3 rfl rfl rfl rfl (fun w hw => SrcIs.of (sR.below hw.below) encI_len hm) (by exact all_one_cells (fun x => rfl) _) (by omega) (by omega) (fun ao26_ cap26_ => ?_)
            refine SL.itemxs 2 rfl (show _ = cellsOf encI R from by rfl) ?_
            refine SL.norm [_, _, _, _] rfl ?_
            refine SD.back (fun _ h => HeapOk.take h 1) ?_
            refine SD.take 9 [true, true, true, true, true, true, true, true, true, true, false, false, false] rfl (by kernel_rfl) rfl (fun _ h => HeapOk.take h 1) rfl rfl rfl (PureOp.build bld59 rfl rfl) ?_
            refine SD.one 10 [true, true, true, true, true, true, true, true, true, true, true, false, false] (by kernel_rfl) rfl rfl ?_
            refine SL.box rfl rfl rfl (fun b41 hb41 => ?_)
            refine SL.norm [_, _, _, _, _] rfl ?_
            refine SD.back (fun _ h => HeapOk.take h 1) ?_
            refine SD.take 11 [true, true, true, true, true, true, true, true, true, true, true, true, false] rfl (by kernel_rfl) rfl (fun _ h => HeapOk.take h 1) rfl rfl rfl (PureOp.assign rfl) ?_
            refine SD.take 12 [true, true, true, true, true, true, true, true, true, true, true, true, true] rfl (by kernel_rfl) rfl (fun _ h => HeapOk.take h 1) rfl rfl rfl (PureOp.assign rfl) ?_
            refine SD.done (by kernel_rfl) ?_
            refine QX.ofK ?_
            refine QX.then_ ?_
            refine WC.ret ?_
            refine QX.body2 rfl rfl rfl ?_
            intro w hw
            obtain rfl : m = n := by omega
            refine ⟨(b41, (ao25_, cap25_), (ao26_, cap26_), b33), rfl, hb41, ?_⟩
            have h := HeapOk.pick [0, 4, 3, 2, 1] (by decide) hw
            rw [rep_bo] at h
            try rw [Nat.zero_add] at h
            try rw [Nat.zero_add] at h
            exact h

set_option maxHeartbeats 4000000 in
set_option maxRecDepth 100000 in
theorem pnewo (T R : List Int) (ta ra : Option Addr) (n m tc rc : Nat) (hn : n = T.length) (hm : m = R.length) (hle : n ≤ tc) (he : newE T R = 0) (w0 : World) : MC Try.prog 7 [.slice ta n tc, .slice ra m rc] w0 [Item.own w0.heap.size ta n tc 3 1 (cellsOf encI T), Item.own w0.heap.size ra m rc 3 1 (cellsOf encI R)] (fun u_ : Nat × (Option Addr × Nat) × (Option Addr × Nat) × Nat => .tuple #[.pointer (some ⟨u_.1, 0, none⟩), .int .i64 0]) (fun _ => [Item.own w0.heap.size ta n tc 3 1 (cellsOf encI T), Item.own w0.heap.size ra m rc 3 1 (cellsOf encI R)]) (fun u_ => w0.heap.size ≤ u_.1) (fun u_ => [Item.cells u_.1 [.bool true, .bool false, .slice u_.2.1.1 n u_.2.1.2, .slice u_.2.2.1.1 n u_.2.2.1.2, .slice (some ⟨u_.2.2.2, 0, none⟩) n n, .slice none 0 0] 44, Item.own w0.heap.size u_.2.1.1 n u_.2.1.2 3 1 (cellsOf encI T), Item.own w0.heap.size u_.2.2.1.1 n u_.2.2.1.2 3 1 (cellsOf encI R), Item.own w0.heap.size (some ⟨u_.2.2.2, 0, none⟩) n n 4 1 (cellsOf encBo (List.replicate n false))]) := by
  refine mcalls (N := 50) Try.func7 rfl rfl rfl ?_
  intro X
  show WC _ _ _ _ _ _ _ [Item.own w0.heap.size ta n tc 3 1 (cellsOf encI T), Item.own w0.heap.size ra m rc 3 1 (cellsOf encI R), X]
  refine WC.seq ?_
  refine WC.region ?_
  refine SL.pure rfl rfl rfl (PureOp.assign rfl) ?_
  refine SL.pure rfl rfl rfl (PureOp.assign rfl) ?_
  refine SL.nil_then ?_
  refine WC.seq ?_
  refine WC.seq ?_
  refine WC.region ?_
  refine SL.pure rfl rfl rfl (PureOp.move rfl) ?_
  refine SL.pure rfl rfl rfl (PureOp.len rfl Try.underlying22) ?_
  refine SL.pure rfl rfl rfl (PureOp.gtr rfl rfl) ?_
  refine SL.nil_then ?_
  refine WC.cond rfl (fun h1 => ?_) (fun h1 => ?_)
  · try simp only [Bool.and_eq_true, Bool.or_eq_true, Bool.not_eq_true', Bool.not_eq_false', Bool.and_eq_false_iff, Bool.or_eq_false_iff, decide_eq_true_eq, decide_eq_false_iff_not, Int.not_lt, Int.not_le, ne_eq, Decidable.not_not] at h1
    exact (by exfalso; rw [newE, if_pos (by omega)] at he; exact absurd he (by decide))
  · try simp only [Bool.and_eq_true, Bool.or_eq_true, Bool.not_eq_true', Bool.not_eq_false', Bool.and_eq_false_iff, Bool.or_eq_false_iff, decide_eq_true_eq, decide_eq_false_iff_not, Int.not_lt, Int.not_le, ne_eq, Decidable.not_not] at h1
    refine WC.skip ?_
    refine QX.then_ ?_
    refine WC.seq ?_
    refine WC.seq ?_
    refine WC.region ?_
    refine SL.pure rfl rfl rfl (PureOp.move rfl) ?_
    refine SL.pure rfl rfl rfl (PureOp.len rfl Try.underlying22) ?_
    refine SL.pure rfl rfl rfl (PureOp.move rfl) ?_
    refine SL.pure rfl rfl rfl (PureOp.len rfl Try.underlying22) ?_
    refine SL.pure rfl rfl rfl (PureOp.neq rfl rfl) ?_
    refine SL.nil_then ?_
    refine WC.cond rfl (fun h2 => ?_) (fun h2 => ?_)
    · try simp only [Bool.and_eq_true, Bool.or_eq_true, Bool.not_eq_true', Bool.not_eq_false', Bool.and_eq_false_iff, Bool.or_eq_false_iff, decide_eq_true_eq, decide_eq_false_iff_not, Int.not_lt, Int.not_le, ne_eq, Decidable.not_not] at h2
      exact (by exfalso; rw [newE, if_neg (by omega), if_pos (by omega)] at he; exact absurd he (by decide))
    · try simp only [Bool.and_eq_true, Bool.or_eq_true, Bool.not_eq_true', Bool.not_eq_false', Bool.and_eq_false_iff, Bool.or_eq_false_iff, decide_eq_true_eq, decide_eq_false_iff_not, Int.not_lt, Int.not_le, ne_eq, Decidable.not_not] at h2
      refine WC.skip ?_
      refine QX.then_ ?_
      refine WC.seq ?_
      refine WC.seq ?_
      refine WC.region ?_
      refine SL.pure rfl rfl rfl (PureOp.move rfl) ?_
      refine SL.pure rfl rfl rfl (PureOp.len rfl Try.underlying22) ?_
      refine SL.pure rfl rfl rfl (PureOp.move rfl) ?_
      refine SL.nil_then ?_
      refine WC.block ?_
      refine WC.loop (σ := Nat) (fun q_ => [(0, 0, .slice ta n tc), (1, 0, .slice ra m rc), (8, 0, .slice ta n tc), (9, 0, .int .i64 ((n : Nat) : Int)), (10, 0, .bool (decide (999 < ((n : Nat) : Int)))), (11, 0, .slice ta n tc), (12, 0, .int .i64 ((n : Nat) : Int)), (13, 0, .slice ra m rc), (14, 0, .int .i64 ((m : Nat) : Int)), (15, 0, .bool (decide (((n : Nat) : Int) ≠ ((m : Nat) : Int)))), (16, 0, .slice ta n tc), (17, 0, .int .i64 ((n : Nat) : Int)), (18, 0, .int .i64 ((q_ : Nat) : Int))]) (fun q_ => [Item.own w0.heap.size ta n tc 3 1 (cellsOf encI T), Item.own w0.heap.size ra m rc 3 1 (cellsOf encI R), X]) (fun q_ => q_ ≤ n ∧ newK T R q_ = 0) (fun q_ => n - q_) 3 (0) (⟨Nat.zero_le _, rfl⟩) ⟨rfl, rfl, rfl, rfl, rfl, rfl, rfl, rfl, rfl, rfl, rfl, rfl, rfl, rfl, rfl, rfl, rfl, rfl, rfl, rfl, rfl, rfl, rfl, rfl, rfl, rfl, trivial⟩ rfl ?_
      rintro k ⟨hk, hz⟩
      refine WC.seq ?_
      refine WC.region ?_
      refine SL.pure rfl rfl rfl (PureOp.lss rfl rfl) ?_
      refine SL.nil_then ?_
      refine WC.seq ?_
      refine WC.cond rfl (fun h3 => ?_) (fun h3 => ?_)
      · try simp only [Bool.and_eq_true, Bool.or_eq_true, Bool.not_eq_true', Bool.not_eq_false', Bool.and_eq_false_iff, Bool.or_eq_false_iff, decide_eq_true_eq, decide_eq_false_iff_not, Int.not_lt, Int.not_le, ne_eq, Decidable.not_not] at h3
        refine WC.skip ?_
        refine QX.then_ ?_
        refine WC.seq ?_
        refine WC.block ?_
        refine WC.seq ?_
        refine WC.region ?_
        refine SL.pure rfl rfl rfl (PureOp.move rfl) ?_
        refine SL.pure rfl rfl rfl (PureOp.indexAddrN Try.underlying22 sz3 rfl rfl (AoOk.any (fun w hw => SliceIn.rows (hw.mem (i := 0) rfl) encI_len (by omega))) (fun _ => by omega)) ?_
        refine SL.pure rfl rfl rfl (PureOp.load (v := .int .i64 (nth T k)) Try.underlying3 rfl rfl (fun _ => (CellIs.any (fun w hw => SliceIn.rows (hw.mem (i := 0) rfl) encI_len (by omega)) k 0 (by omega) (by omega)))) ?_
        refine SL.pure rfl rfl rfl (PureOp.assign rfl) ?_
        refine SL.pure rfl rfl rfl (PureOp.assign rfl) ?_
        refine SL.nil_then ?_
        refine WC.seq ?_
        refine WC.seq ?_
        refine WC.region ?_
        refine SL.pure rfl rfl rfl (PureOp.move rfl) ?_
        refine SL.pure rfl rfl rfl (PureOp.move rfl) ?_
        refine SL.pure rfl rfl rfl (PureOp.indexAddrN Try.underlying22 sz3 rfl rfl (AoOk.any (fun w hw => SliceIn.rows (hw.mem (i := 1) rfl) encI_len (by omega))) (fun _ => by omega)) ?_
        refine SL.pure rfl rfl rfl (PureOp.load (v := .int .i64 (nth R k)) Try.underlying3 rfl rfl (fun _ => (CellIs.any (fun w hw => SliceIn.rows (hw.mem (i := 1) rfl) encI_len (by omega)) k 0 (by omega) (by omega)))) ?_
        refine SL.pure rfl rfl rfl (PureOp.lss rfl rfl) ?_
        refine SL.pure rfl rfl rfl (PureOp.move rfl) ?_
        refine SL.newg 28 false rfl ?_
        refine SL.gpure (c := 1) rfl rfl rfl rfl rfl rfl rfl (PureOp.move rfl) ?_
        refine SL.gpure (c := 1) rfl rfl rfl rfl rfl rfl rfl (PureOp.move rfl) ?_
        refine SL.gpure (c := 1) rfl rfl rfl rfl rfl rfl rfl (PureOp.indexAddrN Try.underlying22 sz3 rfl rfl (AoOk.any (fun w hw => SliceIn.rows (hw.mem (i := 1) rfl) encI_len (by omega))) (by intro hg; simp [gval] at hg; omega)) ?_
        refine SL.gpure (c := 1) rfl rfl rfl rfl rfl rfl rfl (PureOp.load (v := .int .i64 (nth R k)) Try.underlying3 rfl rfl (by intro hg; simp [gval] at hg; exact (CellIs.any (fun w hw => SliceIn.rows (hw.mem (i := 1) rfl) encI_len (by omega)) k 0 (by omega) (by omega)))) ?_
        refine SL.gpure (c := 1) rfl rfl rfl rfl rfl rfl rfl (PureOp.gtr rfl rfl) ?_
        refine SL.pure rfl rfl rfl (PureOp.or_ rfl rfl rfl rfl) ?_
        refine SL.nil_then ?_
        refine WC.cond rfl (fun h4 => ?_) (fun h4 => ?_)
        · try simp only [Bool.and_eq_true, Bool.or_eq_true, Bool.not_eq_true', Bool.not_eq_false', Bool.and_eq_false_iff, Bool.or_eq_false_iff, decide_eq_true_eq, decide_eq_false_iff_not, Int.not_lt, Int.not_le, ne_eq, Decidable.not_not] at h4
          exact (by exfalso; have e := newE_of (k := k + 1) (by omega) (by omega) (newK_row hz (by omega)) (by decide) (by omega); rw [e] at he; exact absurd he (by decide))
        · try simp only [Bool.and_eq_true, Bool.or_eq_true, Bool.not_eq_true', Bool.not_eq_false', Bool.and_eq_false_iff, Bool.or_eq_false_iff, decide_eq_true_eq, decide_eq_false_iff_not, Int.not_lt, Int.not_le, ne_eq, Decidable.not_not] at h4
          refine WC.skip ?_
          refine QX.then_ ?_
          refine WC.seq ?_
          refine WC.region ?_
          refine SL.pure rfl rfl rfl (PureOp.move rfl) ?_
          refine SL.pure rfl rfl rfl (PureOp.move rfl) ?_
          refine SL.pure rfl rfl rfl (PureOp.sliceh Try.underlying22 sz3 rfl rfl (fun _ => by omega)) ?_
          refine SL.pure rfl rfl rfl (PureOp.move rfl) ?_
          refine SL.calle rfl rfl rfl rfl rfl rfl callable25 (fun w hw => (by have h := contains_ok ((T.drop 0).take (k - 0)) _ _ _ (by rw [List.length_take, List.length_drop]; omega) (by omega) (nth T k) w (SliceIn.subrows (SliceIn.rows (hw.mem (i := 0) rfl) encI_len (by omega)) hn 0 k (by omega) (by omega)); rw [ixT_take (by omega)] at h; exact h)) ?_
          refine SL.norm [_, _, _] rfl ?_
          refine SL.nil_then ?_
          refine WC.cond rfl (fun h5 => ?_) (fun h5 => ?_)
          · try simp only [Bool.and_eq_true, Bool.or_eq_true, Bool.not_eq_true', Bool.not_eq_false', Bool.and_eq_false_iff, Bool.or_eq_false_iff, decide_eq_true_eq, decide_eq_false_iff_not, Int.not_lt, Int.not_le, ne_eq, Decidable.not_not] at h5
            exact (by exfalso; have e := newE_of (k := k + 1) (by omega) (by omega) (newK_twice hz (by omega) (by simpa using h5)) (by decide) (by omega); rw [e] at he; exact absurd he (by decide))
          · try simp only [Bool.and_eq_true, Bool.or_eq_true, Bool.not_eq_true', Bool.not_eq_false', Bool.and_eq_false_iff, Bool.or_eq_false_iff, decide_eq_true_eq, decide_eq_false_iff_not, Int.not_lt, Int.not_le, ne_eq, Decidable.not_not] at h5
            refine WC.skip ?_
            refine QX.normal_in ?_
            refine QX.then_ ?_
            refine WC.region ?_
            refine SL.pure rfl rfl rfl (PureOp.addN (k := 1) rfl rfl (fun _ => by omega)) ?_
            refine SL.pure rfl rfl rfl (PureOp.move rfl) ?_
            refine SL.nil ?_
            refine QX.round 3 (k + 1) ⟨⟨(by first | omega | (dsimp only; omega)), newK_next hz (by omega) (by simpa using h5)⟩, by first | omega | (dsimp only; omega)⟩ ⟨rfl, rfl, rfl, rfl, rfl, rfl, rfl, rfl, rfl, rfl, rfl, rfl, rfl, rfl, rfl, rfl, rfl, rfl, rfl, rfl, rfl, rfl, rfl, rfl, rfl, rfl, trivial⟩ rfl
      · try simp only [Bool.and_eq_true, Bool.or_eq_true, Bool.not_eq_true', Bool.not_eq_false', Bool.and_eq_false_iff, Bool.or_eq_false_iff, decide_eq_true_eq, decide_eq_false_iff_not, Int.not_lt, Int.not_le, ne_eq, Decidable.not_not] at h3
        have ek : k = n := by omega
        have hM := made_of he
        refine WC.exit ?_
        refine QX.exit_then ?_
        refine QX.exit_then ?_
        refine QX.exit_hit ?_
        refine QX.then_ ?_
        refine WC.seq ?_
        refine WC.drawH 11 [false, false, false, false, false, false, false, false, false, false, false] rfl rfl rfl ?_
        refine SD.take 0 [true, false, false, false, false, false, false, false, false, false, false] rfl (by kernel_rfl) rfl (fun _ h => h) rfl rfl rfl (PureOp.move rfl) ?_
        refine SD.take 2 [true, false, true, false, false, false, false, false, false, false, false] rfl (by kernel_rfl) rfl (fun _ h => h) rfl rfl rfl (PureOp.move rfl) ?_
        refine SD.take 4 [true, false, true, false, true, false, false, false, false, false, false] rfl (by kernel_rfl) rfl (fun _ h => h) rfl rfl rfl (PureOp.move rfl) ?_
        refine SD.take 5 [true, false, true, false, true, true, false, false, false, false, false] rfl (by kernel_rfl) rfl (fun _ h => h) rfl rfl rfl (PureOp.len rfl Try.underlying22) ?_
        refine SD.all [1, 6] (by kernel_rfl) (by simp) ⟨⟨_, [true, true, true, false, true, true, false, false, false, false, false], rfl, rfl, ?_⟩, ⟨_, [true, false, true, false, true, true, true, false, false, false, false], rfl, rfl, ?_⟩, trivial⟩
        · skip
          refine SL.callo (fun qa qc => .slice qa n qc) rfl rfl rfl rfl rfl rfl callable26 (fun w hw => clone_ok T _ _ _ hn (by omega) w (SliceIn.rows (hw.mem (i := 0) rfl) encI_len (by omega))) (fun qa qc => ?_)
          refine SL.norm [_, _, _, _] rfl ?_
          refine SD.back (fun _ h => HeapOk.take h 3) ?_
          refine SD.all [3, 6] (by kernel_rfl) (by simp) ⟨⟨_, [true, true, true, true, true, true, false, false, false, false, false], rfl, rfl, ?_⟩, ⟨_, [true, true, true, false, true, true, true, false, false, false, false], rfl, rfl, ?_⟩, trivial⟩
          · skip
            refine SL.callo (fun pa pc => .slice pa m pc) rfl rfl rfl rfl rfl rfl callable26 (fun w hw => clone_ok R _ _ _ hm (by omega) w (SliceIn.rows (hw.mem (i := 1) rfl) encI_len (by omega))) (fun pa pc => ?_)
            refine SL.norm [_, _, _, _, _] rfl ?_
            refine SD.back (fun _ h => HeapOk.take h 3) ?_
            refine SD.one 6 [true, true, true, true, true, true, true, false, false, false, false] (by kernel_rfl) rfl rfl ?_
            refine SL.make rfl rfl Try.underlying42 elem4 rfl rfl (by omega) (by omega) (fun b1 hb1 => ?_)
            refine SL.norm [_, _, _, _, _, _] rfl ?_
            refine SD.back (fun _ h => HeapOk.take h 3) ?_
            refine SD.take 7 [true, true, true, true, true, true, true, true, false, false, false] rfl (by kernel_rfl) rfl (fun _ h => HeapOk.take h 3) rfl rfl rfl (PureOp.build bld44 rfl rfl) ?_
            refine SD.one 8 [true, true, true, true, true, true, true, true, true, false, false] (by kernel_rfl) rfl rfl ?_
            refine SL.box rfl rfl rfl (fun b2 hb2 => ?_)
            refine SL.norm [_, _, _, _, _, _, _] rfl ?_
            refine SD.back (fun _ h => HeapOk.take h 3) ?_
            refine SD.take 9 [true, true, true, true, true, true, true, true, true, true, false] rfl (by kernel_rfl) rfl (fun _ h => HeapOk.take h 3) rfl rfl rfl (PureOp.assign rfl) ?_
            refine SD.take 10 [true, true, true, true, true, true, true, true, true, true, true] rfl (by kernel_rfl) rfl (fun _ h => HeapOk.take h 3) rfl rfl rfl (PureOp.assign rfl) ?_
            refine SD.done (by kernel_rfl) ?_
            refine QX.ofK ?_
            refine QX.then_ ?_
            refine WC.ret ?_
            refine QX.body2 rfl rfl rfl ?_
            intro w hw
            obtain rfl : m = n := by omega
            refine ⟨(b2, (qa, qc), (pa, pc), b1), rfl, hb2, ?_⟩
            have h := HeapOk.pick [0, 1, 2, 6, 3, 4, 5] (by decide) hw
            rw [rep_bo] at h
            try rw [Nat.zero_add] at h
            try rw [Nat.zero_add] at h
            exact h
          · skip
            refine SL.make rfl rfl Try.underlying42 elem4 rfl rfl (by omega) (by omega) (fun b3 hb3 => ?_)
            refine SL.norm [_, _, _, _, _] rfl ?_
            refine SD.back (fun _ h => HeapOk.take h 3) ?_
            refine SD.one 3 [true, true, true, true, true, true, true, false, false, false, false] (by kernel_rfl) rfl rfl ?_
            refine SL.callo (fun pa pc => .slice pa m pc) rfl rfl rfl rfl rfl rfl callable26 (fun w hw => clone_ok R _ _ _ hm (by omega) w (SliceIn.rows (hw.mem (i := 1) rfl) encI_len (by omega))) (fun pa pc => ?_)
            refine SL.norm [_, _, _, _, _, _] rfl ?_
            refine SD.back (fun _ h => HeapOk.take h 3) ?_
            refine SD.take 7 [true, true, true, true, true, true, true, true, false, false, false] rfl (by kernel_rfl) rfl (fun _ h => HeapOk.take h 3) rfl rfl rfl (PureOp.build bld44 rfl rfl) ?_
            refine SD.one 8 [true, true, true, true, true, true, true, true, true, false, false] (by kernel_rfl) rfl rfl ?_
            refine SL.box rfl rfl rfl (fun b4 hb4 => ?_)
            refine SL.norm [_, _, _, _, _, _, _] rfl ?_
            refine SD.back (fun _ h => HeapOk.take h 3) ?_
            refine SD.take 9 [true, true, true, true, true, true, true, true, true, true, false] rfl (by kernel_rfl) rfl (fun _ h => HeapOk.take h 3) rfl rfl rfl (PureOp.assign rfl) ?_
            refine SD.take 10 [true, true, true, true, true, true, true, true, true, true, true] rfl (by kernel_rfl) rfl (fun _ h => HeapOk.take h 3) rfl rfl rfl (PureOp.assign rfl) ?_
            refine SD.done (by kernel_rfl) ?_
            refine QX.ofK ?_
            refine QX.then_ ?_
            refine WC.ret ?_
            refine QX.body2 rfl rfl rfl ?_
            intro w hw
            obtain rfl : m = n := by omega
            refine ⟨(b4, (qa, qc), (pa, pc), b3), rfl, hb4, ?_⟩
            have h := HeapOk.pick [0, 1, 2, 6, 3, 5, 4] (by decide) hw
            rw [rep_bo] at h
            try rw [Nat.zero_add] at h
            try rw [Nat.zero_add] at h
            exact h
        · skip
          refine SL.make rfl rfl Try.underlying42 elem4 rfl rfl (by omega) (by omega) (fun b5 hb5 => ?_)
          refine SL.norm [_, _, _, _] rfl ?_
          refine SD.back (fun _ h => HeapOk.take h 3) ?_
          refine SD.one 1 [true, true, true, false, true, true, true, false, false, false, false] (by kernel_rfl) rfl rfl ?_
          refine SL.callo (fun qa qc => .slice qa n qc) rfl rfl rfl rfl rfl rfl callable26 (fun w hw => clone_ok T _ _ _ hn (by omega) w (SliceIn.rows (hw.mem (i := 0) rfl) encI_len (by omega))) (fun qa qc => ?_)
          refine SL.norm [_, _, _, _, _] rfl ?_
          refine SD.back (fun _ h => HeapOk.take h 3) ?_
          refine SD.one 3 [true, true, true, true, true, true, true, false, false, false, false] (by kernel_rfl) rfl rfl ?_
          refine SL.callo (fun pa pc => .slice pa m pc) rfl rfl rfl rfl rfl rfl callable26 (fun w hw => clone_ok R _ _ _ hm (by omega) w (SliceIn.rows (hw.mem (i := 1) rfl) encI_len (by omega))) (fun pa pc => ?_)
          refine SL.norm [_, _, _, _, _, _] rfl ?_
          refine SD.back (fun _ h => HeapOk.take h 3) ?_
          refine SD.take 7 [true, true, true, true, true, true, true, true, false, false, false] rfl (by kernel_rfl) rfl (fun _ h => HeapOk.take h 3) rfl rfl rfl (PureOp.build bld44 rfl rfl) ?_
          refine SD.one 8 [true, true, true, true, true, true, true, true, true, false, false] (by kernel_rfl) rfl rfl ?_
          refine SL.box rfl rfl rfl (fun b6 hb6 => ?_)
          refine SL.norm [_, _, _, _, _, _, _] rfl ?_
          refine SD.back (fun _ h => HeapOk.take h 3) ?_
          refine SD.take 9 [true, true, true, true, true, true, true, true, true, true, false] rfl (by kernel_rfl) rfl (fun _ h => HeapOk.take h 3) rfl rfl rfl (PureOp.assign rfl) ?_
          refine SD.take 10 [true, true, true, true, true, true, true, true, true, true, true] rfl (by kernel_rfl) rfl (fun _ h => HeapOk.take h 3) rfl rfl rfl (PureOp.assign rfl) ?_
          refine SD.done (by kernel_rfl) ?_
          refine QX.ofK ?_
          refine QX.then_ ?_
          refine WC.ret ?_
          refine QX.body2 rfl rfl rfl ?_
          intro w hw
          obtain rfl : m = n := by omega
          refine ⟨(b6, (qa, qc), (pa, pc), b5), rfl, hb6, ?_⟩
          have h := HeapOk.pick [0, 1, 2, 6, 4, 5, 3] (by decide) hw
          rw [rep_bo] at h
          try rw [Nat.zero_add] at h
          try rw [Nat.zero_add] at h
          exact h

end Go.Proofs.Ythbgnjengkjigaa
