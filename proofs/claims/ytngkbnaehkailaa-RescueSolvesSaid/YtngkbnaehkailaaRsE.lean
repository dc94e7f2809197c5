import Derived.Test.YtngkbnaehkailaaRsD
namespace Go.Proofs.Ytngkbnaehkailaa
open Go Go.RowKit Eng
set_option linter.unusedVariables false
set_option linter.unusedSimpArgs false

set_option maxHeartbeats 4000000 in
set_option maxRecDepth 100000 in
theorem big52_ok (w0 : World) (l : List Pa) (la : Option Addr) (m lc : Nat) (hm : m = l.length) (hI : ∀ i, i < m → SliceIn w0 2 (nth l i).2.2.ao (nth l i).2.2.l.length (nth l i).2.2.cap (rowsF enc77 (nth l i).2.2.l)) (sL : SliceIn w0 3 la m lc (rowsF enc55 l)) (c : List Int) (ca : Option Addr) (q cc : Nat) (hq : q = c.length) (sC : SliceIn w0 1 ca q cc (rowsF encI c)) : FnC Try.prog 25 [.slice la m lc, .slice ca q cc] w0 fun v w' => v = .bool (bigB l c) := by
  have hmB : (m : Int) ≤ 9223372036854775807 := by
    have h1 := sL.le; have h2 := sL.max; simp only [maxLen] at h2; omega
  have hIb : ∀ i, i < m → ((nth l i).2.2.l.length : Int) ≤ 9223372036854775807 := fun i hi => by
    have h1 := (hI i hi).le; have h2 := (hI i hi).max; simp only [maxLen] at h2; omega
  refine fnc (N := 50) Try.func25 rfl rfl rfl ?_
  refine WC.seq ?_
  refine WC.region ?_
  refine SL.pure rfl rfl rfl (PureOp.assign rfl) ?_
  refine SL.nil_then ?_
  refine WC.seq ?_
  refine WC.seq ?_
  refine WC.region ?_
  refine SL.pure rfl rfl rfl (PureOp.move rfl) ?_
  refine SL.pure rfl rfl rfl (PureOp.len rfl Try.underlying43) ?_
  refine SL.pure rfl rfl rfl (PureOp.gtr rfl rfl) ?_
  refine SL.pure rfl rfl rfl (PureOp.move rfl) ?_
  refine SL.newg 11 false rfl ?_
  refine SL.gpure (c := 1) rfl rfl rfl rfl rfl rfl rfl (PureOp.move rfl) ?_
  refine SL.gpure (c := 1) rfl rfl rfl rfl rfl rfl rfl (PureOp.len rfl Try.underlying29) ?_
  refine SL.gpure (c := 1) rfl rfl rfl rfl rfl rfl rfl (PureOp.gtr rfl rfl) ?_
  refine SL.pure rfl rfl rfl (PureOp.or_ rfl rfl rfl rfl) ?_
  refine SL.nil_then ?_
  refine WC.cond rfl (fun h1 => ?_) (fun h1 => ?_)
  · try simp only [Bool.and_eq_true, Bool.or_eq_true, Bool.not_eq_true', Bool.not_eq_false', Bool.and_eq_false_iff, Bool.or_eq_false_iff, decide_eq_true_eq, decide_eq_false_iff_not, Int.not_lt, Int.not_le, ne_eq, Decidable.not_not] at h1
    refine WC.seq ?_
    refine WC.region ?_
    refine SL.pure rfl rfl rfl (PureOp.assign rfl) ?_
    refine SL.nil_then ?_
    refine WC.ret ?_
    refine QX.ret_then ?_
    refine QX.ret1 rfl rfl ?_
    intro w hw
    rw [bigB_yes (by omega)]
  · try simp only [Bool.and_eq_true, Bool.or_eq_true, Bool.not_eq_true', Bool.not_eq_false', Bool.and_eq_false_iff, Bool.or_eq_false_iff, decide_eq_true_eq, decide_eq_false_iff_not, Int.not_lt, Int.not_le, ne_eq, Decidable.not_not] at h1
    refine WC.skip ?_
    refine QX.then_ ?_
    refine WC.seq ?_
    refine WC.region ?_
    refine SL.pure rfl rfl rfl (PureOp.assign rfl) ?_
    refine SL.pure rfl rfl rfl (PureOp.assign rfl) ?_
    refine SL.nil_then ?_
    refine WC.seq ?_
    refine WC.seq ?_
    refine WC.region ?_
    refine SL.pure rfl rfl rfl (PureOp.assign rfl) ?_
    refine SL.nil_then ?_
    refine WC.block ?_
    refine WC.loop (σ := Nat) (fun q_ => [(0, 0, .slice la m lc), (1, 0, .slice ca q cc), (4, 0, .bool false), (8, 0, .slice la m lc), (9, 0, .int .i64 ((m : Nat) : Int)), (10, 0, .bool (decide (70 < ((m : Nat) : Int)))), (11, 0, .bool (decide (70 < ((m : Nat) : Int)))), (15, 0, .bool ((decide (70 < ((m : Nat) : Int))) || (decide (70 < ((q : Nat) : Int))))), (7, 0, .int .i64 ((q_ : Nat) : Int)), (5, 0, .int .i64 (wayW l q_)), (6, 0, .int .i64 (peoK l q_))]) (fun q_ => []) (fun q_ => q_ ≤ m) (fun q_ => m - q_) 0 (0) (Nat.zero_le _) ⟨rfl, rfl, rfl, rfl, rfl, rfl, rfl, rfl, rfl, rfl, rfl, rfl, rfl, rfl, rfl, rfl, rfl, rfl, rfl, rfl, rfl, rfl, trivial⟩ rfl ?_
    rintro k hk
    refine WC.seq ?_
    refine WC.seq ?_
    refine WC.region ?_
    refine SL.pure rfl rfl rfl (PureOp.move rfl) ?_
    refine SL.pure rfl rfl rfl (PureOp.move rfl) ?_
    refine SL.pure rfl rfl rfl (PureOp.len rfl Try.underlying43) ?_
    refine SL.pure rfl rfl rfl (PureOp.lss rfl rfl) ?_
    refine SL.nil_then ?_
    refine WC.cond rfl (fun h2 => ?_) (fun h2 => ?_)
    · try simp only [Bool.and_eq_true, Bool.or_eq_true, Bool.not_eq_true', Bool.not_eq_false', Bool.and_eq_false_iff, Bool.or_eq_false_iff, decide_eq_true_eq, decide_eq_false_iff_not, Int.not_lt, Int.not_le, ne_eq, Decidable.not_not] at h2
      have hpk := peoK_bd (l := l) k
      refine WC.skip ?_
      refine QX.then_ ?_
      refine WC.seq ?_
      refine WC.block ?_
      refine WC.seq ?_
      refine WC.region ?_
      refine SL.pure rfl rfl rfl (PureOp.move rfl) ?_
      refine SL.pure rfl rfl rfl (PureOp.move rfl) ?_
      refine SL.pure rfl rfl rfl (PureOp.move rfl) ?_
      refine SL.pure rfl rfl rfl (PureOp.indexAddrN Try.underlying43 sz55 rfl rfl (AoOk.in_ sL) (fun _ => by omega)) ?_
      refine SL.pure rfl rfl rfl (PureOp.fieldAddr 2 Try.underlying55 rfl rfl sz53 rfl) ?_
      refine SL.pure rfl rfl rfl (PureOp.load (v := .slice ((nth l k).2.2.ao) ((nth l k).2.2.l.length) ((nth l k).2.2.cap)) Try.underlying53 rfl rfl (fun _ => (CellIs.in_ sL k 2 (by omega) (by omega)))) ?_
      refine SL.pure rfl rfl rfl (PureOp.len rfl Try.underlying53) ?_
      refine SL.pure rfl rfl rfl (PureOp.addw rfl rfl) ?_
      refine SL.pure rfl rfl rfl (PureOp.assign rfl) ?_
      refine SL.nil_then ?_
      refine WC.region ?_
      refine SL.pure rfl rfl rfl (PureOp.move rfl) ?_
      refine SL.pure rfl rfl rfl (PureOp.move rfl) ?_
      refine SL.pure rfl rfl rfl (PureOp.move rfl) ?_
      refine SL.pure rfl rfl rfl (PureOp.indexAddrN Try.underlying43 sz55 rfl rfl (AoOk.in_ sL) (fun _ => by omega)) ?_
      refine SL.pure rfl rfl rfl (PureOp.fieldAddr 0 Try.underlying55 rfl rfl sz3 rfl) ?_
      refine SL.pure rfl rfl rfl (PureOp.load (v := .int .i64 ((nth l k).1)) Try.underlying3 rfl rfl (fun _ => (CellIs.in_ sL k 0 (by omega) (by omega)))) ?_
      refine SL.pure rfl rfl rfl (PureOp.min_ rfl rfl) ?_
      refine SL.pure rfl rfl rfl (PureOp.max_ rfl rfl) ?_
      refine SL.pure rfl rfl rfl (PureOp.add rfl rfl (fun _ => by omega)) ?_
      refine SL.pure rfl rfl rfl (PureOp.assign rfl) ?_
      refine SL.nil ?_
      refine QX.normal_in ?_
      refine QX.then_ ?_
      refine WC.region ?_
      refine SL.pure rfl rfl rfl (PureOp.move rfl) ?_
      refine SL.pure rfl rfl rfl (PureOp.addN (k := 1) rfl rfl (fun _ => by omega)) ?_
      refine SL.pure rfl rfl rfl (PureOp.assign rfl) ?_
      refine SL.nil ?_
      refine QX.round 0 (k + 1) ⟨(by first | omega | (dsimp only; omega)), by first | omega | (dsimp only; omega)⟩ ⟨rfl, rfl, rfl, rfl, rfl, rfl, rfl, rfl, rfl, rfl, rfl, rfl, rfl, rfl, rfl, rfl, rfl, rfl, rfl, rfl, rfl, rfl, trivial⟩ rfl
    · try simp only [Bool.and_eq_true, Bool.or_eq_true, Bool.not_eq_true', Bool.not_eq_false', Bool.and_eq_false_iff, Bool.or_eq_false_iff, decide_eq_true_eq, decide_eq_false_iff_not, Int.not_lt, Int.not_le, ne_eq, Decidable.not_not] at h2
      refine WC.exit ?_
      refine QX.exit_then ?_
      refine QX.exit_then ?_
      refine QX.exit_hit ?_
      refine QX.then_ ?_
      refine WC.seq ?_
      refine WC.region ?_
      refine SL.pure rfl rfl rfl (PureOp.move rfl) ?_
      refine SL.pure rfl rfl rfl (PureOp.gtr rfl rfl) ?_
      refine SL.pure rfl rfl rfl (PureOp.move rfl) ?_
      refine SL.newg 41 false rfl ?_
      refine SL.gpure (c := 1) rfl rfl rfl rfl rfl rfl rfl (PureOp.move rfl) ?_
      refine SL.gpure (c := 1) rfl rfl rfl rfl rfl rfl rfl (PureOp.gtr rfl rfl) ?_
      refine SL.gpure (c := 1) rfl rfl rfl rfl rfl rfl rfl (PureOp.move rfl) ?_
      refine SL.newg 44 true rfl ?_
      refine SL.gpure (c := 2) rfl rfl rfl rfl rfl rfl rfl (PureOp.move rfl) ?_
      refine SL.gpure (c := 2) rfl rfl rfl rfl rfl rfl rfl (PureOp.len rfl Try.underlying43) ?_
      refine SL.gpure (c := 2) rfl rfl rfl rfl rfl rfl rfl (PureOp.gtr rfl rfl) ?_
      refine SL.gpure (c := 1) rfl rfl rfl rfl rfl rfl rfl (PureOp.and_ rfl rfl rfl rfl) ?_
      refine SL.pure rfl rfl rfl (PureOp.or_ rfl rfl rfl rfl) ?_
      refine SL.pure rfl rfl rfl (PureOp.assign rfl) ?_
      refine SL.nil_then ?_
      refine WC.ret ?_
      refine QX.ret1 rfl rfl ?_
      intro w hw
      obtain rfl : k = m := by omega
      rw [bigB_no (by omega), ← hm]

end Go.Proofs.Ytngkbnaehkailaa
