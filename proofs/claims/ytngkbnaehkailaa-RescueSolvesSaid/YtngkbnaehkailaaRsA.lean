import Derived.Test.YtngkbnaehkailaaResq
import Derived.Test.YtngkbnaehkailaaRFacts
import Derived.Test.YtngkbnaehkailaaRTypes
import Derived.Test.YtngkbnaehkailaaAny
namespace Go.Proofs.Ytngkbnaehkailaa
open Go Go.RowKit Eng
set_option linter.unusedVariables false
set_option linter.unusedSimpArgs false

set_option maxHeartbeats 4000000 in
set_option maxRecDepth 100000 in
theorem wi_ok (w0 : World) (n a b : Int) : FnC Try.prog 50 [.int .i64 n, .int .i64 a, .int .i64 b] w0 fun v w' => v = .bool (wiB n a b) := by
  refine fnc (N := 15) Try.func50 rfl rfl rfl ?_
  refine WC.seq ?_
  refine WC.region ?_
  refine SL.pure rfl rfl rfl (PureOp.assign rfl) ?_
  refine SL.nil_then ?_
  refine WC.seq ?_
  refine WC.region ?_
  refine SL.pure rfl rfl rfl (PureOp.move rfl) ?_
  refine SL.pure rfl rfl rfl (PureOp.move rfl) ?_
  refine SL.pure rfl rfl rfl (PureOp.geq rfl rfl) ?_
  refine SL.pure rfl rfl rfl (PureOp.move rfl) ?_
  refine SL.newg 10 true rfl ?_
  refine SL.gpure (c := 1) rfl rfl rfl rfl rfl rfl rfl (PureOp.move rfl) ?_
  refine SL.gpure (c := 1) rfl rfl rfl rfl rfl rfl rfl (PureOp.move rfl) ?_
  refine SL.gpure (c := 1) rfl rfl rfl rfl rfl rfl rfl (PureOp.leq rfl rfl) ?_
  refine SL.pure rfl rfl rfl (PureOp.and_ rfl rfl rfl rfl) ?_
  refine SL.pure rfl rfl rfl (PureOp.assign rfl) ?_
  refine SL.nil_then ?_
  refine WC.ret ?_
  refine QX.ret1 rfl rfl ?_
  intro w hw
  rfl

set_option maxHeartbeats 4000000 in
set_option maxRecDepth 100000 in
theorem rways_ok (w0 : World) (l : List Pa) (la : Option Addr) (m lc : Nat) (hm : m = l.length) (hI : ∀ i, i < m → SliceIn w0 2 (nth l i).2.2.ao (nth l i).2.2.l.length (nth l i).2.2.cap (rowsF enc77 (nth l i).2.2.l)) (sL : SliceIn w0 3 la m lc (rowsF enc55 l)) : FnC Try.prog 51 [.slice la m lc] w0 fun v w' => v = .int .i64 (wayW l l.length) := by
  have hmB : (m : Int) ≤ 9223372036854775807 := by
    have h1 := sL.le; have h2 := sL.max; simp only [maxLen] at h2; omega
  have hIb : ∀ i, i < m → ((nth l i).2.2.l.length : Int) ≤ 9223372036854775807 := fun i hi => by
    have h1 := (hI i hi).le; have h2 := (hI i hi).max; simp only [maxLen] at h2; omega
  refine fnc (N := 20) Try.func51 rfl rfl rfl ?_
  refine WC.seq ?_
  refine WC.region ?_
  refine SL.pure rfl rfl rfl (PureOp.assign rfl) ?_
  refine SL.nil_then ?_
  refine WC.seq ?_
  refine WC.region ?_
  refine SL.pure rfl rfl rfl (PureOp.assign rfl) ?_
  refine SL.nil_then ?_
  refine WC.seq ?_
  refine WC.seq ?_
  refine WC.region ?_
  refine SL.pure rfl rfl rfl (PureOp.assign rfl) ?_
  refine SL.nil_then ?_
  refine WC.block ?_
  refine WC.loop (σ := Nat) (fun q_ => [(0, 0, .slice la m lc), (2, 0, .int .i64 0), (4, 0, .int .i64 ((q_ : Nat) : Int)), (3, 0, .int .i64 (wayW l q_))]) (fun q_ => []) (fun q_ => q_ ≤ m) (fun q_ => m - q_) 0 (0) (Nat.zero_le _) ⟨rfl, rfl, rfl, rfl, rfl, rfl, rfl, rfl, trivial⟩ rfl ?_
  rintro k hk
  refine WC.seq ?_
  refine WC.seq ?_
  refine WC.region ?_
  refine SL.pure rfl rfl rfl (PureOp.move rfl) ?_
  refine SL.pure rfl rfl rfl (PureOp.move rfl) ?_
  refine SL.pure rfl rfl rfl (PureOp.len rfl Try.underlying43) ?_
  refine SL.pure rfl rfl rfl (PureOp.lss rfl rfl) ?_
  refine SL.nil_then ?_
  refine WC.cond rfl (fun h1 => ?_) (fun h1 => ?_)
  · try simp only [Bool.and_eq_true, Bool.or_eq_true, Bool.not_eq_true', Bool.not_eq_false', Bool.and_eq_false_iff, Bool.or_eq_false_iff, decide_eq_true_eq, decide_eq_false_iff_not, Int.not_lt, Int.not_le, ne_eq, Decidable.not_not] at h1
    refine WC.skip ?_
    refine QX.then_ ?_
    refine WC.seq ?_
    refine WC.block ?_
    refine WC.region ?_
    refine SL.pure rfl rfl rfl (PureOp.move rfl) ?_
    refine SL.pure rfl rfl rfl (PureOp.move rfl) ?_
    refine SL.pure rfl rfl rfl (PureOp.move rfl) ?_
    refine SL.pure rfl rfl rfl (PureOp.indexAddrN Try.underlying43 sz55 rfl rfl (AoOk.in_ sL) (fun _ => by omega)) ?_
    refine SL.pure rfl rfl rfl (PureOp.fieldAddr 2 Try.underlying55 rfl rfl sz53 rfl) ?_
    refine SL.pure rfl rfl rfl (PureOp.load (v := .slice ((nth l k).2.2.ao) ((nth l k).2.2.l.length) ((nth l k).2.2.cap)) Try.underlying53 rfl rfl (fun _ => (CellIs.in_ sL k 2 (by omega) (by omega)))) ?_
    refine SL.pure rfl rfl rfl (PureOp.len rfl Try.underlying53) ?_
    refine SL.pure rfl rfl rfl (PureOp.addw rfl rfl) ?_
    refine SL.pure rfl rfl rfl (PureOp.assign rfl) ?_
    refine SL.nil ?_
    refine QX.normal_in ?_
    refine QX.then_ ?_
    refine WC.region ?_
    refine SL.pure rfl rfl rfl (PureOp.move rfl) ?_
    refine SL.pure rfl rfl rfl (PureOp.addN (k := 1) rfl rfl (fun _ => by omega)) ?_
    refine SL.pure rfl rfl rfl (PureOp.assign rfl) ?_
    refine SL.nil ?_
    refine QX.round 0 (k + 1) ⟨(by first | omega | (dsimp only; omega)), by first | omega | (dsimp only; omega)⟩ ⟨rfl, rfl, rfl, rfl, rfl, rfl, rfl, rfl, trivial⟩ rfl
  · try simp only [Bool.and_eq_true, Bool.or_eq_true, Bool.not_eq_true', Bool.not_eq_false', Bool.and_eq_false_iff, Bool.or_eq_false_iff, decide_eq_true_eq, decide_eq_false_iff_not, Int.not_lt, Int.not_le, ne_eq, Decidable.not_not] at h1
    refine WC.exit ?_
    refine QX.exit_then ?_
    refine QX.exit_then ?_
    refine QX.exit_hit ?_
    refine QX.then_ ?_
    refine WC.seq ?_
    refine WC.region ?_
    refine SL.pure rfl rfl rfl (PureOp.move rfl) ?_
    refine SL.pure rfl rfl rfl (PureOp.assign rfl) ?_
    refine SL.nil_then ?_
    refine WC.ret ?_
    refine QX.ret1 rfl rfl ?_
    intro w hw
    obtain rfl : k = m := by omega
    rw [hm]

set_option maxHeartbeats 4000000 in
set_option maxRecDepth 100000 in
theorem pcheck52_ok (w0 : World) (l : List Pa) (la : Option Addr) (m lc : Nat) (hm : m = l.length) (hI : ∀ i, i < m → SliceIn w0 2 (nth l i).2.2.ao (nth l i).2.2.l.length (nth l i).2.2.cap (rowsF enc77 (nth l i).2.2.l)) (sL : SliceIn w0 3 la m lc (rowsF enc55 l)) (c : List Int) (ca : Option Addr) (q cc : Nat) (hq : q = c.length) (sC : SliceIn w0 1 ca q cc (rowsF encI c)) : FnC Try.prog 29 [.slice la m lc, .slice ca q cc] w0 fun v w' => v = .int .i64 (rchk l c) := by
  have hmB : (m : Int) ≤ 9223372036854775807 := by
    have h1 := sL.le; have h2 := sL.max; simp only [maxLen] at h2; omega
  have hIb : ∀ i, i < m → ((nth l i).2.2.l.length : Int) ≤ 9223372036854775807 := fun i hi => by
    have h1 := (hI i hi).le; have h2 := (hI i hi).max; simp only [maxLen] at h2; omega
  refine fnc (N := 84) Try.func29 rfl rfl rfl ?_
  refine WC.seq ?_
  refine WC.region ?_
  refine SL.pure rfl rfl rfl (PureOp.assign rfl) ?_
  refine SL.nil_then ?_
  refine WC.seq ?_
  refine WC.region ?_
  refine SL.pure rfl rfl rfl (PureOp.assign rfl) ?_
  refine SL.nil_then ?_
  refine WC.seq ?_
  refine WC.seq ?_
  refine WC.region ?_
  refine SL.pure rfl rfl rfl (PureOp.move rfl) ?_
  refine SL.pure rfl rfl rfl (PureOp.len rfl Try.underlying43) ?_
  refine SL.pure rfl rfl rfl (PureOp.gtr rfl rfl) ?_
  refine SL.pure rfl rfl rfl (PureOp.move rfl) ?_
  refine SL.newg 17 false rfl ?_
  refine SL.gpure (c := 1) rfl rfl rfl rfl rfl rfl rfl (PureOp.move rfl) ?_
  refine SL.gpure (c := 1) rfl rfl rfl rfl rfl rfl rfl (PureOp.len rfl Try.underlying29) ?_
  refine SL.gpure (c := 1) rfl rfl rfl rfl rfl rfl rfl (PureOp.gtr rfl rfl) ?_
  refine SL.pure rfl rfl rfl (PureOp.or_ rfl rfl rfl rfl) ?_
  refine SL.nil_then ?_
  refine WC.cond rfl (fun h1 => ?_) (fun h1 => ?_)
  · try simp only [Bool.and_eq_true, Bool.or_eq_true, Bool.not_eq_true', Bool.not_eq_false', Bool.and_eq_false_iff, Bool.or_eq_false_iff, decide_eq_true_eq, decide_eq_false_iff_not, Int.not_lt, Int.not_le, ne_eq, Decidable.not_not] at h1
    refine WC.seq ?_
    refine WC.region ?_
    refine SL.pure rfl rfl rfl (PureOp.assign rfl) ?_
    refine SL.nil_then ?_
    refine WC.ret ?_
    refine QX.ret_then ?_
    refine QX.ret1 rfl rfl ?_
    intro w hw
    rw [rchk_size (by omega)]
  · try simp only [Bool.and_eq_true, Bool.or_eq_true, Bool.not_eq_true', Bool.not_eq_false', Bool.and_eq_false_iff, Bool.or_eq_false_iff, decide_eq_true_eq, decide_eq_false_iff_not, Int.not_lt, Int.not_le, ne_eq, Decidable.not_not] at h1
    refine WC.skip ?_
    refine QX.then_ ?_
    refine WC.seq ?_
    refine WC.seq ?_
    refine WC.region ?_
    refine SL.pure rfl rfl rfl (PureOp.move rfl) ?_
    refine SL.pure rfl rfl rfl (PureOp.len rfl Try.underlying43) ?_
    refine SL.pure rfl rfl rfl (PureOp.move rfl) ?_
    refine SL.nil_then ?_
    refine WC.block ?_
    refine WC.loop (σ := Nat) (fun q_ => [(0, 0, .slice la m lc), (1, 0, .slice ca q cc), (4, 0, .int .i64 0), (14, 0, .slice la m lc), (15, 0, .int .i64 ((m : Nat) : Int)), (16, 0, .bool (decide (60 < ((m : Nat) : Int)))), (17, 0, .bool (decide (60 < ((m : Nat) : Int)))), (21, 0, .bool ((decide (60 < ((m : Nat) : Int))) || (decide (60 < ((q : Nat) : Int))))), (22, 0, .slice la m lc), (23, 0, .int .i64 ((m : Nat) : Int)), (24, 0, .int .i64 ((q_ : Nat) : Int)), (5, 0, .int .i64 (wayW l q_))]) (fun q_ => []) (fun q_ => q_ ≤ m) (fun q_ => m - q_) 0 (0) (Nat.zero_le _) ⟨rfl, rfl, rfl, rfl, rfl, rfl, rfl, rfl, rfl, rfl, rfl, rfl, rfl, rfl, rfl, rfl, rfl, rfl, rfl, rfl, rfl, rfl, rfl, rfl, trivial⟩ rfl ?_
    rintro a hk
    refine WC.seq ?_
    refine WC.region ?_
    refine SL.pure rfl rfl rfl (PureOp.lss rfl rfl) ?_
    refine SL.nil_then ?_
    refine WC.seq ?_
    refine WC.cond rfl (fun h2 => ?_) (fun h2 => ?_)
    · try simp only [Bool.and_eq_true, Bool.or_eq_true, Bool.not_eq_true', Bool.not_eq_false', Bool.and_eq_false_iff, Bool.or_eq_false_iff, decide_eq_true_eq, decide_eq_false_iff_not, Int.not_lt, Int.not_le, ne_eq, Decidable.not_not] at h2
      refine WC.skip ?_
      refine QX.then_ ?_
      refine WC.seq ?_
      refine WC.block ?_
      refine WC.seq ?_
      refine WC.region ?_
      refine SL.pure rfl rfl rfl (PureOp.indexAddrN Try.underlying43 sz55 rfl rfl (AoOk.in_ sL) (fun _ => by omega)) ?_
      refine SL.pure rfl rfl rfl (PureOp.loads (vs := [.int .i64 ((nth l a).1), .int .i64 ((nth l a).2.1), .slice ((nth l a).2.2.ao) ((nth l a).2.2.l.length) ((nth l a).2.2.cap)]) Try.underlying55 rfl rfl (fun _ => (RowIs.in_ sL a 0 3 (by omega) (by omega))) sz55) ?_
      refine SL.alloc rfl rfl zero55 (fun b1 hb1 => ?_)
      refine SL.norm [_] rfl ?_
      refine SL.store 0 rfl rfl rfl rfl sz55 rfl rfl ?_
      refine SL.norm [_] rfl ?_
      refine SL.nil_then ?_
      refine WC.region ?_
      refine SL.pure rfl rfl rfl (PureOp.move rfl) ?_
      refine SL.pure rfl rfl rfl (PureOp.fieldAddrT 2 Try.underlying55 rfl sz53 rfl rfl) ?_
      refine SL.pure rfl rfl rfl (PureOp.load (v := .slice ((nth l a).2.2.ao) ((nth l a).2.2.l.length) ((nth l a).2.2.cap)) Try.underlying53 rfl rfl (fun _ => (CellIs.cells 0 rfl rfl))) ?_
      refine SL.pure rfl rfl rfl (PureOp.len rfl Try.underlying53) ?_
      refine SL.pure rfl rfl rfl (PureOp.addw rfl rfl) ?_
      refine SL.pure rfl rfl rfl (PureOp.assign rfl) ?_
      refine SL.nil ?_
      refine QX.normal_in ?_
      refine QX.then_ ?_
      refine WC.region ?_
      refine SL.pure rfl rfl rfl (PureOp.addN (k := 1) rfl rfl (fun _ => by omega)) ?_
      refine SL.pure rfl rfl rfl (PureOp.move rfl) ?_
      refine SL.nil ?_
      refine QX.round 0 (a + 1) ⟨(by first | omega | (dsimp only; omega)), by first | omega | (dsimp only; omega)⟩ ⟨rfl, rfl, rfl, rfl, rfl, rfl, rfl, rfl, rfl, rfl, rfl, rfl, rfl, rfl, rfl, rfl, rfl, rfl, rfl, rfl, rfl, rfl, rfl, rfl, trivial⟩ rfl
    · try simp only [Bool.and_eq_true, Bool.or_eq_true, Bool.not_eq_true', Bool.not_eq_false', Bool.and_eq_false_iff, Bool.or_eq_false_iff, decide_eq_true_eq, decide_eq_false_iff_not, Int.not_lt, Int.not_le, ne_eq, Decidable.not_not] at h2
      have e_ : a = l.length := by omega
      subst e_
      refine WC.exit ?_
      refine QX.exit_then ?_
      refine QX.exit_then ?_
      refine QX.exit_hit ?_
      refine QX.then_ ?_
      refine WC.seq ?_
      refine WC.seq ?_
      refine WC.region ?_
      refine SL.pure rfl rfl rfl (PureOp.move rfl) ?_
      refine SL.pure rfl rfl rfl (PureOp.gtr rfl rfl) ?_
      refine SL.nil_then ?_
      refine WC.cond rfl (fun h3 => ?_) (fun h3 => ?_)
      · try simp only [Bool.and_eq_true, Bool.or_eq_true, Bool.not_eq_true', Bool.not_eq_false', Bool.and_eq_false_iff, Bool.or_eq_false_iff, decide_eq_true_eq, decide_eq_false_iff_not, Int.not_lt, Int.not_le, ne_eq, Decidable.not_not] at h3
        refine WC.seq ?_
        refine WC.region ?_
        refine SL.pure rfl rfl rfl (PureOp.assign rfl) ?_
        refine SL.nil_then ?_
        refine WC.ret ?_
        refine QX.ret_then ?_
        refine QX.ret1 rfl rfl ?_
        intro w hw
        rw [rchk_size (.inr (.inr h3))]
      · try simp only [Bool.and_eq_true, Bool.or_eq_true, Bool.not_eq_true', Bool.not_eq_false', Bool.and_eq_false_iff, Bool.or_eq_false_iff, decide_eq_true_eq, decide_eq_false_iff_not, Int.not_lt, Int.not_le, ne_eq, Decidable.not_not] at h3
        refine WC.skip ?_
        refine QX.then_ ?_
        refine WC.seq ?_
        refine WC.seq ?_
        refine WC.region ?_
        refine SL.pure rfl rfl rfl (PureOp.move rfl) ?_
        refine SL.pure rfl rfl rfl (PureOp.len rfl Try.underlying29) ?_
        refine SL.pure rfl rfl rfl (PureOp.move rfl) ?_
        refine SL.nil_then ?_
        refine WC.block ?_
        refine WC.loop (σ := Nat) (fun q_ => [(0, 0, .slice la m lc), (1, 0, .slice ca q cc), (5, 0, .int .i64 (wayW l l.length)), (14, 0, .slice la m lc), (15, 0, .int .i64 ((m : Nat) : Int)), (16, 0, .bool (decide (60 < ((m : Nat) : Int)))), (17, 0, .bool (decide (60 < ((m : Nat) : Int)))), (21, 0, .bool ((decide (60 < ((m : Nat) : Int))) || (decide (60 < ((q : Nat) : Int))))), (22, 0, .slice la m lc), (23, 0, .int .i64 ((m : Nat) : Int)), (24, 0, .int .i64 ((l.length : Nat) : Int)), (25, 0, .bool (decide (((l.length : Nat) : Int) < ((m : Nat) : Int)))), (34, 0, .int .i64 (wayW l l.length)), (35, 0, .bool (decide (1024 < wayW l l.length))), (36, 0, .slice ca q cc), (37, 0, .int .i64 ((q : Nat) : Int)), (38, 0, .int .i64 ((q_ : Nat) : Int))]) (fun q_ => []) (fun q_ => q_ ≤ q ∧ allK (cpB c) q_ = true) (fun q_ => q - q_) 0 (0) (⟨Nat.zero_le _, rfl⟩) ⟨rfl, rfl, rfl, rfl, rfl, rfl, rfl, rfl, rfl, rfl, rfl, rfl, rfl, rfl, rfl, rfl, rfl, rfl, rfl, rfl, rfl, rfl, rfl, rfl, rfl, rfl, rfl, rfl, rfl, rfl, rfl, rfl, rfl, rfl, trivial⟩ rfl ?_
        rintro b ⟨hb, hz1⟩
        refine WC.seq ?_
        refine WC.region ?_
        refine SL.pure rfl rfl rfl (PureOp.lss rfl rfl) ?_
        refine SL.nil_then ?_
        refine WC.seq ?_
        refine WC.cond rfl (fun h4 => ?_) (fun h4 => ?_)
        · try simp only [Bool.and_eq_true, Bool.or_eq_true, Bool.not_eq_true', Bool.not_eq_false', Bool.and_eq_false_iff, Bool.or_eq_false_iff, decide_eq_true_eq, decide_eq_false_iff_not, Int.not_lt, Int.not_le, ne_eq, Decidable.not_not] at h4
          refine WC.skip ?_
          refine QX.then_ ?_
          refine WC.seq ?_
          refine WC.block ?_
          refine WC.seq ?_
          refine WC.region ?_
          refine SL.pure rfl rfl rfl (PureOp.indexAddrN Try.underlying29 sz3 rfl rfl (AoOk.in_ sC) (fun _ => by omega)) ?_
          refine SL.pure rfl rfl rfl (PureOp.load (v := .int .i64 (nth c b)) Try.underlying3 rfl rfl (fun _ => (CellIs.in_ sC b 0 (by omega) (by omega)))) ?_
          refine SL.pure rfl rfl rfl (PureOp.assign rfl) ?_
          refine SL.nil_then ?_
          refine WC.seq ?_
          refine WC.region ?_
          refine SL.pure rfl rfl rfl (PureOp.move rfl) ?_
          refine SL.calle rfl rfl rfl rfl rfl rfl callable50 (fun w hw => wi_ok w (nth c b) 0 999) ?_
          refine SL.norm [] rfl ?_
          refine SL.pure rfl rfl rfl (PureOp.not rfl) ?_
          refine SL.nil_then ?_
          refine WC.cond rfl (fun h5 => ?_) (fun h5 => ?_)
          · try simp only [Bool.and_eq_true, Bool.or_eq_true, Bool.not_eq_true', Bool.not_eq_false', Bool.and_eq_false_iff, Bool.or_eq_false_iff, decide_eq_true_eq, decide_eq_false_iff_not, Int.not_lt, Int.not_le, ne_eq, Decidable.not_not] at h5
            refine WC.seq ?_
            refine WC.region ?_
            refine SL.pure rfl rfl rfl (PureOp.assign rfl) ?_
            refine SL.nil_then ?_
            refine WC.ret ?_
            refine QX.ret_in ?_
            refine QX.ret_then ?_
            refine QX.ret_then ?_
            refine QX.ret_in ?_
            refine QX.ret_then ?_
            refine QX.ret1 rfl rfl ?_
            intro w hw
            rw [rchk_cap (k := b) (by omega) (by omega) (by simpa [cpB] using h5)]
          · try simp only [Bool.and_eq_true, Bool.or_eq_true, Bool.not_eq_true', Bool.not_eq_false', Bool.and_eq_false_iff, Bool.or_eq_false_iff, decide_eq_true_eq, decide_eq_false_iff_not, Int.not_lt, Int.not_le, ne_eq, Decidable.not_not] at h5
            refine WC.skip ?_
            refine QX.normal_in ?_
            refine QX.then_ ?_
            refine WC.region ?_
            refine SL.pure rfl rfl rfl (PureOp.addN (k := 1) rfl rfl (fun _ => by omega)) ?_
            refine SL.pure rfl rfl rfl (PureOp.move rfl) ?_
            refine SL.nil ?_
            refine QX.round 0 (b + 1) ⟨⟨(by first | omega | (dsimp only; omega)), allK_next hz1 (by simpa [cpB] using h5)⟩, by first | omega | (dsimp only; omega)⟩ ⟨rfl, rfl, rfl, rfl, rfl, rfl, rfl, rfl, rfl, rfl, rfl, rfl, rfl, rfl, rfl, rfl, rfl, rfl, rfl, rfl, rfl, rfl, rfl, rfl, rfl, rfl, rfl, rfl, rfl, rfl, rfl, rfl, rfl, rfl, trivial⟩ rfl
        · try simp only [Bool.and_eq_true, Bool.or_eq_true, Bool.not_eq_true', Bool.not_eq_false', Bool.and_eq_false_iff, Bool.or_eq_false_iff, decide_eq_true_eq, decide_eq_false_iff_not, Int.not_lt, Int.not_le, ne_eq, Decidable.not_not] at h4
          refine WC.exit ?_
          refine QX.exit_then ?_
          refine QX.exit_then ?_
          refine QX.exit_hit ?_
          refine QX.then_ ?_
          refine WC.seq ?_
          refine WC.seq ?_
          refine WC.region ?_
          refine SL.pure rfl rfl rfl (PureOp.move rfl) ?_
          refine SL.pure rfl rfl rfl (PureOp.len rfl Try.underlying43) ?_
          refine SL.pure rfl rfl rfl (PureOp.move rfl) ?_
          refine SL.nil_then ?_
          refine WC.block ?_
          refine WC.loop (σ := Nat) (fun q_ => [(0, 0, .slice la m lc), (1, 0, .slice ca q cc), (5, 0, .int .i64 (wayW l l.length)), (14, 0, .slice la m lc), (15, 0, .int .i64 ((m : Nat) : Int)), (16, 0, .bool (decide (60 < ((m : Nat) : Int)))), (17, 0, .bool (decide (60 < ((m : Nat) : Int)))), (21, 0, .bool ((decide (60 < ((m : Nat) : Int))) || (decide (60 < ((q : Nat) : Int))))), (22, 0, .slice la m lc), (23, 0, .int .i64 ((m : Nat) : Int)), (24, 0, .int .i64 ((l.length : Nat) : Int)), (25, 0, .bool (decide (((l.length : Nat) : Int) < ((m : Nat) : Int)))), (34, 0, .int .i64 (wayW l l.length)), (35, 0, .bool (decide (1024 < wayW l l.length))), (36, 0, .slice ca q cc), (37, 0, .int .i64 ((q : Nat) : Int)), (38, 0, .int .i64 ((b : Nat) : Int)), (39, 0, .bool (decide (((b : Nat) : Int) < ((q : Nat) : Int)))), (46, 0, .slice la m lc), (47, 0, .int .i64 ((m : Nat) : Int)), (48, 0, .int .i64 ((q_ : Nat) : Int))]) (fun q_ => []) (fun q_ => q_ ≤ m ∧ allK (paB q l) q_ = true) (fun q_ => m - q_) 0 (0) (⟨Nat.zero_le _, rfl⟩) ⟨rfl, rfl, rfl, rfl, rfl, rfl, rfl, rfl, rfl, rfl, rfl, rfl, rfl, rfl, rfl, rfl, rfl, rfl, rfl, rfl, rfl, rfl, rfl, rfl, rfl, rfl, rfl, rfl, rfl, rfl, rfl, rfl, rfl, rfl, rfl, rfl, rfl, rfl, rfl, rfl, rfl, rfl, trivial⟩ rfl ?_
          rintro k ⟨hk, hz2⟩
          refine WC.seq ?_
          refine WC.region ?_
          refine SL.pure rfl rfl rfl (PureOp.lss rfl rfl) ?_
          refine SL.nil_then ?_
          refine WC.seq ?_
          refine WC.cond rfl (fun h6 => ?_) (fun h6 => ?_)
          · try simp only [Bool.and_eq_true, Bool.or_eq_true, Bool.not_eq_true', Bool.not_eq_false', Bool.and_eq_false_iff, Bool.or_eq_false_iff, decide_eq_true_eq, decide_eq_false_iff_not, Int.not_lt, Int.not_le, ne_eq, Decidable.not_not] at h6
            have hIk := hIb k (by omega)
            refine WC.skip ?_
            refine QX.then_ ?_
            refine WC.seq ?_
            refine WC.block ?_
            refine WC.seq ?_
            refine WC.region ?_
            refine SL.pure rfl rfl rfl (PureOp.indexAddrN Try.underlying43 sz55 rfl rfl (AoOk.in_ sL) (fun _ => by omega)) ?_
            refine SL.pure rfl rfl rfl (PureOp.loads (vs := [.int .i64 ((nth l k).1), .int .i64 ((nth l k).2.1), .slice ((nth l k).2.2.ao) ((nth l k).2.2.l.length) ((nth l k).2.2.cap)]) Try.underlying55 rfl rfl (fun _ => (RowIs.in_ sL k 0 3 (by omega) (by omega))) sz55) ?_
            refine SL.alloc rfl rfl zero55 (fun b2 hb2 => ?_)
            refine SL.norm [_] rfl ?_
            refine SL.store 0 rfl rfl rfl rfl sz55 rfl rfl ?_
            refine SL.norm [_] rfl ?_
            refine SL.nil_then ?_
            refine WC.seq ?_
            refine WC.seq ?_
            refine WC.region ?_
            refine SL.pure rfl rfl rfl (PureOp.fieldAddrT 0 Try.underlying55 rfl sz3 rfl rfl) ?_
            refine SL.pure rfl rfl rfl (PureOp.load (v := .int .i64 ((nth l k).1)) Try.underlying3 rfl rfl (fun _ => (CellIs.cells 0 rfl rfl))) ?_
            refine SL.calle rfl rfl rfl rfl rfl rfl callable50 (fun w hw => wi_ok w ((nth l k).1) 1 99) ?_
            refine SL.norm [_] rfl ?_
            refine SL.pure rfl rfl rfl (PureOp.not rfl) ?_
            refine SL.pure rfl rfl rfl (PureOp.move rfl) ?_
            refine SL.newg 56 false rfl ?_
            refine SL.gpure (c := 1) rfl rfl rfl rfl rfl rfl rfl (PureOp.fieldAddrT 1 Try.underlying55 rfl sz3 rfl rfl) ?_
            refine SL.gpure (c := 1) rfl rfl rfl rfl rfl rfl rfl (PureOp.load (v := .int .i64 ((nth l k).2.1)) Try.underlying3 rfl rfl (fun _ => (CellIs.cells 0 rfl rfl))) ?_
            refine SL.gcalle (c := 1) rfl rfl rfl rfl rfl rfl rfl rfl rfl rfl callable50 (by intro hg; simp [gval] at hg; exact (fun w hw => wi_ok w ((nth l k).2.1) 0 1000)) ?_
            refine SL.norm [_] rfl ?_
            refine SL.gpure (c := 1) rfl rfl rfl rfl rfl rfl rfl (PureOp.not rfl) ?_
            refine SL.pure rfl rfl rfl (PureOp.or_ rfl rfl rfl rfl) ?_
            refine SL.nil_then ?_
            refine WC.cond rfl (fun h7 => ?_) (fun h7 => ?_)
            · try simp only [Bool.and_eq_true, Bool.or_eq_true, Bool.not_eq_true', Bool.not_eq_false', Bool.and_eq_false_iff, Bool.or_eq_false_iff, decide_eq_true_eq, decide_eq_false_iff_not, Int.not_lt, Int.not_le, ne_eq, Decidable.not_not] at h7
              refine WC.seq ?_
              refine WC.region ?_
              refine SL.pure rfl rfl rfl (PureOp.assign rfl) ?_
              refine SL.nil_then ?_
              refine WC.ret ?_
              refine QX.ret_then ?_
              refine QX.ret_in ?_
              refine QX.ret_then ?_
              refine QX.ret_then ?_
              refine QX.ret_in ?_
              refine QX.ret_then ?_
              refine QX.ret1 rfl rfl ?_
              intro w hw
              rw [rchk_pa (k := k) (by omega) (by omega) (paB_no1 (by simp_all))]
            · try simp only [Bool.and_eq_true, Bool.or_eq_true, Bool.not_eq_true', Bool.not_eq_false', Bool.and_eq_false_iff, Bool.or_eq_false_iff, decide_eq_true_eq, decide_eq_false_iff_not, Int.not_lt, Int.not_le, ne_eq, Decidable.not_not] at h7
              refine WC.skip ?_
              refine QX.then_ ?_
              refine WC.seq ?_
              refine WC.region ?_
              refine SL.pure rfl rfl rfl (PureOp.fieldAddrT 2 Try.underlying55 rfl sz53 rfl rfl) ?_
              refine SL.pure rfl rfl rfl (PureOp.load (v := .slice ((nth l k).2.2.ao) ((nth l k).2.2.l.length) ((nth l k).2.2.cap)) Try.underlying53 rfl rfl (fun _ => (CellIs.cells 0 rfl rfl))) ?_
              refine SL.pure rfl rfl rfl (PureOp.len rfl Try.underlying53) ?_
              refine SL.pure rfl rfl rfl (PureOp.move rfl) ?_
              refine SL.nil_then ?_
              refine WC.block ?_
              refine WC.loop (σ := Nat) (fun q_ => [(0, 0, .slice la m lc), (1, 0, .slice ca q cc), (5, 0, .int .i64 (wayW l l.length)), (11, 0, .pointer (some ⟨b2, 0, none⟩)), (14, 0, .slice la m lc), (15, 0, .int .i64 ((m : Nat) : Int)), (16, 0, .bool (decide (60 < ((m : Nat) : Int)))), (17, 0, .bool (decide (60 < ((m : Nat) : Int)))), (21, 0, .bool ((decide (60 < ((m : Nat) : Int))) || (decide (60 < ((q : Nat) : Int))))), (22, 0, .slice la m lc), (23, 0, .int .i64 ((m : Nat) : Int)), (24, 0, .int .i64 ((l.length : Nat) : Int)), (25, 0, .bool (decide (((l.length : Nat) : Int) < ((m : Nat) : Int)))), (34, 0, .int .i64 (wayW l l.length)), (35, 0, .bool (decide (1024 < wayW l l.length))), (36, 0, .slice ca q cc), (37, 0, .int .i64 ((q : Nat) : Int)), (38, 0, .int .i64 ((b : Nat) : Int)), (39, 0, .bool (decide (((b : Nat) : Int) < ((q : Nat) : Int)))), (46, 0, .slice la m lc), (47, 0, .int .i64 ((m : Nat) : Int)), (48, 0, .int .i64 ((k : Nat) : Int)), (49, 0, .bool (decide (((k : Nat) : Int) < ((m : Nat) : Int)))), (50, 0, .pointer (some ⟨blk la, off la + k * 3, none⟩)), (51, 0, .agg #[.int .i64 ((nth l k).1), .int .i64 ((nth l k).2.1), .slice ((nth l k).2.2.ao) ((nth l k).2.2.l.length) ((nth l k).2.2.cap)]), (52, 0, .pointer (some ⟨b2, 0, none⟩)), (53, 0, .int .i64 ((nth l k).1)), (54, 0, .bool (wiB ((nth l k).1) 1 99)), (55, 0, .bool (!(wiB ((nth l k).1) 1 99))), (56, 0, .bool (!(wiB ((nth l k).1) 1 99))), (61, 0, .bool ((!(wiB ((nth l k).1) 1 99)) || (!(wiB ((nth l k).2.1) 0 1000)))), (62, 0, .pointer (some ⟨b2, 2, none⟩)), (63, 0, .slice ((nth l k).2.2.ao) ((nth l k).2.2.l.length) ((nth l k).2.2.cap)), (64, 0, .int .i64 (((nth l k).2.2.l.length : Nat) : Int)), (65, 0, .int .i64 ((q_ : Nat) : Int))]) (fun q_ => []) (fun q_ => q_ ≤ (nth l k).2.2.l.length ∧ allK (wyB q (nth l k).2.2.l) q_ = true) (fun q_ => (nth l k).2.2.l.length - q_) 0 (0) (⟨Nat.zero_le _, rfl⟩) ⟨rfl, rfl, rfl, rfl, rfl, rfl, rfl, rfl, rfl, rfl, rfl, rfl, rfl, rfl, rfl, rfl, rfl, rfl, rfl, rfl, rfl, rfl, rfl, rfl, rfl, rfl, rfl, rfl, rfl, rfl, rfl, rfl, rfl, rfl, rfl, rfl, rfl, rfl, rfl, rfl, rfl, rfl, rfl, rfl, rfl, rfl, rfl, rfl, rfl, rfl, rfl, rfl, rfl, rfl, rfl, rfl, rfl, rfl, rfl, rfl, rfl, rfl, rfl, rfl, rfl, rfl, rfl, rfl, rfl, rfl, trivial⟩ rfl ?_
              rintro j ⟨hj, hz3⟩
              refine WC.seq ?_
              refine WC.region ?_
              refine SL.pure rfl rfl rfl (PureOp.lss rfl rfl) ?_
              refine SL.nil_then ?_
              refine WC.seq ?_
              refine WC.cond rfl (fun h8 => ?_) (fun h8 => ?_)
              · try simp only [Bool.and_eq_true, Bool.or_eq_true, Bool.not_eq_true', Bool.not_eq_false', Bool.and_eq_false_iff, Bool.or_eq_false_iff, decide_eq_true_eq, decide_eq_false_iff_not, Int.not_lt, Int.not_le, ne_eq, Decidable.not_not] at h8
                refine WC.skip ?_
                refine QX.then_ ?_
                refine WC.seq ?_
                refine WC.block ?_
                refine WC.seq ?_
                refine WC.region ?_
                refine SL.pure rfl rfl rfl (PureOp.indexAddrN Try.underlying53 sz77 rfl rfl (AoOk.any (fun w hw => (hI k (by omega)).below hw.below)) (fun _ => by omega)) ?_
                refine SL.pure rfl rfl rfl (PureOp.loads (vs := [.int .i64 ((nth ((nth l k).2.2.l) j).1), .int .i64 ((nth ((nth l k).2.2.l) j).2)]) Try.underlying77 rfl rfl (fun _ => (RowIs.any (fun w hw => (hI k (by omega)).below hw.below) j 0 2 (by omega) (by omega))) sz77) ?_
                refine SL.alloc rfl rfl zero77 (fun b3 hb3 => ?_)
                refine SL.norm [_] rfl ?_
                refine SL.store 0 rfl rfl rfl rfl sz77 rfl rfl ?_
                refine SL.norm [_] rfl ?_
                refine SL.nil_then ?_
                refine WC.seq ?_
                refine WC.region ?_
                refine SL.pure rfl rfl rfl (PureOp.fieldAddrT 0 Try.underlying77 rfl sz3 rfl rfl) ?_
                refine SL.pure rfl rfl rfl (PureOp.load (v := .int .i64 ((nth ((nth l k).2.2.l) j).1)) Try.underlying3 rfl rfl (fun _ => (CellIs.cells 0 rfl rfl))) ?_
                refine SL.pure rfl rfl rfl (PureOp.move rfl) ?_
                refine SL.pure rfl rfl rfl (PureOp.len rfl Try.underlying29) ?_
                refine SL.pure rfl rfl rfl (PureOp.sub rfl rfl (fun _ => by omega)) ?_
                refine SL.calle rfl rfl rfl rfl rfl rfl callable50 (fun w hw => wi_ok w ((nth ((nth l k).2.2.l) j).1) 0 (((q : Nat) : Int) - 1)) ?_
                refine SL.norm [_] rfl ?_
                refine SL.pure rfl rfl rfl (PureOp.not rfl) ?_
                refine SL.pure rfl rfl rfl (PureOp.move rfl) ?_
                refine SL.newg 76 false rfl ?_
                refine SL.gpure (c := 1) rfl rfl rfl rfl rfl rfl rfl (PureOp.fieldAddrT 1 Try.underlying77 rfl sz3 rfl rfl) ?_
                refine SL.gpure (c := 1) rfl rfl rfl rfl rfl rfl rfl (PureOp.load (v := .int .i64 ((nth ((nth l k).2.2.l) j).2)) Try.underlying3 rfl rfl (fun _ => (CellIs.cells 0 rfl rfl))) ?_
                refine SL.gcalle (c := 1) rfl rfl rfl rfl rfl rfl rfl rfl rfl rfl callable50 (by intro hg; simp [gval] at hg; exact (fun w hw => wi_ok w ((nth ((nth l k).2.2.l) j).2) 0 10000)) ?_
                refine SL.norm [_] rfl ?_
                refine SL.gpure (c := 1) rfl rfl rfl rfl rfl rfl rfl (PureOp.not rfl) ?_
                refine SL.pure rfl rfl rfl (PureOp.or_ rfl rfl rfl rfl) ?_
                refine SL.nil_then ?_
                refine WC.cond rfl (fun h9 => ?_) (fun h9 => ?_)
                · try simp only [Bool.and_eq_true, Bool.or_eq_true, Bool.not_eq_true', Bool.not_eq_false', Bool.and_eq_false_iff, Bool.or_eq_false_iff, decide_eq_true_eq, decide_eq_false_iff_not, Int.not_lt, Int.not_le, ne_eq, Decidable.not_not] at h9
                  refine WC.seq ?_
                  refine WC.region ?_
                  refine SL.pure rfl rfl rfl (PureOp.assign rfl) ?_
                  refine SL.nil_then ?_
                  refine WC.ret ?_
                  refine QX.ret_in ?_
                  refine QX.ret_then ?_
                  refine QX.ret_then ?_
                  refine QX.ret_in ?_
                  refine QX.ret_in ?_
                  refine QX.ret_then ?_
                  refine QX.ret_then ?_
                  refine QX.ret_in ?_
                  refine QX.ret_then ?_
                  refine QX.ret1 rfl rfl ?_
                  intro w hw
                  rw [rchk_pa (k := k) (by omega) (by omega) (paB_no2 (j := j) (by omega) (by rw [← hq]; simp_all [wyB]; intro e; simp_all))]
                · try simp only [Bool.and_eq_true, Bool.or_eq_true, Bool.not_eq_true', Bool.not_eq_false', Bool.and_eq_false_iff, Bool.or_eq_false_iff, decide_eq_true_eq, decide_eq_false_iff_not, Int.not_lt, Int.not_le, ne_eq, Decidable.not_not] at h9
                  refine WC.skip ?_
                  refine QX.normal_in ?_
                  refine QX.then_ ?_
                  refine WC.region ?_
                  refine SL.pure rfl rfl rfl (PureOp.addN (k := 1) rfl rfl (fun _ => by omega)) ?_
                  refine SL.pure rfl rfl rfl (PureOp.move rfl) ?_
                  refine SL.nil ?_
                  refine QX.round 0 (j + 1) ⟨⟨(by first | omega | (dsimp only; omega)), allK_next hz3 (by simp_all [wyB])⟩, by first | omega | (dsimp only; omega)⟩ ⟨rfl, rfl, rfl, rfl, rfl, rfl, rfl, rfl, rfl, rfl, rfl, rfl, rfl, rfl, rfl, rfl, rfl, rfl, rfl, rfl, rfl, rfl, rfl, rfl, rfl, rfl, rfl, rfl, rfl, rfl, rfl, rfl, rfl, rfl, rfl, rfl, rfl, rfl, rfl, rfl, rfl, rfl, rfl, rfl, rfl, rfl, rfl, rfl, rfl, rfl, rfl, rfl, rfl, rfl, rfl, rfl, rfl, rfl, rfl, rfl, rfl, rfl, rfl, rfl, rfl, rfl, rfl, rfl, rfl, rfl, trivial⟩ rfl
              · try simp only [Bool.and_eq_true, Bool.or_eq_true, Bool.not_eq_true', Bool.not_eq_false', Bool.and_eq_false_iff, Bool.or_eq_false_iff, decide_eq_true_eq, decide_eq_false_iff_not, Int.not_lt, Int.not_le, ne_eq, Decidable.not_not] at h8
                refine WC.exit ?_
                refine QX.exit_then ?_
                refine QX.exit_then ?_
                refine QX.exit_hit ?_
                refine QX.normal_in ?_
                refine QX.then_ ?_
                refine WC.region ?_
                refine SL.pure rfl rfl rfl (PureOp.addN (k := 1) rfl rfl (fun _ => by omega)) ?_
                refine SL.pure rfl rfl rfl (PureOp.move rfl) ?_
                refine SL.nil ?_
                refine QX.round 0 (k + 1) ⟨⟨(by first | omega | (dsimp only; omega)), allK_next hz2 (paB_yes (by simp_all) (by simp_all) (by rw [show (nth l k).2.2.l.length = j from by omega]; exact hz3))⟩, by first | omega | (dsimp only; omega)⟩ ⟨rfl, rfl, rfl, rfl, rfl, rfl, rfl, rfl, rfl, rfl, rfl, rfl, rfl, rfl, rfl, rfl, rfl, rfl, rfl, rfl, rfl, rfl, rfl, rfl, rfl, rfl, rfl, rfl, rfl, rfl, rfl, rfl, rfl, rfl, rfl, rfl, rfl, rfl, rfl, rfl, rfl, rfl, trivial⟩ rfl
          · try simp only [Bool.and_eq_true, Bool.or_eq_true, Bool.not_eq_true', Bool.not_eq_false', Bool.and_eq_false_iff, Bool.or_eq_false_iff, decide_eq_true_eq, decide_eq_false_iff_not, Int.not_lt, Int.not_le, ne_eq, Decidable.not_not] at h6
            refine WC.exit ?_
            refine QX.exit_then ?_
            refine QX.exit_then ?_
            refine QX.exit_hit ?_
            refine QX.then_ ?_
            refine WC.seq ?_
            refine WC.region ?_
            refine SL.pure rfl rfl rfl (PureOp.assign rfl) ?_
            refine SL.nil_then ?_
            refine WC.ret ?_
            refine QX.ret1 rfl rfl ?_
            intro w hw
            rw [rchk_ok (by omega) (by rw [← hq, show q = b from by omega]; exact hz1) (by rw [← hq, ← hm, show m = k from by omega]; exact hz2)]

set_option maxHeartbeats 4000000 in
set_option maxRecDepth 100000 in
theorem rcheck52_ok (w0 : World) (l : List Pa) (la : Option Addr) (m lc : Nat) (hm : m = l.length) (hI : ∀ i, i < m → SliceIn w0 2 (nth l i).2.2.ao (nth l i).2.2.l.length (nth l i).2.2.cap (rowsF enc77 (nth l i).2.2.l)) (sL : SliceIn w0 3 la m lc (rowsF enc55 l)) (c : List Int) (ca : Option Addr) (q cc : Nat) (hq : q = c.length) (sC : SliceIn w0 1 ca q cc (rowsF encI c)) : FnC Try.prog 30 [.slice la m lc, .slice ca q cc] w0 fun v w' => v = .int .i64 (rchk l c) := by
  have hmB : (m : Int) ≤ 9223372036854775807 := by
    have h1 := sL.le; have h2 := sL.max; simp only [maxLen] at h2; omega
  have hIb : ∀ i, i < m → ((nth l i).2.2.l.length : Int) ≤ 9223372036854775807 := fun i hi => by
    have h1 := (hI i hi).le; have h2 := (hI i hi).max; simp only [maxLen] at h2; omega
  refine fnc (N := 114) Try.func30 rfl rfl rfl ?_
  refine WC.seq ?_
  refine WC.region ?_
  refine SL.pure rfl rfl rfl (PureOp.assign rfl) ?_
  refine SL.nil_then ?_
  refine WC.seq ?_
  refine WC.seq ?_
  refine WC.region ?_
  refine SL.pure rfl rfl rfl (PureOp.move rfl) ?_
  refine SL.pure rfl rfl rfl (PureOp.len rfl Try.underlying43) ?_
  refine SL.pure rfl rfl rfl (PureOp.gtr rfl rfl) ?_
  refine SL.pure rfl rfl rfl (PureOp.move rfl) ?_
  refine SL.newg 12 false rfl ?_
  refine SL.gpure (c := 1) rfl rfl rfl rfl rfl rfl rfl (PureOp.move rfl) ?_
  refine SL.gpure (c := 1) rfl rfl rfl rfl rfl rfl rfl (PureOp.len rfl Try.underlying29) ?_
  refine SL.gpure (c := 1) rfl rfl rfl rfl rfl rfl rfl (PureOp.gtr rfl rfl) ?_
  refine SL.pure rfl rfl rfl (PureOp.or_ rfl rfl rfl rfl) ?_
  refine SL.pure rfl rfl rfl (PureOp.move rfl) ?_
  refine SL.newg 17 false rfl ?_
  refine SL.gpure (c := 2) rfl rfl rfl rfl rfl rfl rfl (PureOp.move rfl) ?_
  refine SL.gcalle (c := 2) rfl rfl rfl rfl rfl rfl rfl rfl rfl rfl callable51 (by intro hg; simp [gval] at hg; exact (fun w hw => rways_ok w l la m lc hm (fun i hi => (hI i hi).below hw.below) (sL.below hw.below))) ?_
  refine SL.norm [] rfl ?_
  refine SL.gpure (c := 2) rfl rfl rfl rfl rfl rfl rfl (PureOp.gtr rfl rfl) ?_
  refine SL.pure rfl rfl rfl (PureOp.or_ rfl rfl rfl rfl) ?_
  refine SL.nil_then ?_
  refine WC.cond rfl (fun h1 => ?_) (fun h1 => ?_)
  · try simp only [Bool.and_eq_true, Bool.or_eq_true, Bool.not_eq_true', Bool.not_eq_false', Bool.and_eq_false_iff, Bool.or_eq_false_iff, decide_eq_true_eq, decide_eq_false_iff_not, Int.not_lt, Int.not_le, ne_eq, Decidable.not_not] at h1
    refine WC.seq ?_
    refine WC.region ?_
    refine SL.pure rfl rfl rfl (PureOp.assign rfl) ?_
    refine SL.nil_then ?_
    refine WC.ret ?_
    refine QX.ret_then ?_
    refine QX.ret1 rfl rfl ?_
    intro w hw
    rw [rchk_size (by omega)]
  · try simp only [Bool.and_eq_true, Bool.or_eq_true, Bool.not_eq_true', Bool.not_eq_false', Bool.and_eq_false_iff, Bool.or_eq_false_iff, decide_eq_true_eq, decide_eq_false_iff_not, Int.not_lt, Int.not_le, ne_eq, Decidable.not_not] at h1
    refine WC.skip ?_
    refine QX.then_ ?_
    refine WC.seq ?_
    refine WC.seq ?_
    refine WC.region ?_
    refine SL.pure rfl rfl rfl (PureOp.assign rfl) ?_
    refine SL.nil_then ?_
    refine WC.block ?_
    refine WC.loop (σ := Nat) (fun q_ => [(0, 0, .slice la m lc), (1, 0, .slice ca q cc), (9, 0, .slice la m lc), (10, 0, .int .i64 ((m : Nat) : Int)), (11, 0, .bool (decide (60 < ((m : Nat) : Int)))), (12, 0, .bool (decide (60 < ((m : Nat) : Int)))), (16, 0, .bool ((decide (60 < ((m : Nat) : Int))) || (decide (60 < ((q : Nat) : Int))))), (17, 0, .bool ((decide (60 < ((m : Nat) : Int))) || (decide (60 < ((q : Nat) : Int))))), (21, 0, .bool (((decide (60 < ((m : Nat) : Int))) || (decide (60 < ((q : Nat) : Int)))) || (decide (1024 < wayW l l.length)))), (5, 0, .int .i64 ((q_ : Nat) : Int))]) (fun q_ => []) (fun q_ => q_ ≤ q ∧ allK (cpB c) q_ = true) (fun q_ => q - q_) 0 (0) (⟨Nat.zero_le _, rfl⟩) ⟨rfl, rfl, rfl, rfl, rfl, rfl, rfl, rfl, rfl, rfl, rfl, rfl, rfl, rfl, rfl, rfl, rfl, rfl, rfl, rfl, trivial⟩ rfl ?_
    rintro b ⟨hb, hz1⟩
    refine WC.seq ?_
    refine WC.seq ?_
    refine WC.region ?_
    refine SL.pure rfl rfl rfl (PureOp.move rfl) ?_
    refine SL.pure rfl rfl rfl (PureOp.move rfl) ?_
    refine SL.pure rfl rfl rfl (PureOp.len rfl Try.underlying29) ?_
    refine SL.pure rfl rfl rfl (PureOp.lss rfl rfl) ?_
    refine SL.nil_then ?_
    refine WC.cond rfl (fun h2 => ?_) (fun h2 => ?_)
    · try simp only [Bool.and_eq_true, Bool.or_eq_true, Bool.not_eq_true', Bool.not_eq_false', Bool.and_eq_false_iff, Bool.or_eq_false_iff, decide_eq_true_eq, decide_eq_false_iff_not, Int.not_lt, Int.not_le, ne_eq, Decidable.not_not] at h2
      refine WC.skip ?_
      refine QX.then_ ?_
      refine WC.seq ?_
      refine WC.block ?_
      refine WC.seq ?_
      refine WC.region ?_
      refine SL.pure rfl rfl rfl (PureOp.move rfl) ?_
      refine SL.pure rfl rfl rfl (PureOp.move rfl) ?_
      refine SL.pure rfl rfl rfl (PureOp.indexAddrN Try.underlying29 sz3 rfl rfl (AoOk.in_ sC) (fun _ => by omega)) ?_
      refine SL.pure rfl rfl rfl (PureOp.load (v := .int .i64 (nth c b)) Try.underlying3 rfl rfl (fun _ => (CellIs.in_ sC b 0 (by omega) (by omega)))) ?_
      refine SL.pure rfl rfl rfl (PureOp.lss rfl rfl) ?_
      refine SL.pure rfl rfl rfl (PureOp.move rfl) ?_
      refine SL.newg 33 false rfl ?_
      refine SL.gpure (c := 1) rfl rfl rfl rfl rfl rfl rfl (PureOp.move rfl) ?_
      refine SL.gpure (c := 1) rfl rfl rfl rfl rfl rfl rfl (PureOp.move rfl) ?_
      refine SL.gpure (c := 1) rfl rfl rfl rfl rfl rfl rfl (PureOp.indexAddrN Try.underlying29 sz3 rfl rfl (AoOk.in_ sC) (by intro hg; simp [gval] at hg; omega)) ?_
      refine SL.gpure (c := 1) rfl rfl rfl rfl rfl rfl rfl (PureOp.load (v := .int .i64 (nth c b)) Try.underlying3 rfl rfl (by intro hg; simp [gval] at hg; exact (CellIs.in_ sC b 0 (by omega) (by omega)))) ?_
      refine SL.gpure (c := 1) rfl rfl rfl rfl rfl rfl rfl (PureOp.gtr rfl rfl) ?_
      refine SL.pure rfl rfl rfl (PureOp.or_ rfl rfl rfl rfl) ?_
      refine SL.nil_then ?_
      refine WC.cond rfl (fun h3 => ?_) (fun h3 => ?_)
      · try simp only [Bool.and_eq_true, Bool.or_eq_true, Bool.not_eq_true', Bool.not_eq_false', Bool.and_eq_false_iff, Bool.or_eq_false_iff, decide_eq_true_eq, decide_eq_false_iff_not, Int.not_lt, Int.not_le, ne_eq, Decidable.not_not] at h3
        refine WC.seq ?_
        refine WC.region ?_
        refine SL.pure rfl rfl rfl (PureOp.assign rfl) ?_
        refine SL.nil_then ?_
        refine WC.ret ?_
        refine QX.ret_in ?_
        refine QX.ret_then ?_
        refine QX.ret_then ?_
        refine QX.ret_in ?_
        refine QX.ret_then ?_
        refine QX.ret1 rfl rfl ?_
        intro w hw
        rw [rchk_cap (k := b) (by omega) (by omega) (wiB_not.2 (by omega))]
      · try simp only [Bool.and_eq_true, Bool.or_eq_true, Bool.not_eq_true', Bool.not_eq_false', Bool.and_eq_false_iff, Bool.or_eq_false_iff, decide_eq_true_eq, decide_eq_false_iff_not, Int.not_lt, Int.not_le, ne_eq, Decidable.not_not] at h3
        refine WC.skip ?_
        refine QX.normal_in ?_
        refine QX.then_ ?_
        refine WC.region ?_
        refine SL.pure rfl rfl rfl (PureOp.move rfl) ?_
        refine SL.pure rfl rfl rfl (PureOp.addN (k := 1) rfl rfl (fun _ => by omega)) ?_
        refine SL.pure rfl rfl rfl (PureOp.assign rfl) ?_
        refine SL.nil ?_
        refine QX.round 0 (b + 1) ⟨⟨(by first | omega | (dsimp only; omega)), allK_next hz1 (wiB_iff.2 (by omega))⟩, by first | omega | (dsimp only; omega)⟩ ⟨rfl, rfl, rfl, rfl, rfl, rfl, rfl, rfl, rfl, rfl, rfl, rfl, rfl, rfl, rfl, rfl, rfl, rfl, rfl, rfl, trivial⟩ rfl
    · try simp only [Bool.and_eq_true, Bool.or_eq_true, Bool.not_eq_true', Bool.not_eq_false', Bool.and_eq_false_iff, Bool.or_eq_false_iff, decide_eq_true_eq, decide_eq_false_iff_not, Int.not_lt, Int.not_le, ne_eq, Decidable.not_not] at h2
      refine WC.exit ?_
      refine QX.exit_then ?_
      refine QX.exit_then ?_
      refine QX.exit_hit ?_
      refine QX.then_ ?_
      refine WC.seq ?_
      refine WC.seq ?_
      refine WC.region ?_
      refine SL.pure rfl rfl rfl (PureOp.assign rfl) ?_
      refine SL.nil_then ?_
      refine WC.block ?_
      refine WC.loop (σ := Nat) (fun q_ => [(0, 0, .slice la m lc), (1, 0, .slice ca q cc), (5, 0, .int .i64 ((b : Nat) : Int)), (9, 0, .slice la m lc), (10, 0, .int .i64 ((m : Nat) : Int)), (11, 0, .bool (decide (60 < ((m : Nat) : Int)))), (12, 0, .bool (decide (60 < ((m : Nat) : Int)))), (16, 0, .bool ((decide (60 < ((m : Nat) : Int))) || (decide (60 < ((q : Nat) : Int))))), (17, 0, .bool ((decide (60 < ((m : Nat) : Int))) || (decide (60 < ((q : Nat) : Int))))), (21, 0, .bool (((decide (60 < ((m : Nat) : Int))) || (decide (60 < ((q : Nat) : Int)))) || (decide (1024 < wayW l l.length)))), (22, 0, .int .i64 ((b : Nat) : Int)), (23, 0, .slice ca q cc), (24, 0, .int .i64 ((q : Nat) : Int)), (25, 0, .bool (decide (((b : Nat) : Int) < ((q : Nat) : Int)))), (6, 0, .int .i64 ((q_ : Nat) : Int))]) (fun q_ => []) (fun q_ => q_ ≤ m ∧ allK (paB q l) q_ = true) (fun q_ => m - q_) 0 (0) (⟨Nat.zero_le _, rfl⟩) ⟨rfl, rfl, rfl, rfl, rfl, rfl, rfl, rfl, rfl, rfl, rfl, rfl, rfl, rfl, rfl, rfl, rfl, rfl, rfl, rfl, rfl, rfl, rfl, rfl, rfl, rfl, rfl, rfl, rfl, rfl, trivial⟩ rfl ?_
      rintro k ⟨hk, hz2⟩
      refine WC.seq ?_
      refine WC.seq ?_
      refine WC.region ?_
      refine SL.pure rfl rfl rfl (PureOp.move rfl) ?_
      refine SL.pure rfl rfl rfl (PureOp.move rfl) ?_
      refine SL.pure rfl rfl rfl (PureOp.len rfl Try.underlying43) ?_
      refine SL.pure rfl rfl rfl (PureOp.lss rfl rfl) ?_
      refine SL.nil_then ?_
      refine WC.cond rfl (fun h4 => ?_) (fun h4 => ?_)
      · try simp only [Bool.and_eq_true, Bool.or_eq_true, Bool.not_eq_true', Bool.not_eq_false', Bool.and_eq_false_iff, Bool.or_eq_false_iff, decide_eq_true_eq, decide_eq_false_iff_not, Int.not_lt, Int.not_le, ne_eq, Decidable.not_not] at h4
        have hIk := hIb k (by omega)
        refine WC.skip ?_
        refine QX.then_ ?_
        refine WC.seq ?_
        refine WC.block ?_
        refine WC.seq ?_
        refine WC.seq ?_
        refine WC.region ?_
        refine SL.pure rfl rfl rfl (PureOp.move rfl) ?_
        refine SL.pure rfl rfl rfl (PureOp.move rfl) ?_
        refine SL.pure rfl rfl rfl (PureOp.indexAddrN Try.underlying43 sz55 rfl rfl (AoOk.in_ sL) (fun _ => by omega)) ?_
        refine SL.pure rfl rfl rfl (PureOp.fieldAddr 0 Try.underlying55 rfl rfl sz3 rfl) ?_
        refine SL.pure rfl rfl rfl (PureOp.load (v := .int .i64 ((nth l k).1)) Try.underlying3 rfl rfl (fun _ => (CellIs.in_ sL k 0 (by omega) (by omega)))) ?_
        refine SL.pure rfl rfl rfl (PureOp.lss rfl rfl) ?_
        refine SL.pure rfl rfl rfl (PureOp.move rfl) ?_
        refine SL.newg 52 false rfl ?_
        refine SL.gpure (c := 1) rfl rfl rfl rfl rfl rfl rfl (PureOp.move rfl) ?_
        refine SL.gpure (c := 1) rfl rfl rfl rfl rfl rfl rfl (PureOp.move rfl) ?_
        refine SL.gpure (c := 1) rfl rfl rfl rfl rfl rfl rfl (PureOp.indexAddrN Try.underlying43 sz55 rfl rfl (AoOk.in_ sL) (by intro hg; simp [gval] at hg; omega)) ?_
        refine SL.gpure (c := 1) rfl rfl rfl rfl rfl rfl rfl (PureOp.fieldAddr 0 Try.underlying55 rfl rfl sz3 rfl) ?_
        refine SL.gpure (c := 1) rfl rfl rfl rfl rfl rfl rfl (PureOp.load (v := .int .i64 ((nth l k).1)) Try.underlying3 rfl rfl (by intro hg; simp [gval] at hg; exact (CellIs.in_ sL k 0 (by omega) (by omega)))) ?_
        refine SL.gpure (c := 1) rfl rfl rfl rfl rfl rfl rfl (PureOp.gtr rfl rfl) ?_
        refine SL.pure rfl rfl rfl (PureOp.or_ rfl rfl rfl rfl) ?_
        refine SL.pure rfl rfl rfl (PureOp.move rfl) ?_
        refine SL.newg 60 false rfl ?_
        refine SL.gpure (c := 2) rfl rfl rfl rfl rfl rfl rfl (PureOp.move rfl) ?_
        refine SL.gpure (c := 2) rfl rfl rfl rfl rfl rfl rfl (PureOp.move rfl) ?_
        refine SL.gpure (c := 2) rfl rfl rfl rfl rfl rfl rfl (PureOp.indexAddrN Try.underlying43 sz55 rfl rfl (AoOk.in_ sL) (by intro hg; simp [gval] at hg; omega)) ?_
        refine SL.gpure (c := 2) rfl rfl rfl rfl rfl rfl rfl (PureOp.fieldAddr 1 Try.underlying55 rfl rfl sz3 rfl) ?_
        refine SL.gpure (c := 2) rfl rfl rfl rfl rfl rfl rfl (PureOp.load (v := .int .i64 ((nth l k).2.1)) Try.underlying3 rfl rfl (by intro hg; simp [gval] at hg; exact (CellIs.in_ sL k 1 (by omega) (by omega)))) ?_
        refine SL.gpure (c := 2) rfl rfl rfl rfl rfl rfl rfl (PureOp.lss rfl rfl) ?_
        refine SL.pure rfl rfl rfl (PureOp.or_ rfl rfl rfl rfl) ?_
        refine SL.pure rfl rfl rfl (PureOp.move rfl) ?_
        refine SL.newg 68 false rfl ?_
        refine SL.gpure (c := 3) rfl rfl rfl rfl rfl rfl rfl (PureOp.move rfl) ?_
        refine SL.gpure (c := 3) rfl rfl rfl rfl rfl rfl rfl (PureOp.move rfl) ?_
        refine SL.gpure (c := 3) rfl rfl rfl rfl rfl rfl rfl (PureOp.indexAddrN Try.underlying43 sz55 rfl rfl (AoOk.in_ sL) (by intro hg; simp [gval] at hg; omega)) ?_
        refine SL.gpure (c := 3) rfl rfl rfl rfl rfl rfl rfl (PureOp.fieldAddr 1 Try.underlying55 rfl rfl sz3 rfl) ?_
        refine SL.gpure (c := 3) rfl rfl rfl rfl rfl rfl rfl (PureOp.load (v := .int .i64 ((nth l k).2.1)) Try.underlying3 rfl rfl (by intro hg; simp [gval] at hg; exact (CellIs.in_ sL k 1 (by omega) (by omega)))) ?_
        refine SL.gpure (c := 3) rfl rfl rfl rfl rfl rfl rfl (PureOp.gtr rfl rfl) ?_
        refine SL.pure rfl rfl rfl (PureOp.or_ rfl rfl rfl rfl) ?_
        refine SL.nil_then ?_
        refine WC.cond rfl (fun h5 => ?_) (fun h5 => ?_)
        · try simp only [Bool.and_eq_true, Bool.or_eq_true, Bool.not_eq_true', Bool.not_eq_false', Bool.and_eq_false_iff, Bool.or_eq_false_iff, decide_eq_true_eq, decide_eq_false_iff_not, Int.not_lt, Int.not_le, ne_eq, Decidable.not_not] at h5
          refine WC.seq ?_
          refine WC.region ?_
          refine SL.pure rfl rfl rfl (PureOp.assign rfl) ?_
          refine SL.nil_then ?_
          refine WC.ret ?_
          refine QX.ret_then ?_
          refine QX.ret_in ?_
          refine QX.ret_then ?_
          refine QX.ret_then ?_
          refine QX.ret_in ?_
          refine QX.ret_then ?_
          refine QX.ret1 rfl rfl ?_
          intro w hw
          rw [rchk_pa (k := k) (by omega) (by omega) (paB_no1 (by rw [wiB_not, wiB_not]; omega))]
        · try simp only [Bool.and_eq_true, Bool.or_eq_true, Bool.not_eq_true', Bool.not_eq_false', Bool.and_eq_false_iff, Bool.or_eq_false_iff, decide_eq_true_eq, decide_eq_false_iff_not, Int.not_lt, Int.not_le, ne_eq, Decidable.not_not] at h5
          refine WC.skip ?_
          refine QX.then_ ?_
          refine WC.seq ?_
          refine WC.region ?_
          refine SL.pure rfl rfl rfl (PureOp.assign rfl) ?_
          refine SL.nil_then ?_
          refine WC.block ?_
          refine WC.loop (σ := Nat) (fun q_ => [(0, 0, .slice la m lc), (1, 0, .slice ca q cc), (5, 0, .int .i64 ((b : Nat) : Int)), (6, 0, .int .i64 ((k : Nat) : Int)), (9, 0, .slice la m lc), (10, 0, .int .i64 ((m : Nat) : Int)), (11, 0, .bool (decide (60 < ((m : Nat) : Int)))), (12, 0, .bool (decide (60 < ((m : Nat) : Int)))), (16, 0, .bool ((decide (60 < ((m : Nat) : Int))) || (decide (60 < ((q : Nat) : Int))))), (17, 0, .bool ((decide (60 < ((m : Nat) : Int))) || (decide (60 < ((q : Nat) : Int))))), (21, 0, .bool (((decide (60 < ((m : Nat) : Int))) || (decide (60 < ((q : Nat) : Int)))) || (decide (1024 < wayW l l.length)))), (22, 0, .int .i64 ((b : Nat) : Int)), (23, 0, .slice ca q cc), (24, 0, .int .i64 ((q : Nat) : Int)), (25, 0, .bool (decide (((b : Nat) : Int) < ((q : Nat) : Int)))), (40, 0, .int .i64 ((k : Nat) : Int)), (41, 0, .slice la m lc), (42, 0, .int .i64 ((m : Nat) : Int)), (43, 0, .bool (decide (((k : Nat) : Int) < ((m : Nat) : Int)))), (46, 0, .slice la m lc), (47, 0, .int .i64 ((k : Nat) : Int)), (48, 0, .pointer (some ⟨blk la, off la + k * 3, none⟩)), (49, 0, .pointer (some ⟨blk la, off la + k * 3, none⟩)), (50, 0, .int .i64 ((nth l k).1)), (51, 0, .bool (decide ((nth l k).1 < 1))), (52, 0, .bool (decide ((nth l k).1 < 1))), (59, 0, .bool ((decide ((nth l k).1 < 1)) || (decide (99 < (nth l k).1)))), (60, 0, .bool ((decide ((nth l k).1 < 1)) || (decide (99 < (nth l k).1)))), (67, 0, .bool (((decide ((nth l k).1 < 1)) || (decide (99 < (nth l k).1))) || (decide ((nth l k).2.1 < 0)))), (68, 0, .bool (((decide ((nth l k).1 < 1)) || (decide (99 < (nth l k).1))) || (decide ((nth l k).2.1 < 0)))), (75, 0, .bool ((((decide ((nth l k).1 < 1)) || (decide (99 < (nth l k).1))) || (decide ((nth l k).2.1 < 0))) || (decide (1000 < (nth l k).2.1)))), (7, 0, .int .i64 ((q_ : Nat) : Int))]) (fun q_ => []) (fun q_ => q_ ≤ (nth l k).2.2.l.length ∧ allK (wyB q (nth l k).2.2.l) q_ = true) (fun q_ => (nth l k).2.2.l.length - q_) 0 (0) (⟨Nat.zero_le _, rfl⟩) ⟨rfl, rfl, rfl, rfl, rfl, rfl, rfl, rfl, rfl, rfl, rfl, rfl, rfl, rfl, rfl, rfl, rfl, rfl, rfl, rfl, rfl, rfl, rfl, rfl, rfl, rfl, rfl, rfl, rfl, rfl, rfl, rfl, rfl, rfl, rfl, rfl, rfl, rfl, rfl, rfl, rfl, rfl, rfl, rfl, rfl, rfl, rfl, rfl, rfl, rfl, rfl, rfl, rfl, rfl, rfl, rfl, rfl, rfl, rfl, rfl, rfl, rfl, rfl, rfl, trivial⟩ rfl ?_
          rintro j ⟨hj, hz3⟩
          refine WC.seq ?_
          refine WC.seq ?_
          refine WC.region ?_
          refine SL.pure rfl rfl rfl (PureOp.move rfl) ?_
          refine SL.pure rfl rfl rfl (PureOp.move rfl) ?_
          refine SL.pure rfl rfl rfl (PureOp.move rfl) ?_
          refine SL.pure rfl rfl rfl (PureOp.indexAddrN Try.underlying43 sz55 rfl rfl (AoOk.in_ sL) (fun _ => by omega)) ?_
          refine SL.pure rfl rfl rfl (PureOp.fieldAddr 2 Try.underlying55 rfl rfl sz53 rfl) ?_
          refine SL.pure rfl rfl rfl (PureOp.load (v := .slice ((nth l k).2.2.ao) ((nth l k).2.2.l.length) ((nth l k).2.2.cap)) Try.underlying53 rfl rfl (fun _ => (CellIs.in_ sL k 2 (by omega) (by omega)))) ?_
          refine SL.pure rfl rfl rfl (PureOp.len rfl Try.underlying53) ?_
          refine SL.pure rfl rfl rfl (PureOp.lss rfl rfl) ?_
          refine SL.nil_then ?_
          refine WC.cond rfl (fun h6 => ?_) (fun h6 => ?_)
          · try simp only [Bool.and_eq_true, Bool.or_eq_true, Bool.not_eq_true', Bool.not_eq_false', Bool.and_eq_false_iff, Bool.or_eq_false_iff, decide_eq_true_eq, decide_eq_false_iff_not, Int.not_lt, Int.not_le, ne_eq, Decidable.not_not] at h6
            refine WC.skip ?_
            refine QX.then_ ?_
            refine WC.seq ?_
            refine WC.block ?_
            refine WC.seq ?_
            refine WC.region ?_
            refine SL.pure rfl rfl rfl (PureOp.move rfl) ?_
            refine SL.pure rfl rfl rfl (PureOp.move rfl) ?_
            refine SL.pure rfl rfl rfl (PureOp.indexAddrN Try.underlying43 sz55 rfl rfl (AoOk.in_ sL) (fun _ => by omega)) ?_
            refine SL.pure rfl rfl rfl (PureOp.fieldAddr 2 Try.underlying55 rfl rfl sz53 rfl) ?_
            refine SL.pure rfl rfl rfl (PureOp.load (v := .slice ((nth l k).2.2.ao) ((nth l k).2.2.l.length) ((nth l k).2.2.cap)) Try.underlying53 rfl rfl (fun _ => (CellIs.in_ sL k 2 (by omega) (by omega)))) ?_
            refine SL.pure rfl rfl rfl (PureOp.move rfl) ?_
            refine SL.pure rfl rfl rfl (PureOp.indexAddrN Try.underlying53 sz77 rfl rfl (AoOk.any (fun w hw => (hI k (by omega)).below hw.below)) (fun _ => by omega)) ?_
            refine SL.pure rfl rfl rfl (PureOp.loads (vs := [.int .i64 ((nth ((nth l k).2.2.l) j).1), .int .i64 ((nth ((nth l k).2.2.l) j).2)]) Try.underlying77 rfl rfl (fun _ => (RowIs.any (fun w hw => (hI k (by omega)).below hw.below) j 0 2 (by omega) (by omega))) sz77) ?_
            refine SL.alloc rfl rfl zero77 (fun b1 hb1 => ?_)
            refine SL.norm [_] rfl ?_
            refine SL.store 0 rfl rfl rfl rfl sz77 rfl rfl ?_
            refine SL.norm [_] rfl ?_
            refine SL.nil_then ?_
            refine WC.seq ?_
            refine WC.region ?_
            refine SL.pure rfl rfl rfl (PureOp.fieldAddrT 0 Try.underlying77 rfl sz3 rfl rfl) ?_
            refine SL.pure rfl rfl rfl (PureOp.load (v := .int .i64 ((nth ((nth l k).2.2.l) j).1)) Try.underlying3 rfl rfl (fun _ => (CellIs.cells 0 rfl rfl))) ?_
            refine SL.pure rfl rfl rfl (PureOp.lss rfl rfl) ?_
            refine SL.pure rfl rfl rfl (PureOp.move rfl) ?_
            refine SL.newg 97 false rfl ?_
            refine SL.gpure (c := 1) rfl rfl rfl rfl rfl rfl rfl (PureOp.fieldAddrT 0 Try.underlying77 rfl sz3 rfl rfl) ?_
            refine SL.gpure (c := 1) rfl rfl rfl rfl rfl rfl rfl (PureOp.load (v := .int .i64 ((nth ((nth l k).2.2.l) j).1)) Try.underlying3 rfl rfl (fun _ => (CellIs.cells 0 rfl rfl))) ?_
            refine SL.gpure (c := 1) rfl rfl rfl rfl rfl rfl rfl (PureOp.move rfl) ?_
            refine SL.gpure (c := 1) rfl rfl rfl rfl rfl rfl rfl (PureOp.len rfl Try.underlying29) ?_
            refine SL.gpure (c := 1) rfl rfl rfl rfl rfl rfl rfl (PureOp.geq rfl rfl) ?_
            refine SL.pure rfl rfl rfl (PureOp.or_ rfl rfl rfl rfl) ?_
            refine SL.pure rfl rfl rfl (PureOp.move rfl) ?_
            refine SL.newg 104 false rfl ?_
            refine SL.gpure (c := 2) rfl rfl rfl rfl rfl rfl rfl (PureOp.fieldAddrT 1 Try.underlying77 rfl sz3 rfl rfl) ?_
            refine SL.gpure (c := 2) rfl rfl rfl rfl rfl rfl rfl (PureOp.load (v := .int .i64 ((nth ((nth l k).2.2.l) j).2)) Try.underlying3 rfl rfl (fun _ => (CellIs.cells 0 rfl rfl))) ?_
            refine SL.gpure (c := 2) rfl rfl rfl rfl rfl rfl rfl (PureOp.lss rfl rfl) ?_
            refine SL.pure rfl rfl rfl (PureOp.or_ rfl rfl rfl rfl) ?_
            refine SL.pure rfl rfl rfl (PureOp.move rfl) ?_
            refine SL.newg 109 false rfl ?_
            refine SL.gpure (c := 3) rfl rfl rfl rfl rfl rfl rfl (PureOp.fieldAddrT 1 Try.underlying77 rfl sz3 rfl rfl) ?_
            refine SL.gpure (c := 3) rfl rfl rfl rfl rfl rfl rfl (PureOp.load (v := .int .i64 ((nth ((nth l k).2.2.l) j).2)) Try.underlying3 rfl rfl (fun _ => (CellIs.cells 0 rfl rfl))) ?_
            refine SL.gpure (c := 3) rfl rfl rfl rfl rfl rfl rfl (PureOp.gtr rfl rfl) ?_
            refine SL.pure rfl rfl rfl (PureOp.or_ rfl rfl rfl rfl) ?_
            refine SL.nil_then ?_
            refine WC.cond rfl (fun h7 => ?_) (fun h7 => ?_)
            · try simp only [Bool.and_eq_true, Bool.or_eq_true, Bool.not_eq_true', Bool.not_eq_false', Bool.and_eq_false_iff, Bool.or_eq_false_iff, decide_eq_true_eq, decide_eq_false_iff_not, Int.not_lt, Int.not_le, ne_eq, Decidable.not_not] at h7
              refine WC.seq ?_
              refine WC.region ?_
              refine SL.pure rfl rfl rfl (PureOp.assign rfl) ?_
              refine SL.nil_then ?_
              refine WC.ret ?_
              refine QX.ret_in ?_
              refine QX.ret_then ?_
              refine QX.ret_then ?_
              refine QX.ret_in ?_
              refine QX.ret_in ?_
              refine QX.ret_then ?_
              refine QX.ret_then ?_
              refine QX.ret_in ?_
              refine QX.ret_then ?_
              refine QX.ret1 rfl rfl ?_
              intro w hw
              rw [rchk_pa (k := k) (by omega) (by omega) (paB_no2 (j := j) (by omega) (wyB_not.2 (by omega)))]
            · try simp only [Bool.and_eq_true, Bool.or_eq_true, Bool.not_eq_true', Bool.not_eq_false', Bool.and_eq_false_iff, Bool.or_eq_false_iff, decide_eq_true_eq, decide_eq_false_iff_not, Int.not_lt, Int.not_le, ne_eq, Decidable.not_not] at h7
              refine WC.skip ?_
              refine QX.normal_in ?_
              refine QX.then_ ?_
              refine WC.region ?_
              refine SL.pure rfl rfl rfl (PureOp.move rfl) ?_
              refine SL.pure rfl rfl rfl (PureOp.addN (k := 1) rfl rfl (fun _ => by omega)) ?_
              refine SL.pure rfl rfl rfl (PureOp.assign rfl) ?_
              refine SL.nil ?_
              refine QX.round 0 (j + 1) ⟨⟨(by first | omega | (dsimp only; omega)), allK_next hz3 (wyB_iff.2 (by omega))⟩, by first | omega | (dsimp only; omega)⟩ ⟨rfl, rfl, rfl, rfl, rfl, rfl, rfl, rfl, rfl, rfl, rfl, rfl, rfl, rfl, rfl, rfl, rfl, rfl, rfl, rfl, rfl, rfl, rfl, rfl, rfl, rfl, rfl, rfl, rfl, rfl, rfl, rfl, rfl, rfl, rfl, rfl, rfl, rfl, rfl, rfl, rfl, rfl, rfl, rfl, rfl, rfl, rfl, rfl, rfl, rfl, rfl, rfl, rfl, rfl, rfl, rfl, rfl, rfl, rfl, rfl, rfl, rfl, rfl, rfl, trivial⟩ rfl
          · try simp only [Bool.and_eq_true, Bool.or_eq_true, Bool.not_eq_true', Bool.not_eq_false', Bool.and_eq_false_iff, Bool.or_eq_false_iff, decide_eq_true_eq, decide_eq_false_iff_not, Int.not_lt, Int.not_le, ne_eq, Decidable.not_not] at h6
            refine WC.exit ?_
            refine QX.exit_then ?_
            refine QX.exit_then ?_
            refine QX.exit_hit ?_
            refine QX.normal_in ?_
            refine QX.then_ ?_
            refine WC.region ?_
            refine SL.pure rfl rfl rfl (PureOp.move rfl) ?_
            refine SL.pure rfl rfl rfl (PureOp.addN (k := 1) rfl rfl (fun _ => by omega)) ?_
            refine SL.pure rfl rfl rfl (PureOp.assign rfl) ?_
            refine SL.nil ?_
            refine QX.round 0 (k + 1) ⟨⟨(by first | omega | (dsimp only; omega)), allK_next hz2 (paB_yes (wiB_iff.2 (by omega)) (wiB_iff.2 (by omega)) (by rw [show (nth l k).2.2.l.length = j from by omega]; exact hz3))⟩, by first | omega | (dsimp only; omega)⟩ ⟨rfl, rfl, rfl, rfl, rfl, rfl, rfl, rfl, rfl, rfl, rfl, rfl, rfl, rfl, rfl, rfl, rfl, rfl, rfl, rfl, rfl, rfl, rfl, rfl, rfl, rfl, rfl, rfl, rfl, rfl, trivial⟩ rfl
      · try simp only [Bool.and_eq_true, Bool.or_eq_true, Bool.not_eq_true', Bool.not_eq_false', Bool.and_eq_false_iff, Bool.or_eq_false_iff, decide_eq_true_eq, decide_eq_false_iff_not, Int.not_lt, Int.not_le, ne_eq, Decidable.not_not] at h4
        refine WC.exit ?_
        refine QX.exit_then ?_
        refine QX.exit_then ?_
        refine QX.exit_hit ?_
        refine QX.then_ ?_
        refine WC.seq ?_
        refine WC.region ?_
        refine SL.pure rfl rfl rfl (PureOp.assign rfl) ?_
        refine SL.nil_then ?_
        refine WC.ret ?_
        refine QX.ret1 rfl rfl ?_
        intro w hw
        rw [rchk_ok (by omega) (by rw [← hq, show q = b from by omega]; exact hz1) (by rw [← hq, ← hm, show m = k from by omega]; exact hz2)]

set_option maxHeartbeats 4000000 in
set_option maxRecDepth 100000 in
theorem pshaped_ok (w0 : World) (l : List Pa) (la : Option Addr) (m lc : Nat) (hm : m = l.length) (hI : ∀ i, i < m → SliceIn w0 2 (nth l i).2.2.ao (nth l i).2.2.l.length (nth l i).2.2.cap (rowsF enc77 (nth l i).2.2.l)) (sL : SliceIn w0 3 la m lc (rowsF enc55 l)) (P : List (SliceV Int)) (pa : Option Addr) (u pc : Nat) (hu : u = P.length) (hJ : ∀ i, i < u → SliceIn w0 1 (nth P i).ao (nth P i).l.length (nth P i).cap (rowsF encI (nth P i).l)) (sP : SliceIn w0 1 pa u pc (rowsF encSl P)) : FnC Try.prog 48 [.slice la m lc, .slice pa u pc] w0 fun v w' => v = .bool (shpB l P) := by
  have hmB : (m : Int) ≤ 9223372036854775807 := by
    have h1 := sL.le; have h2 := sL.max; simp only [maxLen] at h2; omega
  have hIb : ∀ i, i < m → ((nth l i).2.2.l.length : Int) ≤ 9223372036854775807 := fun i hi => by
    have h1 := (hI i hi).le; have h2 := (hI i hi).max; simp only [maxLen] at h2; omega
  have huB : (u : Int) ≤ 9223372036854775807 := by
    have h1 := sP.le; have h2 := sP.max; simp only [maxLen] at h2; omega
  have hJb : ∀ i, i < u → ((nth P i).l.length : Int) ≤ 9223372036854775807 := fun i hi => by
    have h1 := (hJ i hi).le; have h2 := (hJ i hi).max; simp only [maxLen] at h2; omega
  refine fnc (N := 43) Try.func48 rfl rfl rfl ?_
  refine WC.seq ?_
  refine WC.region ?_
  refine SL.pure rfl rfl rfl (PureOp.assign rfl) ?_
  refine SL.nil_then ?_
  refine WC.seq ?_
  refine WC.seq ?_
  refine WC.region ?_
  refine SL.pure rfl rfl rfl (PureOp.move rfl) ?_
  refine SL.pure rfl rfl rfl (PureOp.len rfl Try.underlying44) ?_
  refine SL.pure rfl rfl rfl (PureOp.move rfl) ?_
  refine SL.pure rfl rfl rfl (PureOp.len rfl Try.underlying43) ?_
  refine SL.pure rfl rfl rfl (PureOp.neq rfl rfl) ?_
  refine SL.nil_then ?_
  refine WC.cond rfl (fun h1 => ?_) (fun h1 => ?_)
  · try simp only [Bool.and_eq_true, Bool.or_eq_true, Bool.not_eq_true', Bool.not_eq_false', Bool.and_eq_false_iff, Bool.or_eq_false_iff, decide_eq_true_eq, decide_eq_false_iff_not, Int.not_lt, Int.not_le, ne_eq, Decidable.not_not] at h1
    refine WC.seq ?_
    refine WC.region ?_
    refine SL.pure rfl rfl rfl (PureOp.assign rfl) ?_
    refine SL.nil_then ?_
    refine WC.ret ?_
    refine QX.ret_then ?_
    refine QX.ret1 rfl rfl ?_
    intro w hw
    rw [shpB, show decide (P.length = l.length) = false from decide_eq_false (by omega)]; rfl
  · try simp only [Bool.and_eq_true, Bool.or_eq_true, Bool.not_eq_true', Bool.not_eq_false', Bool.and_eq_false_iff, Bool.or_eq_false_iff, decide_eq_true_eq, decide_eq_false_iff_not, Int.not_lt, Int.not_le, ne_eq, Decidable.not_not] at h1
    refine WC.skip ?_
    refine QX.then_ ?_
    refine WC.seq ?_
    refine WC.seq ?_
    refine WC.region ?_
    refine SL.pure rfl rfl rfl (PureOp.move rfl) ?_
    refine SL.pure rfl rfl rfl (PureOp.len rfl Try.underlying43) ?_
    refine SL.pure rfl rfl rfl (PureOp.move rfl) ?_
    refine SL.nil_then ?_
    refine WC.block ?_
    refine WC.loop (σ := Nat) (fun q_ => [(0, 0, .slice la m lc), (1, 0, .slice pa u pc), (9, 0, .slice pa u pc), (10, 0, .int .i64 ((u : Nat) : Int)), (11, 0, .slice la m lc), (12, 0, .int .i64 ((m : Nat) : Int)), (13, 0, .bool (decide (((u : Nat) : Int) ≠ ((m : Nat) : Int)))), (14, 0, .slice la m lc), (15, 0, .int .i64 ((m : Nat) : Int)), (16, 0, .int .i64 ((q_ : Nat) : Int))]) (fun q_ => []) (fun q_ => q_ ≤ m ∧ allK (fun i => rowB (nth l i) (nth P i).l) q_ = true) (fun q_ => m - q_) 0 (0) (⟨Nat.zero_le _, rfl⟩) ⟨rfl, rfl, rfl, rfl, rfl, rfl, rfl, rfl, rfl, rfl, rfl, rfl, rfl, rfl, rfl, rfl, rfl, rfl, rfl, rfl, trivial⟩ rfl ?_
    rintro k ⟨hk, hz1⟩
    refine WC.seq ?_
    refine WC.region ?_
    refine SL.pure rfl rfl rfl (PureOp.lss rfl rfl) ?_
    refine SL.nil_then ?_
    refine WC.seq ?_
    refine WC.cond rfl (fun h2 => ?_) (fun h2 => ?_)
    · try simp only [Bool.and_eq_true, Bool.or_eq_true, Bool.not_eq_true', Bool.not_eq_false', Bool.and_eq_false_iff, Bool.or_eq_false_iff, decide_eq_true_eq, decide_eq_false_iff_not, Int.not_lt, Int.not_le, ne_eq, Decidable.not_not] at h2
      have hJk := hJb k (by omega)
      refine WC.skip ?_
      refine QX.then_ ?_
      refine WC.seq ?_
      refine WC.block ?_
      refine WC.seq ?_
      refine WC.region ?_
      refine SL.pure rfl rfl rfl (PureOp.move rfl) ?_
      refine SL.pure rfl rfl rfl (PureOp.indexAddrN Try.underlying43 sz55 rfl rfl (AoOk.in_ sL) (fun _ => by omega)) ?_
      refine SL.pure rfl rfl rfl (PureOp.loads (vs := [.int .i64 ((nth l k).1), .int .i64 ((nth l k).2.1), .slice ((nth l k).2.2.ao) ((nth l k).2.2.l.length) ((nth l k).2.2.cap)]) Try.underlying55 rfl rfl (fun _ => (RowIs.in_ sL k 0 3 (by omega) (by omega))) sz55) ?_
      refine SL.alloc rfl rfl zero55 (fun b1 hb1 => ?_)
      refine SL.norm [_] rfl ?_
      refine SL.pure rfl rfl rfl (PureOp.assign rfl) ?_
      refine SL.store 0 rfl rfl rfl rfl sz55 rfl rfl ?_
      refine SL.norm [_] rfl ?_
      refine SL.nil_then ?_
      refine WC.seq ?_
      refine WC.seq ?_
      refine WC.quiet rfl (by kernel_rfl) ?_
      refine SQ.pure rfl rfl rfl (PureOp.move rfl) ?_
      refine SQ.pure rfl rfl rfl (PureOp.move rfl) ?_
      refine SQ.pure rfl rfl rfl (PureOp.indexAddrN Try.underlying44 sz29 rfl rfl (AoOk.in_ sP) (fun _ => by omega)) ?_
      refine SQ.pure rfl rfl rfl (PureOp.load (v := .slice ((nth P k).ao) ((nth P k).l.length) ((nth P k).cap)) Try.underlying29 rfl rfl (fun _ => (CellIs.in_ sP k 0 (by omega) (by omega)))) ?_
      refine SQ.pure rfl rfl rfl (PureOp.len rfl Try.underlying29) ?_
      refine SQ.pure rfl rfl rfl (PureOp.fieldAddrT 2 Try.underlying55 rfl sz53 rfl rfl) ?_
      refine SQ.pure rfl rfl rfl (PureOp.load (v := .slice ((nth l k).2.2.ao) ((nth l k).2.2.l.length) ((nth l k).2.2.cap)) Try.underlying53 rfl rfl (fun _ => (CellIs.cells 0 rfl rfl))) ?_
      refine SQ.pure rfl rfl rfl (PureOp.len rfl Try.underlying53) ?_
      refine SQ.pure rfl rfl rfl (PureOp.neq rfl rfl) ?_
      refine SQ.nil_then ?_
      refine WC.cond rfl (fun h3 => ?_) (fun h3 => ?_)
      · try simp only [Bool.and_eq_true, Bool.or_eq_true, Bool.not_eq_true', Bool.not_eq_false', Bool.and_eq_false_iff, Bool.or_eq_false_iff, decide_eq_true_eq, decide_eq_false_iff_not, Int.not_lt, Int.not_le, ne_eq, Decidable.not_not] at h3
        refine WC.seq ?_
        refine WC.region ?_
        refine SL.pure rfl rfl rfl (PureOp.assign rfl) ?_
        refine SL.nil_then ?_
        refine WC.ret ?_
        refine QX.ret_then ?_
        refine QX.ret_in ?_
        refine QX.ret_then ?_
        refine QX.ret_then ?_
        refine QX.ret_in ?_
        refine QX.ret_then ?_
        refine QX.ret1 rfl rfl ?_
        intro w hw
        rw [shp_no (i := k) (by omega) (row_no1 (by omega))]
      · try simp only [Bool.and_eq_true, Bool.or_eq_true, Bool.not_eq_true', Bool.not_eq_false', Bool.and_eq_false_iff, Bool.or_eq_false_iff, decide_eq_true_eq, decide_eq_false_iff_not, Int.not_lt, Int.not_le, ne_eq, Decidable.not_not] at h3
        refine WC.skip ?_
        refine QX.then_ ?_
        refine WC.seq ?_
        refine WC.region ?_
        refine SL.pure rfl rfl rfl (PureOp.move rfl) ?_
        refine SL.pure rfl rfl rfl (PureOp.move rfl) ?_
        refine SL.pure rfl rfl rfl (PureOp.indexAddrN Try.underlying44 sz29 rfl rfl (AoOk.in_ sP) (fun _ => by omega)) ?_
        refine SL.pure rfl rfl rfl (PureOp.load (v := .slice ((nth P k).ao) ((nth P k).l.length) ((nth P k).cap)) Try.underlying29 rfl rfl (fun _ => (CellIs.in_ sP k 0 (by omega) (by omega)))) ?_
        refine SL.pure rfl rfl rfl (PureOp.len rfl Try.underlying29) ?_
        refine SL.pure rfl rfl rfl (PureOp.move rfl) ?_
        refine SL.nil_then ?_
        refine WC.block ?_
        refine WC.loop (σ := Nat) (fun q_ => [(0, 0, .slice la m lc), (1, 0, .slice pa u pc), (5, 0, .int .i64 ((k : Nat) : Int)), (6, 0, .pointer (some ⟨b1, 0, none⟩)), (9, 0, .slice pa u pc), (10, 0, .int .i64 ((u : Nat) : Int)), (11, 0, .slice la m lc), (12, 0, .int .i64 ((m : Nat) : Int)), (13, 0, .bool (decide (((u : Nat) : Int) ≠ ((m : Nat) : Int)))), (14, 0, .slice la m lc), (15, 0, .int .i64 ((m : Nat) : Int)), (16, 0, .int .i64 ((k : Nat) : Int)), (17, 0, .bool (decide (((k : Nat) : Int) < ((m : Nat) : Int)))), (18, 0, .int .i64 ((k : Nat) : Int)), (19, 0, .pointer (some ⟨blk la, off la + k * 3, none⟩)), (20, 0, .agg #[.int .i64 ((nth l k).1), .int .i64 ((nth l k).2.1), .slice ((nth l k).2.2.ao) ((nth l k).2.2.l.length) ((nth l k).2.2.cap)]), (21, 0, .slice pa u pc), (22, 0, .int .i64 ((k : Nat) : Int)), (23, 0, .pointer (some ⟨blk pa, off pa + k * 1, none⟩)), (24, 0, .slice ((nth P k).ao) ((nth P k).l.length) ((nth P k).cap)), (25, 0, .int .i64 (((nth P k).l.length : Nat) : Int)), (26, 0, .pointer (some ⟨b1, 2, none⟩)), (27, 0, .slice ((nth l k).2.2.ao) ((nth l k).2.2.l.length) ((nth l k).2.2.cap)), (28, 0, .int .i64 (((nth l k).2.2.l.length : Nat) : Int)), (29, 0, .bool (decide ((((nth P k).l.length : Nat) : Int) ≠ (((nth l k).2.2.l.length : Nat) : Int)))), (30, 0, .slice pa u pc), (31, 0, .int .i64 ((k : Nat) : Int)), (32, 0, .pointer (some ⟨blk pa, off pa + k * 1, none⟩)), (33, 0, .slice ((nth P k).ao) ((nth P k).l.length) ((nth P k).cap)), (34, 0, .int .i64 (((nth P k).l.length : Nat) : Int)), (35, 0, .int .i64 ((q_ : Nat) : Int))]) (fun q_ => []) (fun q_ => q_ ≤ (nth P k).l.length ∧ allK (fun j => decide (0 ≤ nth (nth P k).l j)) q_ = true) (fun q_ => (nth P k).l.length - q_) 0 (0) (⟨Nat.zero_le _, rfl⟩) ⟨rfl, rfl, rfl, rfl, rfl, rfl, rfl, rfl, rfl, rfl, rfl, rfl, rfl, rfl, rfl, rfl, rfl, rfl, rfl, rfl, rfl, rfl, rfl, rfl, rfl, rfl, rfl, rfl, rfl, rfl, rfl, rfl, rfl, rfl, rfl, rfl, rfl, rfl, rfl, rfl, rfl, rfl, rfl, rfl, rfl, rfl, rfl, rfl, rfl, rfl, rfl, rfl, rfl, rfl, rfl, rfl, rfl, rfl, rfl, rfl, rfl, rfl, trivial⟩ rfl ?_
        rintro j ⟨hj, hz2⟩
        refine WC.seq ?_
        refine WC.region ?_
        refine SL.pure rfl rfl rfl (PureOp.lss rfl rfl) ?_
        refine SL.nil_then ?_
        refine WC.seq ?_
        refine WC.cond rfl (fun h4 => ?_) (fun h4 => ?_)
        · try simp only [Bool.and_eq_true, Bool.or_eq_true, Bool.not_eq_true', Bool.not_eq_false', Bool.and_eq_false_iff, Bool.or_eq_false_iff, decide_eq_true_eq, decide_eq_false_iff_not, Int.not_lt, Int.not_le, ne_eq, Decidable.not_not] at h4
          refine WC.skip ?_
          refine QX.then_ ?_
          refine WC.seq ?_
          refine WC.block ?_
          refine WC.seq ?_
          refine WC.region ?_
          refine SL.pure rfl rfl rfl (PureOp.indexAddrN Try.underlying29 sz3 rfl rfl (AoOk.any (fun w hw => (hJ k (by omega)).below hw.below)) (fun _ => by omega)) ?_
          refine SL.pure rfl rfl rfl (PureOp.load (v := .int .i64 (nth ((nth P k).l) j)) Try.underlying3 rfl rfl (fun _ => (CellIs.any (fun w hw => (hJ k (by omega)).below hw.below) j 0 (by omega) (by omega)))) ?_
          refine SL.pure rfl rfl rfl (PureOp.assign rfl) ?_
          refine SL.nil_then ?_
          refine WC.seq ?_
          refine WC.region ?_
          refine SL.pure rfl rfl rfl (PureOp.move rfl) ?_
          refine SL.pure rfl rfl rfl (PureOp.lss rfl rfl) ?_
          refine SL.nil_then ?_
          refine WC.cond rfl (fun h5 => ?_) (fun h5 => ?_)
          · try simp only [Bool.and_eq_true, Bool.or_eq_true, Bool.not_eq_true', Bool.not_eq_false', Bool.and_eq_false_iff, Bool.or_eq_false_iff, decide_eq_true_eq, decide_eq_false_iff_not, Int.not_lt, Int.not_le, ne_eq, Decidable.not_not] at h5
            refine WC.seq ?_
            refine WC.region ?_
            refine SL.pure rfl rfl rfl (PureOp.assign rfl) ?_
            refine SL.nil_then ?_
            refine WC.ret ?_
            refine QX.ret_in ?_
            refine QX.ret_then ?_
            refine QX.ret_then ?_
            refine QX.ret_in ?_
            refine QX.ret_in ?_
            refine QX.ret_then ?_
            refine QX.ret_then ?_
            refine QX.ret_in ?_
            refine QX.ret_then ?_
            refine QX.ret1 rfl rfl ?_
            intro w hw
            rw [shp_no (i := k) (by omega) (row_no2 (j := j) (by omega) (by omega))]
          · try simp only [Bool.and_eq_true, Bool.or_eq_true, Bool.not_eq_true', Bool.not_eq_false', Bool.and_eq_false_iff, Bool.or_eq_false_iff, decide_eq_true_eq, decide_eq_false_iff_not, Int.not_lt, Int.not_le, ne_eq, Decidable.not_not] at h5
            refine WC.skip ?_
            refine QX.normal_in ?_
            refine QX.then_ ?_
            refine WC.region ?_
            refine SL.pure rfl rfl rfl (PureOp.addN (k := 1) rfl rfl (fun _ => by omega)) ?_
            refine SL.pure rfl rfl rfl (PureOp.move rfl) ?_
            refine SL.nil ?_
            refine QX.round 0 (j + 1) ⟨⟨(by first | omega | (dsimp only; omega)), allK_next hz2 (decide_eq_true (by omega))⟩, by first | omega | (dsimp only; omega)⟩ ⟨rfl, rfl, rfl, rfl, rfl, rfl, rfl, rfl, rfl, rfl, rfl, rfl, rfl, rfl, rfl, rfl, rfl, rfl, rfl, rfl, rfl, rfl, rfl, rfl, rfl, rfl, rfl, rfl, rfl, rfl, rfl, rfl, rfl, rfl, rfl, rfl, rfl, rfl, rfl, rfl, rfl, rfl, rfl, rfl, rfl, rfl, rfl, rfl, rfl, rfl, rfl, rfl, rfl, rfl, rfl, rfl, rfl, rfl, rfl, rfl, rfl, rfl, trivial⟩ rfl
        · try simp only [Bool.and_eq_true, Bool.or_eq_true, Bool.not_eq_true', Bool.not_eq_false', Bool.and_eq_false_iff, Bool.or_eq_false_iff, decide_eq_true_eq, decide_eq_false_iff_not, Int.not_lt, Int.not_le, ne_eq, Decidable.not_not] at h4
          refine WC.exit ?_
          refine QX.exit_then ?_
          refine QX.exit_then ?_
          refine QX.exit_hit ?_
          refine QX.normal_in ?_
          refine QX.then_ ?_
          refine WC.region ?_
          refine SL.pure rfl rfl rfl (PureOp.addN (k := 1) rfl rfl (fun _ => by omega)) ?_
          refine SL.pure rfl rfl rfl (PureOp.move rfl) ?_
          refine SL.nil ?_
          refine QX.round 0 (k + 1) ⟨⟨(by first | omega | (dsimp only; omega)), allK_next hz1 (row_yes (by omega) (by rw [show (nth P k).l.length = j from by omega]; exact hz2))⟩, by first | omega | (dsimp only; omega)⟩ ⟨rfl, rfl, rfl, rfl, rfl, rfl, rfl, rfl, rfl, rfl, rfl, rfl, rfl, rfl, rfl, rfl, rfl, rfl, rfl, rfl, trivial⟩ rfl
    · try simp only [Bool.and_eq_true, Bool.or_eq_true, Bool.not_eq_true', Bool.not_eq_false', Bool.and_eq_false_iff, Bool.or_eq_false_iff, decide_eq_true_eq, decide_eq_false_iff_not, Int.not_lt, Int.not_le, ne_eq, Decidable.not_not] at h2
      refine WC.exit ?_
      refine QX.exit_then ?_
      refine QX.exit_then ?_
      refine QX.exit_hit ?_
      refine QX.then_ ?_
      refine WC.seq ?_
      refine WC.region ?_
      refine SL.pure rfl rfl rfl (PureOp.assign rfl) ?_
      refine SL.nil_then ?_
      refine WC.ret ?_
      refine QX.ret1 rfl rfl ?_
      intro w hw
      rw [shp_yes (by omega) (by rw [← hm, show m = k from by omega]; exact hz1)]

set_option maxHeartbeats 4000000 in
set_option maxRecDepth 100000 in
theorem rshaped_ok (w0 : World) (l : List Pa) (la : Option Addr) (m lc : Nat) (hm : m = l.length) (hI : ∀ i, i < m → SliceIn w0 2 (nth l i).2.2.ao (nth l i).2.2.l.length (nth l i).2.2.cap (rowsF enc77 (nth l i).2.2.l)) (sL : SliceIn w0 3 la m lc (rowsF enc55 l)) (P : List (SliceV Int)) (pa : Option Addr) (u pc : Nat) (hu : u = P.length) (hJ : ∀ i, i < u → SliceIn w0 1 (nth P i).ao (nth P i).l.length (nth P i).cap (rowsF encI (nth P i).l)) (sP : SliceIn w0 1 pa u pc (rowsF encSl P)) : FnC Try.prog 49 [.slice la m lc, .slice pa u pc] w0 fun v w' => v = .bool (shpB l P) := by
  have hmB : (m : Int) ≤ 9223372036854775807 := by
    have h1 := sL.le; have h2 := sL.max; simp only [maxLen] at h2; omega
  have hIb : ∀ i, i < m → ((nth l i).2.2.l.length : Int) ≤ 9223372036854775807 := fun i hi => by
    have h1 := (hI i hi).le; have h2 := (hI i hi).max; simp only [maxLen] at h2; omega
  have huB : (u : Int) ≤ 9223372036854775807 := by
    have h1 := sP.le; have h2 := sP.max; simp only [maxLen] at h2; omega
  have hJb : ∀ i, i < u → ((nth P i).l.length : Int) ≤ 9223372036854775807 := fun i hi => by
    have h1 := (hJ i hi).le; have h2 := (hJ i hi).max; simp only [maxLen] at h2; omega
  refine fnc (N := 47) Try.func49 rfl rfl rfl ?_
  refine WC.seq ?_
  refine WC.region ?_
  refine SL.pure rfl rfl rfl (PureOp.assign rfl) ?_
  refine SL.nil_then ?_
  refine WC.seq ?_
  refine WC.seq ?_
  refine WC.region ?_
  refine SL.pure rfl rfl rfl (PureOp.move rfl) ?_
  refine SL.pure rfl rfl rfl (PureOp.len rfl Try.underlying44) ?_
  refine SL.pure rfl rfl rfl (PureOp.move rfl) ?_
  refine SL.pure rfl rfl rfl (PureOp.len rfl Try.underlying43) ?_
  refine SL.pure rfl rfl rfl (PureOp.neq rfl rfl) ?_
  refine SL.nil_then ?_
  refine WC.cond rfl (fun h1 => ?_) (fun h1 => ?_)
  · try simp only [Bool.and_eq_true, Bool.or_eq_true, Bool.not_eq_true', Bool.not_eq_false', Bool.and_eq_false_iff, Bool.or_eq_false_iff, decide_eq_true_eq, decide_eq_false_iff_not, Int.not_lt, Int.not_le, ne_eq, Decidable.not_not] at h1
    refine WC.seq ?_
    refine WC.region ?_
    refine SL.pure rfl rfl rfl (PureOp.assign rfl) ?_
    refine SL.nil_then ?_
    refine WC.ret ?_
    refine QX.ret_then ?_
    refine QX.ret1 rfl rfl ?_
    intro w hw
    rw [shpB, show decide (P.length = l.length) = false from decide_eq_false (by omega)]; rfl
  · try simp only [Bool.and_eq_true, Bool.or_eq_true, Bool.not_eq_true', Bool.not_eq_false', Bool.and_eq_false_iff, Bool.or_eq_false_iff, decide_eq_true_eq, decide_eq_false_iff_not, Int.not_lt, Int.not_le, ne_eq, Decidable.not_not] at h1
    refine WC.skip ?_
    refine QX.then_ ?_
    refine WC.seq ?_
    refine WC.seq ?_
    refine WC.region ?_
    refine SL.pure rfl rfl rfl (PureOp.assign rfl) ?_
    refine SL.nil_then ?_
    refine WC.block ?_
    refine WC.loop (σ := Nat) (fun q_ => [(0, 0, .slice la m lc), (1, 0, .slice pa u pc), (7, 0, .slice pa u pc), (8, 0, .int .i64 ((u : Nat) : Int)), (9, 0, .slice la m lc), (10, 0, .int .i64 ((m : Nat) : Int)), (11, 0, .bool (decide (((u : Nat) : Int) ≠ ((m : Nat) : Int)))), (5, 0, .int .i64 ((q_ : Nat) : Int))]) (fun q_ => []) (fun q_ => q_ ≤ m ∧ allK (fun i => rowB (nth l i) (nth P i).l) q_ = true) (fun q_ => m - q_) 0 (0) (⟨Nat.zero_le _, rfl⟩) ⟨rfl, rfl, rfl, rfl, rfl, rfl, rfl, rfl, rfl, rfl, rfl, rfl, rfl, rfl, rfl, rfl, trivial⟩ rfl ?_
    rintro k ⟨hk, hz1⟩
    refine WC.seq ?_
    refine WC.seq ?_
    refine WC.region ?_
    refine SL.pure rfl rfl rfl (PureOp.move rfl) ?_
    refine SL.pure rfl rfl rfl (PureOp.move rfl) ?_
    refine SL.pure rfl rfl rfl (PureOp.len rfl Try.underlying43) ?_
    refine SL.pure rfl rfl rfl (PureOp.lss rfl rfl) ?_
    refine SL.nil_then ?_
    refine WC.cond rfl (fun h2 => ?_) (fun h2 => ?_)
    · try simp only [Bool.and_eq_true, Bool.or_eq_true, Bool.not_eq_true', Bool.not_eq_false', Bool.and_eq_false_iff, Bool.or_eq_false_iff, decide_eq_true_eq, decide_eq_false_iff_not, Int.not_lt, Int.not_le, ne_eq, Decidable.not_not] at h2
      have hJk := hJb k (by omega)
      refine WC.skip ?_
      refine QX.then_ ?_
      refine WC.seq ?_
      refine WC.block ?_
      refine WC.seq ?_
      refine WC.seq ?_
      refine WC.quiet rfl (by kernel_rfl) ?_
      refine SQ.pure rfl rfl rfl (PureOp.move rfl) ?_
      refine SQ.pure rfl rfl rfl (PureOp.move rfl) ?_
      refine SQ.pure rfl rfl rfl (PureOp.indexAddrN Try.underlying44 sz29 rfl rfl (AoOk.in_ sP) (fun _ => by omega)) ?_
      refine SQ.pure rfl rfl rfl (PureOp.load (v := .slice ((nth P k).ao) ((nth P k).l.length) ((nth P k).cap)) Try.underlying29 rfl rfl (fun _ => (CellIs.in_ sP k 0 (by omega) (by omega)))) ?_
      refine SQ.pure rfl rfl rfl (PureOp.len rfl Try.underlying29) ?_
      refine SQ.pure rfl rfl rfl (PureOp.move rfl) ?_
      refine SQ.pure rfl rfl rfl (PureOp.move rfl) ?_
      refine SQ.pure rfl rfl rfl (PureOp.indexAddrN Try.underlying43 sz55 rfl rfl (AoOk.in_ sL) (fun _ => by omega)) ?_
      refine SQ.pure rfl rfl rfl (PureOp.fieldAddr 2 Try.underlying55 rfl rfl sz53 rfl) ?_
      refine SQ.pure rfl rfl rfl (PureOp.load (v := .slice ((nth l k).2.2.ao) ((nth l k).2.2.l.length) ((nth l k).2.2.cap)) Try.underlying53 rfl rfl (fun _ => (CellIs.in_ sL k 2 (by omega) (by omega)))) ?_
      refine SQ.pure rfl rfl rfl (PureOp.len rfl Try.underlying53) ?_
      refine SQ.pure rfl rfl rfl (PureOp.neq rfl rfl) ?_
      refine SQ.nil_then ?_
      refine WC.cond rfl (fun h3 => ?_) (fun h3 => ?_)
      · try simp only [Bool.and_eq_true, Bool.or_eq_true, Bool.not_eq_true', Bool.not_eq_false', Bool.and_eq_false_iff, Bool.or_eq_false_iff, decide_eq_true_eq, decide_eq_false_iff_not, Int.not_lt, Int.not_le, ne_eq, Decidable.not_not] at h3
        refine WC.seq ?_
        refine WC.region ?_
        refine SL.pure rfl rfl rfl (PureOp.assign rfl) ?_
        refine SL.nil_then ?_
        refine WC.ret ?_
        refine QX.ret_then ?_
        refine QX.ret_in ?_
        refine QX.ret_then ?_
        refine QX.ret_then ?_
        refine QX.ret_in ?_
        refine QX.ret_then ?_
        refine QX.ret1 rfl rfl ?_
        intro w hw
        rw [shp_no (i := k) (by omega) (row_no1 (by omega))]
      · try simp only [Bool.and_eq_true, Bool.or_eq_true, Bool.not_eq_true', Bool.not_eq_false', Bool.and_eq_false_iff, Bool.or_eq_false_iff, decide_eq_true_eq, decide_eq_false_iff_not, Int.not_lt, Int.not_le, ne_eq, Decidable.not_not] at h3
        refine WC.skip ?_
        refine QX.then_ ?_
        refine WC.seq ?_
        refine WC.region ?_
        refine SL.pure rfl rfl rfl (PureOp.assign rfl) ?_
        refine SL.nil_then ?_
        refine WC.block ?_
        refine WC.loop (σ := Nat) (fun q_ => [(0, 0, .slice la m lc), (1, 0, .slice pa u pc), (5, 0, .int .i64 ((k : Nat) : Int)), (7, 0, .slice pa u pc), (8, 0, .int .i64 ((u : Nat) : Int)), (9, 0, .slice la m lc), (10, 0, .int .i64 ((m : Nat) : Int)), (11, 0, .bool (decide (((u : Nat) : Int) ≠ ((m : Nat) : Int)))), (12, 0, .int .i64 ((k : Nat) : Int)), (13, 0, .slice la m lc), (14, 0, .int .i64 ((m : Nat) : Int)), (15, 0, .bool (decide (((k : Nat) : Int) < ((m : Nat) : Int)))), (18, 0, .slice pa u pc), (19, 0, .int .i64 ((k : Nat) : Int)), (20, 0, .pointer (some ⟨blk pa, off pa + k * 1, none⟩)), (21, 0, .slice ((nth P k).ao) ((nth P k).l.length) ((nth P k).cap)), (22, 0, .int .i64 (((nth P k).l.length : Nat) : Int)), (23, 0, .slice la m lc), (24, 0, .int .i64 ((k : Nat) : Int)), (25, 0, .pointer (some ⟨blk la, off la + k * 3, none⟩)), (26, 0, .pointer (some ⟨blk la, off la + k * 3 + 2, none⟩)), (27, 0, .slice ((nth l k).2.2.ao) ((nth l k).2.2.l.length) ((nth l k).2.2.cap)), (28, 0, .int .i64 (((nth l k).2.2.l.length : Nat) : Int)), (29, 0, .bool (decide ((((nth P k).l.length : Nat) : Int) ≠ (((nth l k).2.2.l.length : Nat) : Int)))), (6, 0, .int .i64 ((q_ : Nat) : Int))]) (fun q_ => []) (fun q_ => q_ ≤ (nth P k).l.length ∧ allK (fun j => decide (0 ≤ nth (nth P k).l j)) q_ = true) (fun q_ => (nth P k).l.length - q_) 0 (0) (⟨Nat.zero_le _, rfl⟩) ⟨rfl, rfl, rfl, rfl, rfl, rfl, rfl, rfl, rfl, rfl, rfl, rfl, rfl, rfl, rfl, rfl, rfl, rfl, rfl, rfl, rfl, rfl, rfl, rfl, rfl, rfl, rfl, rfl, rfl, rfl, rfl, rfl, rfl, rfl, rfl, rfl, rfl, rfl, rfl, rfl, rfl, rfl, rfl, rfl, rfl, rfl, rfl, rfl, rfl, rfl, trivial⟩ rfl ?_
        rintro j ⟨hj, hz2⟩
        refine WC.seq ?_
        refine WC.seq ?_
        refine WC.region ?_
        refine SL.pure rfl rfl rfl (PureOp.move rfl) ?_
        refine SL.pure rfl rfl rfl (PureOp.move rfl) ?_
        refine SL.pure rfl rfl rfl (PureOp.move rfl) ?_
        refine SL.pure rfl rfl rfl (PureOp.indexAddrN Try.underlying44 sz29 rfl rfl (AoOk.in_ sP) (fun _ => by omega)) ?_
        refine SL.pure rfl rfl rfl (PureOp.load (v := .slice ((nth P k).ao) ((nth P k).l.length) ((nth P k).cap)) Try.underlying29 rfl rfl (fun _ => (CellIs.in_ sP k 0 (by omega) (by omega)))) ?_
        refine SL.pure rfl rfl rfl (PureOp.len rfl Try.underlying29) ?_
        refine SL.pure rfl rfl rfl (PureOp.lss rfl rfl) ?_
        refine SL.nil_then ?_
        refine WC.cond rfl (fun h4 => ?_) (fun h4 => ?_)
        · try simp only [Bool.and_eq_true, Bool.or_eq_true, Bool.not_eq_true', Bool.not_eq_false', Bool.and_eq_false_iff, Bool.or_eq_false_iff, decide_eq_true_eq, decide_eq_false_iff_not, Int.not_lt, Int.not_le, ne_eq, Decidable.not_not] at h4
          refine WC.skip ?_
          refine QX.then_ ?_
          refine WC.seq ?_
          refine WC.block ?_
          refine WC.seq ?_
          refine WC.region ?_
          refine SL.pure rfl rfl rfl (PureOp.move rfl) ?_
          refine SL.pure rfl rfl rfl (PureOp.move rfl) ?_
          refine SL.pure rfl rfl rfl (PureOp.indexAddrN Try.underlying44 sz29 rfl rfl (AoOk.in_ sP) (fun _ => by omega)) ?_
          refine SL.pure rfl rfl rfl (PureOp.load (v := .slice ((nth P k).ao) ((nth P k).l.length) ((nth P k).cap)) Try.underlying29 rfl rfl (fun _ => (CellIs.in_ sP k 0 (by omega) (by omega)))) ?_
          refine SL.pure rfl rfl rfl (PureOp.move rfl) ?_
          refine SL.pure rfl rfl rfl (PureOp.indexAddrN Try.underlying29 sz3 rfl rfl (AoOk.any (fun w hw => (hJ k (by omega)).below hw.below)) (fun _ => by omega)) ?_
          refine SL.pure rfl rfl rfl (PureOp.load (v := .int .i64 (nth ((nth P k).l) j)) Try.underlying3 rfl rfl (fun _ => (CellIs.any (fun w hw => (hJ k (by omega)).below hw.below) j 0 (by omega) (by omega)))) ?_
          refine SL.pure rfl rfl rfl (PureOp.lss rfl rfl) ?_
          refine SL.nil_then ?_
          refine WC.cond rfl (fun h5 => ?_) (fun h5 => ?_)
          · try simp only [Bool.and_eq_true, Bool.or_eq_true, Bool.not_eq_true', Bool.not_eq_false', Bool.and_eq_false_iff, Bool.or_eq_false_iff, decide_eq_true_eq, decide_eq_false_iff_not, Int.not_lt, Int.not_le, ne_eq, Decidable.not_not] at h5
            refine WC.seq ?_
            refine WC.region ?_
            refine SL.pure rfl rfl rfl (PureOp.assign rfl) ?_
            refine SL.nil_then ?_
            refine WC.ret ?_
            refine QX.ret_in ?_
            refine QX.ret_then ?_
            refine QX.ret_then ?_
            refine QX.ret_in ?_
            refine QX.ret_in ?_
            refine QX.ret_then ?_
            refine QX.ret_then ?_
            refine QX.ret_in ?_
            refine QX.ret_then ?_
            refine QX.ret1 rfl rfl ?_
            intro w hw
            rw [shp_no (i := k) (by omega) (row_no2 (j := j) (by omega) (by omega))]
          · try simp only [Bool.and_eq_true, Bool.or_eq_true, Bool.not_eq_true', Bool.not_eq_false', Bool.and_eq_false_iff, Bool.or_eq_false_iff, decide_eq_true_eq, decide_eq_false_iff_not, Int.not_lt, Int.not_le, ne_eq, Decidable.not_not] at h5
            refine WC.skip ?_
            refine QX.normal_in ?_
            refine QX.then_ ?_
            refine WC.region ?_
            refine SL.pure rfl rfl rfl (PureOp.move rfl) ?_
            refine SL.pure rfl rfl rfl (PureOp.addN (k := 1) rfl rfl (fun _ => by omega)) ?_
            refine SL.pure rfl rfl rfl (PureOp.assign rfl) ?_
            refine SL.nil ?_
            refine QX.round 0 (j + 1) ⟨⟨(by first | omega | (dsimp only; omega)), allK_next hz2 (decide_eq_true (by omega))⟩, by first | omega | (dsimp only; omega)⟩ ⟨rfl, rfl, rfl, rfl, rfl, rfl, rfl, rfl, rfl, rfl, rfl, rfl, rfl, rfl, rfl, rfl, rfl, rfl, rfl, rfl, rfl, rfl, rfl, rfl, rfl, rfl, rfl, rfl, rfl, rfl, rfl, rfl, rfl, rfl, rfl, rfl, rfl, rfl, rfl, rfl, rfl, rfl, rfl, rfl, rfl, rfl, rfl, rfl, rfl, rfl, trivial⟩ rfl
        · try simp only [Bool.and_eq_true, Bool.or_eq_true, Bool.not_eq_true', Bool.not_eq_false', Bool.and_eq_false_iff, Bool.or_eq_false_iff, decide_eq_true_eq, decide_eq_false_iff_not, Int.not_lt, Int.not_le, ne_eq, Decidable.not_not] at h4
          refine WC.exit ?_
          refine QX.exit_then ?_
          refine QX.exit_then ?_
          refine QX.exit_hit ?_
          refine QX.normal_in ?_
          refine QX.then_ ?_
          refine WC.region ?_
          refine SL.pure rfl rfl rfl (PureOp.move rfl) ?_
          refine SL.pure rfl rfl rfl (PureOp.addN (k := 1) rfl rfl (fun _ => by omega)) ?_
          refine SL.pure rfl rfl rfl (PureOp.assign rfl) ?_
          refine SL.nil ?_
          refine QX.round 0 (k + 1) ⟨⟨(by first | omega | (dsimp only; omega)), allK_next hz1 (row_yes (by omega) (by rw [show (nth P k).l.length = j from by omega]; exact hz2))⟩, by first | omega | (dsimp only; omega)⟩ ⟨rfl, rfl, rfl, rfl, rfl, rfl, rfl, rfl, rfl, rfl, rfl, rfl, rfl, rfl, rfl, rfl, trivial⟩ rfl
    · try simp only [Bool.and_eq_true, Bool.or_eq_true, Bool.not_eq_true', Bool.not_eq_false', Bool.and_eq_false_iff, Bool.or_eq_false_iff, decide_eq_true_eq, decide_eq_false_iff_not, Int.not_lt, Int.not_le, ne_eq, Decidable.not_not] at h2
      refine WC.exit ?_
      refine QX.exit_then ?_
      refine QX.exit_then ?_
      refine QX.exit_hit ?_
      refine QX.then_ ?_
      refine WC.seq ?_
      refine WC.region ?_
      refine SL.pure rfl rfl rfl (PureOp.assign rfl) ?_
      refine SL.nil_then ?_
      refine WC.ret ?_
      refine QX.ret1 rfl rfl ?_
      intro w hw
      rw [shp_yes (by omega) (by rw [← hm, show m = k from by omega]; exact hz1)]

end Go.Proofs.Ytngkbnaehkailaa
