import Derived.Test.YtipmdakhmpaemaaPlain
import Derived.Test.YtipmdakhmpaemaaFacts
namespace Go.Proofs.Ytipmdakhmpaemaa
open Go Go.RowKit Eng
set_option linter.unusedVariables false
set_option linter.unusedSimpArgs false

set_option maxHeartbeats 4000000 in
set_option maxRecDepth 100000 in
theorem fits_ok (a : Int) (w0 : World) : FnC Try.prog 54 [.int .i64 a] w0 fun v w' => v = .bool (fitsB a) := by
  refine fnc (N := 9) Try.func54 rfl rfl rfl ?_
  refine WC.seq ?_
  refine WC.region ?_
  refine SL.pure rfl rfl rfl (PureOp.assign rfl) ?_
  refine SL.nil_then ?_
  refine WC.seq ?_
  refine WC.region ?_
  refine SL.pure rfl rfl rfl (PureOp.move rfl) ?_
  refine SL.pure rfl rfl rfl (PureOp.geq rfl rfl) ?_
  refine SL.pure rfl rfl rfl (PureOp.move rfl) ?_
  refine SL.newg 5 true rfl ?_
  refine SL.gpure (c := 1) rfl rfl rfl rfl rfl rfl rfl (PureOp.move rfl) ?_
  refine SL.gpure (c := 1) rfl rfl rfl rfl rfl rfl rfl (PureOp.leq rfl rfl) ?_
  refine SL.pure rfl rfl rfl (PureOp.and_ rfl rfl rfl rfl) ?_
  refine SL.pure rfl rfl rfl (PureOp.assign rfl) ?_
  refine SL.nil_then ?_
  refine WC.ret ?_
  refine QX.ret1 rfl rfl ?_
  intro w hw
  rfl

set_option maxHeartbeats 4000000 in
set_option maxRecDepth 100000 in
theorem amount_ok (a : Int) (w0 : World) : FnC Try.prog 57 [.int .i64 a] w0 fun v w' => v = .bool (fitsB a) := by
  refine fnc (N := 9) Try.func57 rfl rfl rfl ?_
  refine WC.seq ?_
  refine WC.region ?_
  refine SL.pure rfl rfl rfl (PureOp.assign rfl) ?_
  refine SL.nil_then ?_
  refine WC.seq ?_
  refine WC.region ?_
  refine SL.pure rfl rfl rfl (PureOp.move rfl) ?_
  refine SL.pure rfl rfl rfl (PureOp.geq rfl rfl) ?_
  refine SL.pure rfl rfl rfl (PureOp.move rfl) ?_
  refine SL.newg 5 true rfl ?_
  refine SL.gpure (c := 1) rfl rfl rfl rfl rfl rfl rfl (PureOp.move rfl) ?_
  refine SL.gpure (c := 1) rfl rfl rfl rfl rfl rfl rfl (PureOp.leq rfl rfl) ?_
  refine SL.pure rfl rfl rfl (PureOp.and_ rfl rfl rfl rfl) ?_
  refine SL.pure rfl rfl rfl (PureOp.assign rfl) ?_
  refine SL.nil_then ?_
  refine WC.ret ?_
  refine QX.ret1 rfl rfl ?_
  intro w hw
  rfl

set_option maxHeartbeats 4000000 in
set_option maxRecDepth 100000 in
theorem sum_ok (l : List Int) (ao : Option Addr) (n cap : Nat) (hn : n = l.length) (w0 : World) (hz : SliceIn w0 1 ao n cap (rowsF encI l)) (hnb : n ≤ 100000) : FnC Try.prog 35 [.slice ao n cap] w0 fun v w' => v = .tuple #[.int .i64 (sumE l).1, .int .i64 (sumE l).2] := by
  refine fnc (N := 28) Try.func35 rfl rfl rfl ?_
  refine WC.seq ?_
  refine WC.region ?_
  refine SL.pure rfl rfl rfl (PureOp.assign rfl) ?_
  refine SL.pure rfl rfl rfl (PureOp.assign rfl) ?_
  refine SL.nil_then ?_
  refine WC.seq ?_
  refine WC.region ?_
  refine SL.pure rfl rfl rfl (PureOp.assign rfl) ?_
  refine SL.nil_then ?_
  refine WC.seq ?_
  refine WC.seq ?_
  refine WC.region ?_
  refine SL.pure rfl rfl rfl (PureOp.move rfl) ?_
  refine SL.pure rfl rfl rfl (PureOp.len rfl Try.underlying89) ?_
  refine SL.pure rfl rfl rfl (PureOp.move rfl) ?_
  refine SL.nil_then ?_
  refine WC.block ?_
  refine WC.loop (σ := Nat × Int) (fun q_ => [(0, 0, .slice ao n cap), (7, 0, .slice ao n cap), (8, 0, .int .i64 ((n : Nat) : Int)), (9, 0, .int .i64 ((q_.1 : Nat) : Int)), (4, 0, .int .i64 q_.2)]) (fun q_ => []) (fun q_ => q_.1 ≤ n ∧ (-1099511627776 ≤ q_.2 ∧ q_.2 ≤ 1099511627776) ∧ sumGo q_.2 (l.drop q_.1) = sumE l) (fun q_ => n - q_.1) 0 ((0, 0)) (⟨Nat.zero_le _, by decide, rfl⟩) ⟨rfl, rfl, rfl, rfl, rfl, rfl, rfl, rfl, rfl, rfl, trivial⟩ rfl ?_
  rintro ⟨k, a⟩ ⟨hk, ha, hs⟩
  try dsimp only at *
  refine WC.seq ?_
  refine WC.region ?_
  refine SL.pure rfl rfl rfl (PureOp.lss rfl rfl) ?_
  refine SL.nil_then ?_
  refine WC.seq ?_
  refine WC.cond rfl (fun h1 => ?_) (fun h1 => ?_)
  · try simp only [Bool.and_eq_true, Bool.or_eq_true, Bool.not_eq_true', Bool.not_eq_false', Bool.and_eq_false_iff, Bool.or_eq_false_iff, decide_eq_true_eq, decide_eq_false_iff_not, Int.not_lt, Int.not_le, ne_eq, Decidable.not_not] at h1
    refine WC.skip ?_
    refine QX.then_ ?_
    refine WC.seq ?_
    refine WC.block ?_
    refine WC.seq ?_
    refine WC.region ?_
    refine SL.pure rfl rfl rfl (PureOp.indexAddrN Try.underlying89 sz3 rfl rfl (AoOk.in_ hz) (fun _ => by first | omega | (have q := fitsB_iff.1 h2.2; omega))) ?_
    refine SL.pure rfl rfl rfl (PureOp.load (v := .int .i64 (nth l k)) Try.underlying3 rfl rfl (fun _ => (CellIs.in_ hz k 0 (by first | omega | (have q := fitsB_iff.1 h2.2; omega)) (by omega)))) ?_
    refine SL.pure rfl rfl rfl (PureOp.assign rfl) ?_
    refine SL.nil_then ?_
    refine WC.seq ?_
    refine WC.seq ?_
    refine WC.region ?_
    refine SL.pure rfl rfl rfl (PureOp.move rfl) ?_
    refine SL.calle rfl rfl rfl rfl rfl rfl callable54 (fun w hw => fits_ok _ w) ?_
    refine SL.norm [] rfl ?_
    refine SL.pure rfl rfl rfl (PureOp.not rfl) ?_
    refine SL.pure rfl rfl rfl (PureOp.move rfl) ?_
    refine SL.newg 16 false rfl ?_
    refine SL.gpure (c := 1) rfl rfl rfl rfl rfl rfl rfl (PureOp.move rfl) ?_
    refine SL.gpure (c := 1) rfl rfl rfl rfl rfl rfl rfl (PureOp.move rfl) ?_
    refine SL.gpure (c := 1) rfl rfl rfl rfl rfl rfl rfl (PureOp.add rfl rfl (by intro hg; simp [gval] at hg; (have q := fitsB_iff.1 hg; omega))) ?_
    refine SL.gcalle (c := 1) rfl rfl rfl rfl rfl rfl rfl rfl rfl rfl callable54 (by intro hg; simp [gval] at hg; exact (fun w hw => fits_ok _ w)) ?_
    refine SL.norm [] rfl ?_
    refine SL.gpure (c := 1) rfl rfl rfl rfl rfl rfl rfl (PureOp.not rfl) ?_
    refine SL.pure rfl rfl rfl (PureOp.or_ rfl rfl rfl rfl) ?_
    refine SL.nil_then ?_
    refine WC.cond rfl (fun h2 => ?_) (fun h2 => ?_)
    · try simp only [Bool.and_eq_true, Bool.or_eq_true, Bool.not_eq_true', Bool.not_eq_false', Bool.and_eq_false_iff, Bool.or_eq_false_iff, decide_eq_true_eq, decide_eq_false_iff_not, Int.not_lt, Int.not_le, ne_eq, Decidable.not_not] at h2
      refine WC.seq ?_
      refine WC.region ?_
      refine SL.pure rfl rfl rfl (PureOp.assign rfl) ?_
      refine SL.pure rfl rfl rfl (PureOp.assign rfl) ?_
      refine SL.nil_then ?_
      refine WC.ret ?_
      refine QX.ret_then ?_
      refine QX.ret_in ?_
      refine QX.ret_then ?_
      refine QX.ret_then ?_
      refine QX.ret_in ?_
      refine QX.ret_then ?_
      refine QX.ret2 rfl rfl rfl ?_
      intro w hw
      rw [sumGo_drop (by omega), if_neg (fun q => by rcases h2 with h | h; (rw [q.1] at h; cases h); (rw [q.2] at h; cases h))] at hs
      rw [← hs]
    · try simp only [Bool.and_eq_true, Bool.or_eq_true, Bool.not_eq_true', Bool.not_eq_false', Bool.and_eq_false_iff, Bool.or_eq_false_iff, decide_eq_true_eq, decide_eq_false_iff_not, Int.not_lt, Int.not_le, ne_eq, Decidable.not_not] at h2
      refine WC.skip ?_
      refine QX.then_ ?_
      refine WC.region ?_
      refine SL.pure rfl rfl rfl (PureOp.move rfl) ?_
      refine SL.pure rfl rfl rfl (PureOp.move rfl) ?_
      refine SL.pure rfl rfl rfl (PureOp.add rfl rfl (fun _ => by first | omega | (have q := fitsB_iff.1 h2.2; omega))) ?_
      refine SL.pure rfl rfl rfl (PureOp.assign rfl) ?_
      refine SL.nil ?_
      refine QX.normal_in ?_
      refine QX.then_ ?_
      refine WC.region ?_
      refine SL.pure rfl rfl rfl (PureOp.addN (k := 1) rfl rfl (fun _ => by first | omega | (have q := fitsB_iff.1 h2.2; omega))) ?_
      refine SL.pure rfl rfl rfl (PureOp.move rfl) ?_
      refine SL.nil ?_
      refine QX.round (σ := Nat × Int) (Ef := fun q_ => [(0, 0, .slice ao n cap), (7, 0, .slice ao n cap), (8, 0, .int .i64 ((n : Nat) : Int)), (9, 0, .int .i64 ((q_.1 : Nat) : Int)), (4, 0, .int .i64 q_.2)]) (Hf := fun q_ => []) (I := fun q_ => q_.1 ≤ n ∧ (-1099511627776 ≤ q_.2 ∧ q_.2 ≤ 1099511627776) ∧ sumGo q_.2 (l.drop q_.1) = sumE l) (μ := fun q_ => n - q_.1) (s := (k, a)) 0 ((k + 1, a + nth l k)) ⟨⟨(by first | omega | (dsimp only; omega)), fitsB_iff.1 h2.2, by rw [sumGo_drop (by omega), if_pos h2] at hs; exact hs⟩, by first | omega | (dsimp only; omega)⟩ ⟨rfl, rfl, rfl, rfl, rfl, rfl, rfl, rfl, rfl, rfl, trivial⟩ rfl
  · try simp only [Bool.and_eq_true, Bool.or_eq_true, Bool.not_eq_true', Bool.not_eq_false', Bool.and_eq_false_iff, Bool.or_eq_false_iff, decide_eq_true_eq, decide_eq_false_iff_not, Int.not_lt, Int.not_le, ne_eq, Decidable.not_not] at h1
    refine WC.exit ?_
    refine QX.exit_then ?_
    refine QX.exit_then ?_
    refine QX.exit_hit ?_
    refine QX.then_ ?_
    refine WC.seq ?_
    refine WC.region ?_
    refine SL.pure rfl rfl rfl (PureOp.move rfl) ?_
    refine SL.pure rfl rfl rfl (PureOp.assign rfl) ?_
    refine SL.pure rfl rfl rfl (PureOp.assign rfl) ?_
    refine SL.nil_then ?_
    refine WC.ret ?_
    refine QX.ret2 rfl rfl rfl ?_
    intro w hw
    obtain rfl : k = n := by omega
    rw [List.drop_eq_nil_of_le (by omega)] at hs
    rw [← hs]; rfl

set_option maxHeartbeats 4000000 in
set_option maxRecDepth 100000 in
theorem radd_ok (a b : Int) (ha : In64 a) (hb : In64 b) (w0 : World) : FnC Try.prog 43 [.int .i64 a, .int .i64 b] w0 fun v w' => v = .tuple #[.int .i64 (addE a b).1, .int .i64 (addE a b).2] := by
  refine fnc (N := 24) Try.func43 rfl rfl rfl ?_
  refine WC.seq ?_
  refine WC.region ?_
  refine SL.pure rfl rfl rfl (PureOp.assign rfl) ?_
  refine SL.pure rfl rfl rfl (PureOp.assign rfl) ?_
  refine SL.nil_then ?_
  refine WC.seq ?_
  refine WC.seq ?_
  refine WC.region ?_
  refine SL.pure rfl rfl rfl (PureOp.move rfl) ?_
  refine SL.calle rfl rfl rfl rfl rfl rfl callable57 (fun w hw => amount_ok _ w) ?_
  refine SL.norm [] rfl ?_
  refine SL.pure rfl rfl rfl (PureOp.not rfl) ?_
  refine SL.pure rfl rfl rfl (PureOp.move rfl) ?_
  refine SL.newg 9 false rfl ?_
  refine SL.gpure (c := 1) rfl rfl rfl rfl rfl rfl rfl (PureOp.move rfl) ?_
  refine SL.gcalle (c := 1) rfl rfl rfl rfl rfl rfl rfl rfl rfl rfl callable57 (by intro hg; simp [gval] at hg; exact (fun w hw => amount_ok _ w)) ?_
  refine SL.norm [] rfl ?_
  refine SL.gpure (c := 1) rfl rfl rfl rfl rfl rfl rfl (PureOp.not rfl) ?_
  refine SL.pure rfl rfl rfl (PureOp.or_ rfl rfl rfl rfl) ?_
  refine SL.pure rfl rfl rfl (PureOp.move rfl) ?_
  refine SL.newg 14 false rfl ?_
  refine SL.gpure (c := 2) rfl rfl rfl rfl rfl rfl rfl (PureOp.move rfl) ?_
  refine SL.gpure (c := 2) rfl rfl rfl rfl rfl rfl rfl (PureOp.move rfl) ?_
  refine SL.gpure (c := 2) rfl rfl rfl rfl rfl rfl rfl (PureOp.add rfl rfl (by intro hg; simp [gval] at hg; (have q := hg; simp only [fitsB_iff, fitsB_not, Bool.or_eq_false_iff, Bool.not_eq_false', Bool.not_eq_true', Bool.or_eq_true] at q; omega))) ?_
  refine SL.gcalle (c := 2) rfl rfl rfl rfl rfl rfl rfl rfl rfl rfl callable57 (by intro hg; simp [gval] at hg; exact (fun w hw => amount_ok _ w)) ?_
  refine SL.norm [] rfl ?_
  refine SL.gpure (c := 2) rfl rfl rfl rfl rfl rfl rfl (PureOp.not rfl) ?_
  refine SL.pure rfl rfl rfl (PureOp.or_ rfl rfl rfl rfl) ?_
  refine SL.nil_then ?_
  refine WC.cond rfl (fun h1 => ?_) (fun h1 => ?_)
  · try simp only [Bool.and_eq_true, Bool.or_eq_true, Bool.not_eq_true', Bool.not_eq_false', Bool.and_eq_false_iff, Bool.or_eq_false_iff, decide_eq_true_eq, decide_eq_false_iff_not, Int.not_lt, Int.not_le, ne_eq, Decidable.not_not] at h1
    refine WC.seq ?_
    refine WC.region ?_
    refine SL.pure rfl rfl rfl (PureOp.assign rfl) ?_
    refine SL.pure rfl rfl rfl (PureOp.assign rfl) ?_
    refine SL.nil_then ?_
    refine WC.ret ?_
    refine QX.ret_then ?_
    refine QX.ret2 rfl rfl rfl ?_
    intro w hw
    rw [addE, if_neg (by rintro ⟨q1, q2, q3⟩; simp_all)]
  · try simp only [Bool.and_eq_true, Bool.or_eq_true, Bool.not_eq_true', Bool.not_eq_false', Bool.and_eq_false_iff, Bool.or_eq_false_iff, decide_eq_true_eq, decide_eq_false_iff_not, Int.not_lt, Int.not_le, ne_eq, Decidable.not_not] at h1
    refine WC.skip ?_
    refine QX.then_ ?_
    refine WC.seq ?_
    refine WC.region ?_
    refine SL.pure rfl rfl rfl (PureOp.move rfl) ?_
    refine SL.pure rfl rfl rfl (PureOp.move rfl) ?_
    refine SL.pure rfl rfl rfl (PureOp.add rfl rfl (fun _ => by first | omega | (simp only [fitsB_iff] at *; omega))) ?_
    refine SL.pure rfl rfl rfl (PureOp.assign rfl) ?_
    refine SL.pure rfl rfl rfl (PureOp.assign rfl) ?_
    refine SL.nil_then ?_
    refine WC.ret ?_
    refine QX.ret2 rfl rfl rfl ?_
    intro w hw
    rw [addE, if_pos (by simp_all)]

set_option maxHeartbeats 4000000 in
set_option maxRecDepth 100000 in
theorem rsum_ok (l : List Int) (ao : Option Addr) (n cap : Nat) (hn : n = l.length) (w0 : World) (hz : SliceIn w0 1 ao n cap (rowsF encI l)) (hnb : n ≤ 100000) (h64 : ∀ x ∈ l, In64 x) : FnC Try.prog 36 [.slice ao n cap] w0 fun v w' => v = .tuple #[.int .i64 (sumE l).1, .int .i64 (sumE l).2] := by
  refine fnc (N := 28) Try.func36 rfl rfl rfl ?_
  refine WC.seq ?_
  refine WC.region ?_
  refine SL.pure rfl rfl rfl (PureOp.assign rfl) ?_
  refine SL.pure rfl rfl rfl (PureOp.assign rfl) ?_
  refine SL.nil_then ?_
  refine WC.seq ?_
  refine WC.region ?_
  refine SL.pure rfl rfl rfl (PureOp.assign rfl) ?_
  refine SL.nil_then ?_
  refine WC.seq ?_
  refine WC.seq ?_
  refine WC.region ?_
  refine SL.pure rfl rfl rfl (PureOp.assign rfl) ?_
  refine SL.nil_then ?_
  refine WC.block ?_
  refine WC.loop (σ := Nat × Int) (fun q_ => [(0, 0, .slice ao n cap), (5, 0, .int .i64 ((q_.1 : Nat) : Int)), (4, 0, .int .i64 q_.2)]) (fun q_ => []) (fun q_ => q_.1 ≤ n ∧ (-1099511627776 ≤ q_.2 ∧ q_.2 ≤ 1099511627776) ∧ sumGo q_.2 (l.drop q_.1) = sumE l) (fun q_ => n - q_.1) 0 ((0, 0)) (⟨Nat.zero_le _, by decide, rfl⟩) ⟨rfl, rfl, rfl, rfl, rfl, rfl, trivial⟩ rfl ?_
  rintro ⟨k, a⟩ ⟨hk, ha, hs⟩
  try dsimp only at *
  refine WC.seq ?_
  refine WC.seq ?_
  refine WC.region ?_
  refine SL.pure rfl rfl rfl (PureOp.move rfl) ?_
  refine SL.pure rfl rfl rfl (PureOp.move rfl) ?_
  refine SL.pure rfl rfl rfl (PureOp.len rfl Try.underlying89) ?_
  refine SL.pure rfl rfl rfl (PureOp.lss rfl rfl) ?_
  refine SL.nil_then ?_
  refine WC.cond rfl (fun h1 => ?_) (fun h1 => ?_)
  · try simp only [Bool.and_eq_true, Bool.or_eq_true, Bool.not_eq_true', Bool.not_eq_false', Bool.and_eq_false_iff, Bool.or_eq_false_iff, decide_eq_true_eq, decide_eq_false_iff_not, Int.not_lt, Int.not_le, ne_eq, Decidable.not_not] at h1
    refine WC.skip ?_
    refine QX.then_ ?_
    refine WC.seq ?_
    refine WC.block ?_
    refine WC.seq ?_
    refine WC.region ?_
    refine SL.pure rfl rfl rfl (PureOp.move rfl) ?_
    refine SL.pure rfl rfl rfl (PureOp.move rfl) ?_
    refine SL.pure rfl rfl rfl (PureOp.move rfl) ?_
    refine SL.pure rfl rfl rfl (PureOp.indexAddrN Try.underlying89 sz3 rfl rfl (AoOk.in_ hz) (fun _ => by omega)) ?_
    refine SL.pure rfl rfl rfl (PureOp.load (v := .int .i64 (nth l k)) Try.underlying3 rfl rfl (fun _ => (CellIs.in_ hz k 0 (by omega) (by omega)))) ?_
    refine SL.calle rfl rfl rfl rfl rfl rfl callable43 (fun w hw => radd_ok a (nth l k) (by unfold In64; omega) (h64 _ (nth_mem (by omega))) w) ?_
    refine SL.norm [] rfl ?_
    refine SL.pure rfl rfl rfl (PureOp.move rfl) ?_
    refine SL.pure rfl rfl rfl (PureOp.extract rfl rfl) ?_
    refine SL.pure rfl rfl rfl (PureOp.extract rfl rfl) ?_
    refine SL.pure rfl rfl rfl (PureOp.assign rfl) ?_
    refine SL.pure rfl rfl rfl (PureOp.assign rfl) ?_
    refine SL.nil_then ?_
    refine WC.seq ?_
    refine WC.seq ?_
    refine WC.region ?_
    refine SL.pure rfl rfl rfl (PureOp.move rfl) ?_
    refine SL.pure rfl rfl rfl (PureOp.neq rfl rfl) ?_
    refine SL.nil_then ?_
    refine WC.cond rfl (fun h2 => ?_) (fun h2 => ?_)
    · try simp only [Bool.and_eq_true, Bool.or_eq_true, Bool.not_eq_true', Bool.not_eq_false', Bool.and_eq_false_iff, Bool.or_eq_false_iff, decide_eq_true_eq, decide_eq_false_iff_not, Int.not_lt, Int.not_le, ne_eq, Decidable.not_not] at h2
      refine WC.seq ?_
      refine WC.region ?_
      refine SL.pure rfl rfl rfl (PureOp.move rfl) ?_
      refine SL.pure rfl rfl rfl (PureOp.assign rfl) ?_
      refine SL.pure rfl rfl rfl (PureOp.assign rfl) ?_
      refine SL.nil_then ?_
      refine WC.ret ?_
      refine QX.ret_then ?_
      refine QX.ret_in ?_
      refine QX.ret_then ?_
      refine QX.ret_then ?_
      refine QX.ret_in ?_
      refine QX.ret_then ?_
      refine QX.ret2 rfl rfl rfl ?_
      intro w hw
      have q0 : fitsB a = true := fitsB_iff.2 ha
      have q : ¬ (fitsB (nth l k) = true ∧ fitsB (a + nth l k) = true) := fun q => h2 (by rw [addE, if_pos ⟨q0, q⟩])
      have q1 : addE a (nth l k) = (0, 11) := by rw [addE, if_neg (fun z => q z.2)]
      rw [sumGo_drop (by omega), if_neg q] at hs
      rw [← hs, q1]; rfl
    · try simp only [Bool.and_eq_true, Bool.or_eq_true, Bool.not_eq_true', Bool.not_eq_false', Bool.and_eq_false_iff, Bool.or_eq_false_iff, decide_eq_true_eq, decide_eq_false_iff_not, Int.not_lt, Int.not_le, ne_eq, Decidable.not_not] at h2
      refine WC.skip ?_
      refine QX.then_ ?_
      refine WC.region ?_
      refine SL.pure rfl rfl rfl (PureOp.move rfl) ?_
      refine SL.pure rfl rfl rfl (PureOp.assign rfl) ?_
      refine SL.nil ?_
      refine QX.normal_in ?_
      refine QX.then_ ?_
      refine WC.region ?_
      refine SL.pure rfl rfl rfl (PureOp.move rfl) ?_
      refine SL.pure rfl rfl rfl (PureOp.addN (k := 1) rfl rfl (fun _ => by omega)) ?_
      refine SL.pure rfl rfl rfl (PureOp.assign rfl) ?_
      refine SL.nil ?_
      have q0 : fitsB a = true := fitsB_iff.2 ha
      have q : fitsB (nth l k) = true ∧ fitsB (a + nth l k) = true := by unfold addE at h2; split at h2; (rename_i q; exact ⟨q.2.1, q.2.2⟩); cases h2
      have q1 : addE a (nth l k) = (a + nth l k, 0) := by rw [addE, if_pos ⟨q0, q⟩]
      refine QX.round (σ := Nat × Int) (Ef := fun q_ => [(0, 0, .slice ao n cap), (5, 0, .int .i64 ((q_.1 : Nat) : Int)), (4, 0, .int .i64 q_.2)]) (Hf := fun q_ => []) (I := fun q_ => q_.1 ≤ n ∧ (-1099511627776 ≤ q_.2 ∧ q_.2 ≤ 1099511627776) ∧ sumGo q_.2 (l.drop q_.1) = sumE l) (μ := fun q_ => n - q_.1) (s := (k, a)) 0 ((k + 1, (addE a (nth l k)).1)) ⟨⟨(by first | omega | (dsimp only; omega)), by rw [q1]; exact fitsB_iff.1 q.2, by rw [q1]; rw [sumGo_drop (by omega), if_pos q] at hs; exact hs⟩, by first | omega | (dsimp only; omega)⟩ ⟨rfl, rfl, rfl, rfl, rfl, rfl, trivial⟩ rfl
  · try simp only [Bool.and_eq_true, Bool.or_eq_true, Bool.not_eq_true', Bool.not_eq_false', Bool.and_eq_false_iff, Bool.or_eq_false_iff, decide_eq_true_eq, decide_eq_false_iff_not, Int.not_lt, Int.not_le, ne_eq, Decidable.not_not] at h1
    refine WC.exit ?_
    refine QX.exit_then ?_
    refine QX.exit_then ?_
    refine QX.exit_hit ?_
    refine QX.then_ ?_
    refine WC.seq ?_
    refine WC.region ?_
    refine SL.pure rfl rfl rfl (PureOp.move rfl) ?_
    refine SL.pure rfl rfl rfl (PureOp.assign rfl) ?_
    refine SL.pure rfl rfl rfl (PureOp.assign rfl) ?_
    refine SL.nil_then ?_
    refine WC.ret ?_
    refine QX.ret2 rfl rfl rfl ?_
    intro w hw
    obtain rfl : k = n := by omega
    rw [List.drop_eq_nil_of_le (by omega)] at hs
    rw [← hs]; rfl

theorem sum2 (a b : Int) : sumE [a, b] = addE a b := by
  simp only [sumE, sumGo, addE, Int.zero_add]
  by_cases h1 : fitsB a = true
  · by_cases h2 : fitsB b = true ∧ fitsB (a + b) = true
    · rw [if_pos ⟨h1, h1⟩, if_pos h2, if_pos ⟨h1, h2⟩]
    · rw [if_pos ⟨h1, h1⟩, if_neg h2, if_neg (fun q => h2 q.2)]
  · rw [if_neg (fun q => h1 q.1), if_neg (fun q => h1 q.1)]

set_option maxHeartbeats 4000000 in
set_option maxRecDepth 100000 in
theorem add_ok (a b : Int) (w0 : World) : FnC Try.prog 40 [.int .i64 a, .int .i64 b] w0 fun v w' => v = .tuple #[.int .i64 (addE a b).1, .int .i64 (addE a b).2] := by
  refine fnc (N := 12) Try.func40 rfl rfl rfl ?_
  refine WC.seq ?_
  refine WC.region ?_
  refine SL.pure rfl rfl rfl (PureOp.assign rfl) ?_
  refine SL.pure rfl rfl rfl (PureOp.assign rfl) ?_
  refine SL.nil_then ?_
  refine WC.seq ?_
  refine WC.region ?_
  refine SL.pure rfl rfl rfl (PureOp.move rfl) ?_
  refine SL.pure rfl rfl rfl (PureOp.move rfl) ?_
  refine SL.buildSlice rfl rfl Try.underlying89 elem3 rfl rfl rfl rfl (fun b1 hb1 => ?_)
  refine SL.norm [_] rfl ?_
  refine SL.calle rfl rfl rfl rfl rfl rfl callable35 (fun w hw => sum_ok ([a, b]) _ _ _ rfl w (SliceIn.rows (enc := encI) (l := ([a, b])) (hw.mem (i := 0) rfl) encI_len (by first | decide | omega | simp)) (by first | decide | omega | simp)) ?_
  refine SL.norm [_] rfl ?_
  refine SL.pure rfl rfl rfl (PureOp.extract rfl rfl) ?_
  refine SL.pure rfl rfl rfl (PureOp.extract rfl rfl) ?_
  refine SL.pure rfl rfl rfl (PureOp.assign rfl) ?_
  refine SL.pure rfl rfl rfl (PureOp.assign rfl) ?_
  refine SL.nil_then ?_
  refine WC.ret ?_
  refine QX.ret2 rfl rfl rfl ?_
  intro w hw
  rw [← sum2]; rfl

end Go.Proofs.Ytipmdakhmpaemaa
