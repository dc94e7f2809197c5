import Derived.Test.YtdiegelbpdknaaaPlain
import Derived.Test.YtdiegelbpdknaaaFacts
namespace Go.Proofs.Ytdiegelbpdknaaa
open Go Go.RowKit Eng
set_option linter.unusedVariables false
set_option linter.unusedSimpArgs false

set_option maxHeartbeats 4000000 in
set_option maxRecDepth 100000 in
theorem index_ok (l : List Int) (ao : Option Addr) (n cap : Nat) (hn : n = l.length) (w0 : World) (hz : SliceIn w0 1 ao n cap (rowsF encI l)) (x : Int) (hnb : n ≤ 1000) : FnC Try.prog 29 [.slice ao n cap, .int .i64 x] w0 fun v w' => v = .int .i64 (ixF x l 0) := by
  refine fnc (N := 19) Try.func29 rfl rfl rfl ?_
  refine WC.seq ?_
  refine WC.region ?_
  refine SL.pure rfl rfl rfl (PureOp.assign rfl) ?_
  refine SL.nil_then ?_
  refine WC.seq ?_
  refine WC.seq ?_
  refine WC.region ?_
  refine SL.pure rfl rfl rfl (PureOp.move rfl) ?_
  refine SL.pure rfl rfl rfl (PureOp.len rfl Try.underlying22) ?_
  refine SL.pure rfl rfl rfl (PureOp.move rfl) ?_
  refine SL.nil_then ?_
  refine WC.block ?_
  refine WC.loop (σ := Nat) (fun s => [(0, 0, .slice ao n cap), (1, 0, .int .i64 x), (6, 0, .slice ao n cap), (7, 0, .int .i64 n), (8, 0, .int .i64 (s : Nat))]) (fun _ => []) (fun k => k ≤ n ∧ ixF x (l.drop k) k = ixF x l 0) (fun k => n - k) 0 (0) (⟨Nat.zero_le _, rfl⟩) ⟨rfl, rfl, rfl, rfl, rfl, rfl, rfl, rfl, rfl, rfl, trivial⟩ rfl ?_
  rintro k ⟨hk, hI⟩
  refine WC.seq ?_
  refine WC.region ?_
  refine SL.pure rfl rfl rfl (PureOp.lss rfl rfl) ?_
  refine SL.nil_then ?_
  refine WC.seq ?_
  refine WC.cond rfl (fun h1 => ?_) (fun h1 => ?_)
  · try simp only [Bool.and_eq_true, Bool.or_eq_true, Bool.not_eq_true', Bool.not_eq_false', Bool.and_eq_false_iff, Bool.or_eq_false_iff, decide_eq_true_eq, decide_eq_false_iff_not, Int.not_lt, Int.not_le, ne_eq, Decidable.not_not] at h1
    refine WC.skip ?_
    refine QX.then_ ?_
    refine WC.seq ?_
    refine WC.block ?_
    refine WC.seq ?_
    refine WC.region ?_
    refine SL.pure rfl rfl rfl (PureOp.move rfl) ?_
    refine SL.pure rfl rfl rfl (PureOp.assign rfl) ?_
    refine SL.nil_then ?_
    refine WC.seq ?_
    refine WC.region ?_
    refine SL.pure rfl rfl rfl (PureOp.move rfl) ?_
    refine SL.pure rfl rfl rfl (PureOp.move rfl) ?_
    refine SL.pure rfl rfl rfl (PureOp.move rfl) ?_
    refine SL.pure rfl rfl rfl (PureOp.indexAddrN Try.underlying22 sz3 rfl rfl (AoOk.in_ hz) (fun _ => by omega)) ?_
    refine SL.pure rfl rfl rfl (PureOp.load Try.underlying3 rfl rfl (fun _ => (CellIs.in_ hz _ 0 (by omega) (by omega)))) ?_
    refine SL.pure rfl rfl rfl (PureOp.eql rfl rfl) ?_
    refine SL.nil_then ?_
    refine WC.cond rfl (fun h2 => ?_) (fun h2 => ?_)
    · try simp only [Bool.and_eq_true, Bool.or_eq_true, Bool.not_eq_true', Bool.not_eq_false', Bool.and_eq_false_iff, Bool.or_eq_false_iff, decide_eq_true_eq, decide_eq_false_iff_not, Int.not_lt, Int.not_le, ne_eq, Decidable.not_not] at h2
      refine WC.seq ?_
      refine WC.region ?_
      refine SL.pure rfl rfl rfl (PureOp.move rfl) ?_
      refine SL.pure rfl rfl rfl (PureOp.assign rfl) ?_
      refine SL.nil_then ?_
      refine WC.ret ?_
      refine QX.ret_in ?_
      refine QX.ret_then ?_
      refine QX.ret_then ?_
      refine QX.ret_in ?_
      refine QX.ret_then ?_
      refine QX.ret1 rfl rfl ?_
      intro w hw
      have e := drop_nth (l := l) (i := k) (by omega)
      rw [e] at hI
      simp only [ixF] at hI
      rw [if_pos (show x = nth l k by omega)] at hI
      rw [← hI]
    · try simp only [Bool.and_eq_true, Bool.or_eq_true, Bool.not_eq_true', Bool.not_eq_false', Bool.and_eq_false_iff, Bool.or_eq_false_iff, decide_eq_true_eq, decide_eq_false_iff_not, Int.not_lt, Int.not_le, ne_eq, Decidable.not_not] at h2
      refine WC.skip ?_
      refine QX.normal_in ?_
      refine QX.then_ ?_
      refine WC.region ?_
      refine SL.pure rfl rfl rfl (PureOp.add rfl rfl (fun _ => by omega)) ?_
      refine SL.pure rfl rfl rfl (PureOp.move rfl) ?_
      refine SL.nil ?_
      have e := drop_nth (l := l) (i := k) (by omega)
      rw [e] at hI
      simp only [ixF] at hI
      rw [if_neg (show ¬ x = nth l k by omega)] at hI
      refine QX.round 0 (k + 1) ⟨⟨by omega, hI⟩, by omega⟩ ⟨rfl, rfl, rfl, rfl, rfl, rfl, rfl, rfl, rfl, rfl, trivial⟩ rfl
  · try simp only [Bool.and_eq_true, Bool.or_eq_true, Bool.not_eq_true', Bool.not_eq_false', Bool.and_eq_false_iff, Bool.or_eq_false_iff, decide_eq_true_eq, decide_eq_false_iff_not, Int.not_lt, Int.not_le, ne_eq, Decidable.not_not] at h1
    refine WC.exit ?_
    refine QX.exit_then ?_
    refine QX.exit_then ?_
    refine QX.exit_hit ?_
    refine QX.then_ ?_
    refine WC.seq ?_
    refine WC.region ?_
    refine SL.pure rfl rfl rfl (PureOp.assign rfl) ?_
    refine SL.nil_then ?_
    refine WC.ret ?_
    refine QX.ret1 rfl rfl ?_
    intro w hw
    have e : l.drop k = [] := List.drop_eq_nil_of_le (by omega)
    rw [← hI, e]
    rfl

set_option maxHeartbeats 4000000 in
set_option maxRecDepth 100000 in
theorem contains_ok (l : List Int) (ao : Option Addr) (n cap : Nat) (hn : n = l.length) (w0 : World) (hz : SliceIn w0 1 ao n cap (rowsF encI l)) (x : Int) (hnb : n ≤ 1000) : FnC Try.prog 22 [.slice ao n cap, .int .i64 x] w0 fun v w' => v = .bool (decide (x ∈ l)) := by
  refine fnc (N := 9) Try.func22 rfl rfl rfl ?_
  refine WC.seq ?_
  refine WC.region ?_
  refine SL.pure rfl rfl rfl (PureOp.assign rfl) ?_
  refine SL.nil_then ?_
  refine WC.seq ?_
  refine WC.region ?_
  refine SL.pure rfl rfl rfl (PureOp.move rfl) ?_
  refine SL.pure rfl rfl rfl (PureOp.move rfl) ?_
  refine SL.calle rfl rfl rfl rfl rfl rfl callable29 (fun w hw => index_ok l ao n cap hn w (hz.below hw.below) x hnb) ?_
  refine SL.pure rfl rfl rfl (PureOp.geq rfl rfl) ?_
  refine SL.pure rfl rfl rfl (PureOp.assign rfl) ?_
  refine SL.nil_then ?_
  refine WC.ret ?_
  refine QX.ret1 rfl rfl ?_
  intro w hw
  exact congrArg Value.bool (decide_eq_decide.2 (ixF_iff x l 0 (by omega)))

end Go.Proofs.Ytdiegelbpdknaaa
