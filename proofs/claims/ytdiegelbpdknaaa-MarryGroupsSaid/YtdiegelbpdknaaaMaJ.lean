import Derived.Test.YtdiegelbpdknaaaMaI
namespace Go.Proofs.Ytdiegelbpdknaaa
open Go Go.RowKit Eng
set_option linter.unusedVariables false
set_option linter.unusedSimpArgs false

set_option maxHeartbeats 4000000 in
set_option maxRecDepth 100000 in
theorem pos_ok (x : Int) (w0 : World) : FnC Try.prog 26 [.int .i64 x] w0 fun v w' => v = .bool (decide (0 < x)) := by
  refine fnc (N := 5) Try.func26 rfl rfl rfl ?_
  refine WC.seq ?_
  refine WC.region ?_
  refine SL.pure rfl rfl rfl (PureOp.assign rfl) ?_
  refine SL.nil_then ?_
  refine WC.seq ?_
  refine WC.region ?_
  refine SL.pure rfl rfl rfl (PureOp.move rfl) ?_
  refine SL.pure rfl rfl rfl (PureOp.gtr rfl rfl) ?_
  refine SL.pure rfl rfl rfl (PureOp.assign rfl) ?_
  refine SL.nil_then ?_
  refine WC.ret ?_
  refine QX.ret1 rfl rfl ?_
  intro w hw
  rfl

set_option maxHeartbeats 4000000 in
set_option maxRecDepth 100000 in
theorem indexf_ok (l : List Int) (ao : Option Addr) (n cap : Nat) (hn : n = l.length) (w0 : World) (hz : SliceIn w0 1 ao n cap (rowsF encI l)) (hnb : n ≤ 1000) : FnC Try.prog 30 [.slice ao n cap, .func (.func 26) #[] #[]] w0 fun v w' => v = .int .i64 (ixP l 0) := by
  refine fnc (N := 19) Try.func30 rfl rfl rfl ?_
  refine WC.seq ?_
  refine WC.region ?_
  refine SL.pure rfl rfl rfl (PureOp.assign rfl) ?_
  refine SL.nil_then ?_
  refine WC.seq ?_
  refine WC.seq ?_
  refine WC.region ?_
  refine SL.pure rfl rfl rfl (PureOp.move rfl) ?_
  refine SL.pure rfl rfl rfl (PureOp.len rfl Try.underlying22) ?_
  refine SL.pure rfl rfl rfl (PureOp.move rfl) ?_
  refine SL.nil_then ?_
  refine WC.block ?_
  refine WC.loop (σ := Nat) (fun s => [(0, 0, .slice ao n cap), (1, 0, .func (.func 26) #[] #[]), (6, 0, .slice ao n cap), (7, 0, .int .i64 n), (8, 0, .int .i64 (s : Nat))]) (fun _ => []) (fun k => k ≤ n ∧ ixP (l.drop k) k = ixP l 0) (fun k => n - k) 0 (0) (⟨Nat.zero_le _, rfl⟩) ⟨rfl, rfl, rfl, rfl, rfl, rfl, rfl, rfl, rfl, rfl, trivial⟩ rfl ?_
  rintro k ⟨hk, hI⟩
  refine WC.seq ?_
  refine WC.region ?_
  refine SL.pure rfl rfl rfl (PureOp.lss rfl rfl) ?_
  refine SL.nil_then ?_
  refine WC.seq ?_
  refine WC.cond rfl (fun h1 => ?_) (fun h1 => ?_)
  · try simp only [Bool.and_eq_true, Bool.or_eq_true, Bool.not_eq_true', Bool.not_eq_false', Bool.and_eq_false_iff, Bool.or_eq_false_iff, decide_eq_true_eq, decide_eq_false_iff_not, Int.not_lt, Int.not_le, ne_eq, Decidable.not_not] at h1
    refine WC.skip ?_
    refine QX.then_ ?_
    refine WC.seq ?_
    refine WC.block ?_
    refine WC.seq ?_
    refine WC.region ?_
    refine SL.pure rfl rfl rfl (PureOp.move rfl) ?_
    refine SL.pure rfl rfl rfl (PureOp.assign rfl) ?_
    refine SL.nil_then ?_
    refine WC.seq ?_
    refine WC.region ?_
    refine SL.pure rfl rfl rfl (PureOp.move rfl) ?_
    refine SL.pure rfl rfl rfl (PureOp.move rfl) ?_
    refine SL.pure rfl rfl rfl (PureOp.move rfl) ?_
    refine SL.pure rfl rfl rfl (PureOp.indexAddrN Try.underlying22 sz3 rfl rfl (AoOk.in_ hz) (fun _ => by omega)) ?_
    refine SL.pure rfl rfl rfl (PureOp.load Try.underlying3 rfl rfl (fun _ => (CellIs.in_ hz _ 0 (by omega) (by omega)))) ?_
    refine SL.calle rfl rfl rfl rfl rfl rfl callable26 (fun w hw => pos_ok _ w) ?_
    refine SL.nil_then ?_
    refine WC.cond rfl (fun h2 => ?_) (fun h2 => ?_)
    · try simp only [Bool.and_eq_true, Bool.or_eq_true, Bool.not_eq_true', Bool.not_eq_false', Bool.and_eq_false_iff, Bool.or_eq_false_iff, decide_eq_true_eq, decide_eq_false_iff_not, Int.not_lt, Int.not_le, ne_eq, Decidable.not_not] at h2
      refine WC.seq ?_
      refine WC.region ?_
      refine SL.pure rfl rfl rfl (PureOp.move rfl) ?_
      refine SL.pure rfl rfl rfl (PureOp.assign rfl) ?_
      refine SL.nil_then ?_
      refine WC.ret ?_
      refine QX.ret_in ?_
      refine QX.ret_then ?_
      refine QX.ret_then ?_
      refine QX.ret_in ?_
      refine QX.ret_then ?_
      refine QX.ret1 rfl rfl ?_
      intro w hw
      have e := drop_nth (l := l) (i := k) (by omega)
      rw [e] at hI
      simp only [ixP] at hI
      rw [if_pos (show 0 < nth l k by omega)] at hI
      rw [← hI]
    · try simp only [Bool.and_eq_true, Bool.or_eq_true, Bool.not_eq_true', Bool.not_eq_false', Bool.and_eq_false_iff, Bool.or_eq_false_iff, decide_eq_true_eq, decide_eq_false_iff_not, Int.not_lt, Int.not_le, ne_eq, Decidable.not_not] at h2
      refine WC.skip ?_
      refine QX.normal_in ?_
      refine QX.then_ ?_
      refine WC.region ?_
      refine SL.pure rfl rfl rfl (PureOp.add rfl rfl (fun _ => by omega)) ?_
      refine SL.pure rfl rfl rfl (PureOp.move rfl) ?_
      refine SL.nil ?_
      have e := drop_nth (l := l) (i := k) (by omega)
      rw [e] at hI
      simp only [ixP] at hI
      rw [if_neg (show ¬ 0 < nth l k by omega)] at hI
      refine QX.round 0 (k + 1) ⟨⟨by omega, hI⟩, by omega⟩ ⟨rfl, rfl, rfl, rfl, rfl, rfl, rfl, rfl, rfl, rfl, trivial⟩ rfl
  · try simp only [Bool.and_eq_true, Bool.or_eq_true, Bool.not_eq_true', Bool.not_eq_false', Bool.and_eq_false_iff, Bool.or_eq_false_iff, decide_eq_true_eq, decide_eq_false_iff_not, Int.not_lt, Int.not_le, ne_eq, Decidable.not_not] at h1
    refine WC.exit ?_
    refine QX.exit_then ?_
    refine QX.exit_then ?_
    refine QX.exit_hit ?_
    refine QX.then_ ?_
    refine WC.seq ?_
    refine WC.region ?_
    refine SL.pure rfl rfl rfl (PureOp.assign rfl) ?_
    refine SL.nil_then ?_
    refine WC.ret ?_
    refine QX.ret1 rfl rfl ?_
    intro w hw
    have e : l.drop k = [] := List.drop_eq_nil_of_le (by omega)
    rw [← hI, e]
    rfl

set_option maxHeartbeats 4000000 in
set_option maxRecDepth 100000 in
theorem containsf_ok (l : List Int) (ao : Option Addr) (n cap : Nat) (hn : n = l.length) (w0 : World) (hz : SliceIn w0 1 ao n cap (rowsF encI l)) (hnb : n ≤ 1000) : FnC Try.prog 25 [.slice ao n cap, .func (.func 26) #[] #[]] w0 fun v w' => v = .bool (anyP l) := by
  refine fnc (N := 9) Try.func25 rfl rfl rfl ?_
  refine WC.seq ?_
  refine WC.region ?_
  refine SL.pure rfl rfl rfl (PureOp.assign rfl) ?_
  refine SL.nil_then ?_
  refine WC.seq ?_
  refine WC.region ?_
  refine SL.pure rfl rfl rfl (PureOp.move rfl) ?_
  refine SL.pure rfl rfl rfl (PureOp.move rfl) ?_
  refine SL.calle rfl rfl rfl rfl rfl rfl callable30 (fun w hw => indexf_ok l ao n cap hn w (hz.below hw.below) hnb) ?_
  refine SL.pure rfl rfl rfl (PureOp.geq rfl rfl) ?_
  refine SL.pure rfl rfl rfl (PureOp.assign rfl) ?_
  refine SL.nil_then ?_
  refine WC.ret ?_
  refine QX.ret1 rfl rfl ?_
  intro w hw
  refine congrArg Value.bool ?_
  have q := ixP_iff l 0 (by omega)
  rw [Bool.eq_iff_iff, ← q]
  simp

set_option maxHeartbeats 4000000 in
set_option maxRecDepth 100000 in
theorem max_ok (l : List Int) (ao : Option Addr) (n cap : Nat) (hn : n = l.length) (w0 : World) (hz : SliceIn w0 1 ao n cap (rowsF encI l)) (hp : 0 < n) (hnn : 0 ≤ nth l 0) (hnb : n ≤ 1000) : FnC Try.prog 27 [.slice ao n cap] w0 fun v w' => v = .int .i64 (mx 0 l) := by
  refine fnc (N := 25) Try.func27 rfl rfl rfl ?_
  refine WC.seq ?_
  refine WC.region ?_
  refine SL.pure rfl rfl rfl (PureOp.assign rfl) ?_
  refine SL.nil_then ?_
  refine WC.seq ?_
  refine WC.seq ?_
  refine WC.region ?_
  refine SL.pure rfl rfl rfl (PureOp.move rfl) ?_
  refine SL.pure rfl rfl rfl (PureOp.len rfl Try.underlying22) ?_
  refine SL.pure rfl rfl rfl (PureOp.lss rfl rfl) ?_
  refine SL.nil_then ?_
  refine WC.cond rfl (fun h1 => ?_) (fun h1 => ?_)
  · try simp only [Bool.and_eq_true, Bool.or_eq_true, Bool.not_eq_true', Bool.not_eq_false', Bool.and_eq_false_iff, Bool.or_eq_false_iff, decide_eq_true_eq, decide_eq_false_iff_not, Int.not_lt, Int.not_le, ne_eq, Decidable.not_not] at h1
    exact absurd h1 (by omega)
  · try simp only [Bool.and_eq_true, Bool.or_eq_true, Bool.not_eq_true', Bool.not_eq_false', Bool.and_eq_false_iff, Bool.or_eq_false_iff, decide_eq_true_eq, decide_eq_false_iff_not, Int.not_lt, Int.not_le, ne_eq, Decidable.not_not] at h1
    refine WC.skip ?_
    refine QX.then_ ?_
    refine WC.seq ?_
    refine WC.region ?_
    refine SL.pure rfl rfl rfl (PureOp.move rfl) ?_
    refine SL.pure rfl rfl rfl (PureOp.indexAddr Try.underlying22 sz3 rfl rfl (AoOk.in_ hz) (fun _ => by omega)) ?_
    refine SL.pure rfl rfl rfl (PureOp.load Try.underlying3 rfl rfl (fun _ => (CellIs.in_ hz (0 : Int).toNat 0 (by omega) (by omega)))) ?_
    refine SL.pure rfl rfl rfl (PureOp.assign rfl) ?_
    refine SL.nil_then ?_
    refine WC.seq ?_
    refine WC.seq ?_
    refine WC.region ?_
    refine SL.pure rfl rfl rfl (PureOp.assign rfl) ?_
    refine SL.nil_then ?_
    refine WC.block ?_
    refine WC.loop (σ := Nat × Int) (fun s => [(0, 0, .slice ao n cap), (3, 0, .int .i64 s.2), (4, 0, .int .i64 (s.1 : Nat))]) (fun _ => []) (fun s => s.1 ≤ n ∧ mx s.2 (l.drop s.1) = mx 0 l) (fun s => n - s.1) 0 ((1, nth l (0 : Int).toNat)) (⟨by show 1 ≤ n; omega, mx_head (by omega) hnn⟩) ⟨rfl, rfl, rfl, rfl, rfl, rfl, trivial⟩ rfl ?_
    rintro ⟨k, a⟩ ⟨hk, hI⟩
    dsimp only at hk hI ⊢
    refine WC.seq ?_
    refine WC.seq ?_
    refine WC.region ?_
    refine SL.pure rfl rfl rfl (PureOp.move rfl) ?_
    refine SL.pure rfl rfl rfl (PureOp.move rfl) ?_
    refine SL.pure rfl rfl rfl (PureOp.len rfl Try.underlying22) ?_
    refine SL.pure rfl rfl rfl (PureOp.lss rfl rfl) ?_
    refine SL.nil_then ?_
    refine WC.cond rfl (fun h2 => ?_) (fun h2 => ?_)
    · try simp only [Bool.and_eq_true, Bool.or_eq_true, Bool.not_eq_true', Bool.not_eq_false', Bool.and_eq_false_iff, Bool.or_eq_false_iff, decide_eq_true_eq, decide_eq_false_iff_not, Int.not_lt, Int.not_le, ne_eq, Decidable.not_not] at h2
      refine WC.skip ?_
      refine QX.then_ ?_
      refine WC.seq ?_
      refine WC.block ?_
      refine WC.region ?_
      refine SL.pure rfl rfl rfl (PureOp.move rfl) ?_
      refine SL.pure rfl rfl rfl (PureOp.move rfl) ?_
      refine SL.pure rfl rfl rfl (PureOp.move rfl) ?_
      refine SL.pure rfl rfl rfl (PureOp.indexAddrN Try.underlying22 sz3 rfl rfl (AoOk.in_ hz) (fun _ => by omega)) ?_
      refine SL.pure rfl rfl rfl (PureOp.load Try.underlying3 rfl rfl (fun _ => (CellIs.in_ hz _ 0 (by omega) (by omega)))) ?_
      refine SL.pure rfl rfl rfl (PureOp.max_ rfl rfl) ?_
      refine SL.pure rfl rfl rfl (PureOp.assign rfl) ?_
      refine SL.nil ?_
      refine QX.normal_in ?_
      refine QX.then_ ?_
      refine WC.region ?_
      refine SL.pure rfl rfl rfl (PureOp.move rfl) ?_
      refine SL.pure rfl rfl rfl (PureOp.add rfl rfl (fun _ => by omega)) ?_
      refine SL.pure rfl rfl rfl (PureOp.assign rfl) ?_
      refine SL.nil ?_
      have e := drop_nth (l := l) (i := k) (by omega)
      rw [e] at hI
      simp only [mx] at hI
      refine QX.round (s := (k, a)) (μ := fun s => n - s.1) 0 (k + 1, _) ⟨⟨by show k + 1 ≤ n; omega, hI⟩, by show n - (k + 1) < n - k; omega⟩ ⟨rfl, rfl, rfl, rfl, rfl, rfl, trivial⟩ rfl
    · try simp only [Bool.and_eq_true, Bool.or_eq_true, Bool.not_eq_true', Bool.not_eq_false', Bool.and_eq_false_iff, Bool.or_eq_false_iff, decide_eq_true_eq, decide_eq_false_iff_not, Int.not_lt, Int.not_le, ne_eq, Decidable.not_not] at h2
      refine WC.exit ?_
      refine QX.exit_then ?_
      refine QX.exit_then ?_
      refine QX.exit_hit ?_
      refine QX.then_ ?_
      refine WC.seq ?_
      refine WC.region ?_
      refine SL.pure rfl rfl rfl (PureOp.move rfl) ?_
      refine SL.pure rfl rfl rfl (PureOp.assign rfl) ?_
      refine SL.nil_then ?_
      refine WC.ret ?_
      refine QX.ret1 rfl rfl ?_
      intro w hw
      have e : l.drop k = [] := List.drop_eq_nil_of_le (by omega)
      rw [e] at hI
      rw [← hI]
      rfl

set_option maxHeartbeats 4000000 in
set_option maxRecDepth 100000 in
theorem greatest_ok (l : List Int) (ao : Option Addr) (n cap : Nat) (hn : n = l.length) (w0 : World) (hz : SliceIn w0 1 ao n cap (rowsF encI l)) (hnb : n ≤ 1000) : FnC Try.prog 28 [.slice ao n cap] w0 fun v w' => v = .int .i64 (mx 0 l) := by
  refine fnc (N := 18) Try.func28 rfl rfl rfl ?_
  refine WC.seq ?_
  refine WC.region ?_
  refine SL.pure rfl rfl rfl (PureOp.assign rfl) ?_
  refine SL.nil_then ?_
  refine WC.seq ?_
  refine WC.region ?_
  refine SL.pure rfl rfl rfl (PureOp.assign rfl) ?_
  refine SL.nil_then ?_
  refine WC.seq ?_
  refine WC.seq ?_
  refine WC.region ?_
  refine SL.pure rfl rfl rfl (PureOp.assign rfl) ?_
  refine SL.nil_then ?_
  refine WC.block ?_
  refine WC.loop (σ := Nat × Int) (fun s => [(0, 0, .slice ao n cap), (3, 0, .int .i64 s.2), (4, 0, .int .i64 (s.1 : Nat))]) (fun _ => []) (fun s => s.1 ≤ n ∧ mx s.2 (l.drop s.1) = mx 0 l) (fun s => n - s.1) 0 ((0, 0)) (⟨Nat.zero_le _, rfl⟩) ⟨rfl, rfl, rfl, rfl, rfl, rfl, trivial⟩ rfl ?_
  rintro ⟨k, a⟩ ⟨hk, hI⟩
  dsimp only at hk hI ⊢
  refine WC.seq ?_
  refine WC.seq ?_
  refine WC.region ?_
  refine SL.pure rfl rfl rfl (PureOp.move rfl) ?_
  refine SL.pure rfl rfl rfl (PureOp.move rfl) ?_
  refine SL.pure rfl rfl rfl (PureOp.len rfl Try.underlying22) ?_
  refine SL.pure rfl rfl rfl (PureOp.lss rfl rfl) ?_
  refine SL.nil_then ?_
  refine WC.cond rfl (fun h1 => ?_) (fun h1 => ?_)
  · try simp only [Bool.and_eq_true, Bool.or_eq_true, Bool.not_eq_true', Bool.not_eq_false', Bool.and_eq_false_iff, Bool.or_eq_false_iff, decide_eq_true_eq, decide_eq_false_iff_not, Int.not_lt, Int.not_le, ne_eq, Decidable.not_not] at h1
    refine WC.skip ?_
    refine QX.then_ ?_
    refine WC.seq ?_
    refine WC.block ?_
    refine WC.region ?_
    refine SL.pure rfl rfl rfl (PureOp.move rfl) ?_
    refine SL.pure rfl rfl rfl (PureOp.move rfl) ?_
    refine SL.pure rfl rfl rfl (PureOp.move rfl) ?_
    refine SL.pure rfl rfl rfl (PureOp.indexAddrN Try.underlying22 sz3 rfl rfl (AoOk.in_ hz) (fun _ => by omega)) ?_
    refine SL.pure rfl rfl rfl (PureOp.load Try.underlying3 rfl rfl (fun _ => (CellIs.in_ hz _ 0 (by omega) (by omega)))) ?_
    refine SL.pure rfl rfl rfl (PureOp.max_ rfl rfl) ?_
    refine SL.pure rfl rfl rfl (PureOp.assign rfl) ?_
    refine SL.nil ?_
    refine QX.normal_in ?_
    refine QX.then_ ?_
    refine WC.region ?_
    refine SL.pure rfl rfl rfl (PureOp.move rfl) ?_
    refine SL.pure rfl rfl rfl (PureOp.add rfl rfl (fun _ => by omega)) ?_
    refine SL.pure rfl rfl rfl (PureOp.assign rfl) ?_
    refine SL.nil ?_
    have e := drop_nth (l := l) (i := k) (by omega)
    rw [e] at hI
    simp only [mx] at hI
    refine QX.round (s := (k, a)) (μ := fun s => n - s.1) 0 (k + 1, _) ⟨⟨by show k + 1 ≤ n; omega, hI⟩, by show n - (k + 1) < n - k; omega⟩ ⟨rfl, rfl, rfl, rfl, rfl, rfl, trivial⟩ rfl
  · try simp only [Bool.and_eq_true, Bool.or_eq_true, Bool.not_eq_true', Bool.not_eq_false', Bool.and_eq_false_iff, Bool.or_eq_false_iff, decide_eq_true_eq, decide_eq_false_iff_not, Int.not_lt, Int.not_le, ne_eq, Decidable.not_not] at h1
    refine WC.exit ?_
    refine QX.exit_then ?_
    refine QX.exit_then ?_
    refine QX.exit_hit ?_
    refine QX.then_ ?_
    refine WC.seq ?_
    refine WC.region ?_
    refine SL.pure rfl rfl rfl (PureOp.move rfl) ?_
    refine SL.pure rfl rfl rfl (PureOp.assign rfl) ?_
    refine SL.nil_then ?_
    refine WC.ret ?_
    refine QX.ret1 rfl rfl ?_
    intro w hw
    have e : l.drop k = [] := List.drop_eq_nil_of_le (by omega)
    rw [e] at hI
    rw [← hI]
    rfl

end Go.Proofs.Ytdiegelbpdknaaa
