import Derived.Test.YtblmafknmeicfaaPrB
namespace Go.Proofs.Ytblmafknmeicfaa
open Go Go.RowKit Eng
set_option linter.unusedVariables false
set_option linter.unusedSimpArgs false

set_option maxHeartbeats 4000000 in
set_option maxRecDepth 100000 in
theorem index_ok (l : List Int) (ao : Option Addr) (n cap : Nat) (hn : n = l.length) (x : Int) (w0 : World) (hz : SliceIn w0 1 ao n cap (rowsF encI l)) : FnC Try.prog 68 [.slice ao n cap, .int .i64 x] w0 fun v w' => ∃ i, v = .int .i64 i ∧ decide (0 ≤ i) = conB l x := by
  have hnm : (n : Int) ≤ 9223372036854775807 := by
    have q1 := hz.le; have q2 := hz.max; simp only [maxLen] at q2; omega
  refine fnc (N := 19) Try.func68 rfl rfl rfl ?_
  refine WC.seq ?_
  refine WC.region ?_
  refine SL.pure rfl rfl rfl (PureOp.assign rfl) ?_
  refine SL.nil_then ?_
  refine WC.seq ?_
  refine WC.seq ?_
  refine WC.region ?_
  refine SL.pure rfl rfl rfl (PureOp.move rfl) ?_
  refine SL.pure rfl rfl rfl (PureOp.len rfl Try.underlying73) ?_
  refine SL.pure rfl rfl rfl (PureOp.move rfl) ?_
  refine SL.nil_then ?_
  refine WC.block ?_
  refine WC.loop (σ := Nat) (fun q_ => [(0, 0, .slice ao n cap), (1, 0, .int .i64 x), (6, 0, .slice ao n cap), (7, 0, .int .i64 ((n : Nat) : Int)), (8, 0, .int .i64 ((q_ : Nat) : Int))]) (fun q_ => []) (fun q_ => q_ ≤ n ∧ allK (fun j => decide (nth l j ≠ x)) q_ = true) (fun q_ => n - q_) 0 (0) (⟨Nat.zero_le _, rfl⟩) ⟨rfl, rfl, rfl, rfl, rfl, rfl, rfl, rfl, rfl, rfl, trivial⟩ rfl ?_
  rintro k ⟨hk, hz1⟩
  refine WC.seq ?_
  refine WC.region ?_
  refine SL.pure rfl rfl rfl (PureOp.lss rfl rfl) ?_
  refine SL.nil_then ?_
  refine WC.seq ?_
  refine WC.cond rfl (fun h1 => ?_) (fun h1 => ?_)
  · try simp only [Bool.and_eq_true, Bool.or_eq_true, Bool.not_eq_true', Bool.not_eq_false', Bool.and_eq_false_iff, Bool.or_eq_false_iff, decide_eq_true_eq, decide_eq_false_iff_not, Int.not_lt, Int.not_le, ne_eq, Decidable.not_not] at h1
    refine WC.skip ?_
    refine QX.then_ ?_
    refine WC.seq ?_
    refine WC.block ?_
    refine WC.seq ?_
    refine WC.region ?_
    refine SL.pure rfl rfl rfl (PureOp.move rfl) ?_
    refine SL.pure rfl rfl rfl (PureOp.assign rfl) ?_
    refine SL.nil_then ?_
    refine WC.seq ?_
    refine WC.region ?_
    refine SL.pure rfl rfl rfl (PureOp.move rfl) ?_
    refine SL.pure rfl rfl rfl (PureOp.move rfl) ?_
    refine SL.pure rfl rfl rfl (PureOp.move rfl) ?_
    refine SL.pure rfl rfl rfl (PureOp.indexAddrN Try.underlying73 sz3 rfl rfl (AoOk.in_ hz) (fun _ => by omega)) ?_
    refine SL.pure rfl rfl rfl (PureOp.load (v := .int .i64 (nth l k)) Try.underlying3 rfl rfl (fun _ => (CellIs.in_ hz k 0 (by omega) (by omega)))) ?_
    refine SL.pure rfl rfl rfl (PureOp.eql rfl rfl) ?_
    refine SL.nil_then ?_
    refine WC.cond rfl (fun h2 => ?_) (fun h2 => ?_)
    · try simp only [Bool.and_eq_true, Bool.or_eq_true, Bool.not_eq_true', Bool.not_eq_false', Bool.and_eq_false_iff, Bool.or_eq_false_iff, decide_eq_true_eq, decide_eq_false_iff_not, Int.not_lt, Int.not_le, ne_eq, Decidable.not_not] at h2
      refine WC.seq ?_
      refine WC.region ?_
      refine SL.pure rfl rfl rfl (PureOp.move rfl) ?_
      refine SL.pure rfl rfl rfl (PureOp.assign rfl) ?_
      refine SL.nil_then ?_
      refine WC.ret ?_
      refine QX.ret_in ?_
      refine QX.ret_then ?_
      refine QX.ret_then ?_
      refine QX.ret_in ?_
      refine QX.ret_then ?_
      refine QX.ret1 rfl rfl ?_
      intro w hw
      exact ⟨_, rfl, by rw [conB_yes (k := k) (by omega) (by omega)]; simp⟩
    · try simp only [Bool.and_eq_true, Bool.or_eq_true, Bool.not_eq_true', Bool.not_eq_false', Bool.and_eq_false_iff, Bool.or_eq_false_iff, decide_eq_true_eq, decide_eq_false_iff_not, Int.not_lt, Int.not_le, ne_eq, Decidable.not_not] at h2
      refine WC.skip ?_
      refine QX.normal_in ?_
      refine QX.then_ ?_
      refine WC.region ?_
      refine SL.pure rfl rfl rfl (PureOp.addN (k := 1) rfl rfl (fun _ => by omega)) ?_
      refine SL.pure rfl rfl rfl (PureOp.move rfl) ?_
      refine SL.nil ?_
      refine QX.round 0 (k + 1) ⟨⟨(by first | omega | (dsimp only; omega)), allK_next hz1 (by simp; omega)⟩, by first | omega | (dsimp only; omega)⟩ ⟨rfl, rfl, rfl, rfl, rfl, rfl, rfl, rfl, rfl, rfl, trivial⟩ rfl
  · try simp only [Bool.and_eq_true, Bool.or_eq_true, Bool.not_eq_true', Bool.not_eq_false', Bool.and_eq_false_iff, Bool.or_eq_false_iff, decide_eq_true_eq, decide_eq_false_iff_not, Int.not_lt, Int.not_le, ne_eq, Decidable.not_not] at h1
    refine WC.exit ?_
    refine QX.exit_then ?_
    refine QX.exit_then ?_
    refine QX.exit_hit ?_
    refine QX.then_ ?_
    refine WC.seq ?_
    refine WC.region ?_
    refine SL.pure rfl rfl rfl (PureOp.assign rfl) ?_
    refine SL.nil_then ?_
    refine WC.ret ?_
    refine QX.ret1 rfl rfl ?_
    intro w hw
    exact ⟨_, rfl, by rw [conB_no (by rw [← hn, show n = k from by omega]; exact hz1)]; simp⟩

set_option maxHeartbeats 4000000 in
set_option maxRecDepth 100000 in
theorem contains_ok (l : List Int) (ao : Option Addr) (n cap : Nat) (hn : n = l.length) (x : Int) (w0 : World) (hz : SliceIn w0 1 ao n cap (rowsF encI l)) : FnC Try.prog 44 [.slice ao n cap, .int .i64 x] w0 fun v w' => v = .bool (conB l x) := by
  refine fnc (N := 9) Try.func44 rfl rfl rfl ?_
  refine WC.seq ?_
  refine WC.region ?_
  refine SL.pure rfl rfl rfl (PureOp.assign rfl) ?_
  refine SL.nil_then ?_
  refine WC.seq ?_
  refine WC.region ?_
  refine SL.pure rfl rfl rfl (PureOp.move rfl) ?_
  refine SL.pure rfl rfl rfl (PureOp.move rfl) ?_
  refine SL.callv rfl rfl rfl rfl rfl rfl callable68 (fun w hw => index_ok l ao n cap hn x w (hz.below hw.below)) ?_
  rintro v ⟨ii, rfl, hii⟩
  refine SL.norm [] rfl ?_
  refine SL.pure rfl rfl rfl (PureOp.geq rfl rfl) ?_
  refine SL.pure rfl rfl rfl (PureOp.assign rfl) ?_
  refine SL.nil_then ?_
  refine WC.ret ?_
  refine QX.ret1 rfl rfl ?_
  intro w hw
  exact congrArg Value.bool hii

set_option maxHeartbeats 4000000 in
set_option maxRecDepth 100000 in
theorem allows_ok (a b : Ru) (w0 : World) (hca : SliceIn w0 1 a.2.2.1.ao a.2.2.1.l.length a.2.2.1.cap (rowsF encI a.2.2.1.l)) : FnC Try.prog 43 [.agg #[.int .i64 a.1, .int .i64 a.2.1.1, .slice a.2.1.2.1.ao a.2.1.2.1.l.length a.2.1.2.1.cap, .int .i64 a.2.1.2.2.1, .int .i64 a.2.1.2.2.2.1, .int .i64 a.2.1.2.2.2.2.1.1, .int .i64 a.2.1.2.2.2.2.1.2.1, .int .i64 a.2.1.2.2.2.2.1.2.2, .slice a.2.1.2.2.2.2.2.ao a.2.1.2.2.2.2.2.l.length a.2.1.2.2.2.2.2.cap, .slice a.2.2.1.ao a.2.2.1.l.length a.2.2.1.cap, .int .i64 a.2.2.2.1, .int .i64 a.2.2.2.2.1, .int .i64 a.2.2.2.2.2.1, .int .i64 a.2.2.2.2.2.2.1, .slice a.2.2.2.2.2.2.2.ao a.2.2.2.2.2.2.2.l.length a.2.2.2.2.2.2.2.cap], .agg #[.int .i64 b.1, .int .i64 b.2.1.1, .slice b.2.1.2.1.ao b.2.1.2.1.l.length b.2.1.2.1.cap, .int .i64 b.2.1.2.2.1, .int .i64 b.2.1.2.2.2.1, .int .i64 b.2.1.2.2.2.2.1.1, .int .i64 b.2.1.2.2.2.2.1.2.1, .int .i64 b.2.1.2.2.2.2.1.2.2, .slice b.2.1.2.2.2.2.2.ao b.2.1.2.2.2.2.2.l.length b.2.1.2.2.2.2.2.cap, .slice b.2.2.1.ao b.2.2.1.l.length b.2.2.1.cap, .int .i64 b.2.2.2.1, .int .i64 b.2.2.2.2.1, .int .i64 b.2.2.2.2.2.1, .int .i64 b.2.2.2.2.2.2.1, .slice b.2.2.2.2.2.2.2.ao b.2.2.2.2.2.2.2.l.length b.2.2.2.2.2.2.2.cap]] w0 fun v w' => v = .bool (alB a b) := by
  refine fnc (N := 16) Try.func43 rfl rfl rfl ?_
  refine WC.seq ?_
  refine WC.region ?_
  refine SL.box rfl rfl rfl (fun b1 hb1 => ?_)
  refine SL.norm [_] rfl ?_
  refine SL.box rfl rfl rfl (fun b2 hb2 => ?_)
  refine SL.norm [_, _] rfl ?_
  refine SL.pure rfl rfl rfl (PureOp.assign rfl) ?_
  refine SL.nil_then ?_
  refine WC.seq ?_
  refine WC.region ?_
  refine SL.pure rfl rfl rfl (PureOp.fieldAddrT 9 Try.underlying76 rfl sz73 rfl rfl) ?_
  refine SL.pure rfl rfl rfl (PureOp.load (v := .slice a.2.2.1.ao a.2.2.1.l.length a.2.2.1.cap) Try.underlying73 rfl rfl (fun _ => (CellIs.cells 0 rfl rfl))) ?_
  refine SL.pure rfl rfl rfl (PureOp.len rfl Try.underlying73) ?_
  refine SL.pure rfl rfl rfl (PureOp.eql rfl rfl) ?_
  refine SL.pure rfl rfl rfl (PureOp.move rfl) ?_
  refine SL.newg 9 false rfl ?_
  refine SL.gpure (c := 1) rfl rfl rfl rfl rfl rfl rfl (PureOp.fieldAddrT 9 Try.underlying76 rfl sz73 rfl rfl) ?_
  refine SL.gpure (c := 1) rfl rfl rfl rfl rfl rfl rfl (PureOp.load (v := .slice a.2.2.1.ao a.2.2.1.l.length a.2.2.1.cap) Try.underlying73 rfl rfl (fun _ => (CellIs.cells 0 rfl rfl))) ?_
  refine SL.gpure (c := 1) rfl rfl rfl rfl rfl rfl rfl (PureOp.fieldAddrT 0 Try.underlying76 rfl sz3 rfl rfl) ?_
  refine SL.gpure (c := 1) rfl rfl rfl rfl rfl rfl rfl (PureOp.load (v := .int .i64 b.1) Try.underlying3 rfl rfl (fun _ => (CellIs.cells 1 rfl rfl))) ?_
  refine SL.gcalle (c := 1) rfl rfl rfl rfl rfl rfl rfl rfl rfl rfl callable44 (by intro hg; simp [gval] at hg; exact (fun w hw => contains_ok a.2.2.1.l a.2.2.1.ao _ a.2.2.1.cap rfl b.1 w (hca.below hw.below))) ?_
  refine SL.norm [_, _] rfl ?_
  refine SL.pure rfl rfl rfl (PureOp.or_ rfl rfl rfl rfl) ?_
  refine SL.pure rfl rfl rfl (PureOp.assign rfl) ?_
  refine SL.nil_then ?_
  refine WC.ret ?_
  refine QX.ret1 rfl rfl ?_
  intro w hw
  rfl

set_option maxHeartbeats 4000000 in
set_option maxRecDepth 100000 in
theorem mix_ok (a b : Ru) (w0 : World) (hca : SliceIn w0 1 a.2.2.1.ao a.2.2.1.l.length a.2.2.1.cap (rowsF encI a.2.2.1.l)) (hcb : SliceIn w0 1 b.2.2.1.ao b.2.2.1.l.length b.2.2.1.cap (rowsF encI b.2.2.1.l)) : FnC Try.prog 26 [.agg #[.int .i64 a.1, .int .i64 a.2.1.1, .slice a.2.1.2.1.ao a.2.1.2.1.l.length a.2.1.2.1.cap, .int .i64 a.2.1.2.2.1, .int .i64 a.2.1.2.2.2.1, .int .i64 a.2.1.2.2.2.2.1.1, .int .i64 a.2.1.2.2.2.2.1.2.1, .int .i64 a.2.1.2.2.2.2.1.2.2, .slice a.2.1.2.2.2.2.2.ao a.2.1.2.2.2.2.2.l.length a.2.1.2.2.2.2.2.cap, .slice a.2.2.1.ao a.2.2.1.l.length a.2.2.1.cap, .int .i64 a.2.2.2.1, .int .i64 a.2.2.2.2.1, .int .i64 a.2.2.2.2.2.1, .int .i64 a.2.2.2.2.2.2.1, .slice a.2.2.2.2.2.2.2.ao a.2.2.2.2.2.2.2.l.length a.2.2.2.2.2.2.2.cap], .agg #[.int .i64 b.1, .int .i64 b.2.1.1, .slice b.2.1.2.1.ao b.2.1.2.1.l.length b.2.1.2.1.cap, .int .i64 b.2.1.2.2.1, .int .i64 b.2.1.2.2.2.1, .int .i64 b.2.1.2.2.2.2.1.1, .int .i64 b.2.1.2.2.2.2.1.2.1, .int .i64 b.2.1.2.2.2.2.1.2.2, .slice b.2.1.2.2.2.2.2.ao b.2.1.2.2.2.2.2.l.length b.2.1.2.2.2.2.2.cap, .slice b.2.2.1.ao b.2.2.1.l.length b.2.2.1.cap, .int .i64 b.2.2.2.1, .int .i64 b.2.2.2.2.1, .int .i64 b.2.2.2.2.2.1, .int .i64 b.2.2.2.2.2.2.1, .slice b.2.2.2.2.2.2.2.ao b.2.2.2.2.2.2.2.l.length b.2.2.2.2.2.2.2.cap]] w0 fun v w' => v = .bool (mixB a b) := by
  refine fnc (N := 16) Try.func26 rfl rfl rfl ?_
  refine WC.seq ?_
  refine WC.region ?_
  refine SL.box rfl rfl rfl (fun b1 hb1 => ?_)
  refine SL.norm [_] rfl ?_
  refine SL.box rfl rfl rfl (fun b2 hb2 => ?_)
  refine SL.norm [_, _] rfl ?_
  refine SL.pure rfl rfl rfl (PureOp.assign rfl) ?_
  refine SL.nil_then ?_
  refine WC.seq ?_
  refine WC.region ?_
  refine SL.pure rfl rfl rfl (PureOp.assign rfl) ?_
  refine SL.nil_then ?_
  refine WC.seq ?_
  refine WC.region ?_
  refine SL.pure rfl rfl rfl (PureOp.move rfl) ?_
  refine SL.pure rfl rfl rfl (PureOp.loads (vs := [.int .i64 a.1, .int .i64 a.2.1.1, .slice a.2.1.2.1.ao a.2.1.2.1.l.length a.2.1.2.1.cap, .int .i64 a.2.1.2.2.1, .int .i64 a.2.1.2.2.2.1, .int .i64 a.2.1.2.2.2.2.1.1, .int .i64 a.2.1.2.2.2.2.1.2.1, .int .i64 a.2.1.2.2.2.2.1.2.2, .slice a.2.1.2.2.2.2.2.ao a.2.1.2.2.2.2.2.l.length a.2.1.2.2.2.2.2.cap, .slice a.2.2.1.ao a.2.2.1.l.length a.2.2.1.cap, .int .i64 a.2.2.2.1, .int .i64 a.2.2.2.2.1, .int .i64 a.2.2.2.2.2.1, .int .i64 a.2.2.2.2.2.2.1, .slice a.2.2.2.2.2.2.2.ao a.2.2.2.2.2.2.2.l.length a.2.2.2.2.2.2.2.cap]) Try.underlying76 rfl rfl (fun _ => (RowIs.cells 0 0 15 rfl rfl)) sz76) ?_
  refine SL.pure rfl rfl rfl (PureOp.loads (vs := [.int .i64 b.1, .int .i64 b.2.1.1, .slice b.2.1.2.1.ao b.2.1.2.1.l.length b.2.1.2.1.cap, .int .i64 b.2.1.2.2.1, .int .i64 b.2.1.2.2.2.1, .int .i64 b.2.1.2.2.2.2.1.1, .int .i64 b.2.1.2.2.2.2.1.2.1, .int .i64 b.2.1.2.2.2.2.1.2.2, .slice b.2.1.2.2.2.2.2.ao b.2.1.2.2.2.2.2.l.length b.2.1.2.2.2.2.2.cap, .slice b.2.2.1.ao b.2.2.1.l.length b.2.2.1.cap, .int .i64 b.2.2.2.1, .int .i64 b.2.2.2.2.1, .int .i64 b.2.2.2.2.2.1, .int .i64 b.2.2.2.2.2.2.1, .slice b.2.2.2.2.2.2.2.ao b.2.2.2.2.2.2.2.l.length b.2.2.2.2.2.2.2.cap]) Try.underlying76 rfl rfl (fun _ => (RowIs.cells 1 0 15 rfl rfl)) sz76) ?_
  refine SL.calle rfl rfl rfl rfl rfl rfl callable43 (fun w hw => allows_ok a b w (hca.below hw.below)) ?_
  refine SL.norm [_, _] rfl ?_
  refine SL.pure rfl rfl rfl (PureOp.move rfl) ?_
  refine SL.newg 10 true rfl ?_
  refine SL.gpure (c := 1) rfl rfl rfl rfl rfl rfl rfl (PureOp.move rfl) ?_
  refine SL.gpure (c := 1) rfl rfl rfl rfl rfl rfl rfl (PureOp.loads (vs := [.int .i64 b.1, .int .i64 b.2.1.1, .slice b.2.1.2.1.ao b.2.1.2.1.l.length b.2.1.2.1.cap, .int .i64 b.2.1.2.2.1, .int .i64 b.2.1.2.2.2.1, .int .i64 b.2.1.2.2.2.2.1.1, .int .i64 b.2.1.2.2.2.2.1.2.1, .int .i64 b.2.1.2.2.2.2.1.2.2, .slice b.2.1.2.2.2.2.2.ao b.2.1.2.2.2.2.2.l.length b.2.1.2.2.2.2.2.cap, .slice b.2.2.1.ao b.2.2.1.l.length b.2.2.1.cap, .int .i64 b.2.2.2.1, .int .i64 b.2.2.2.2.1, .int .i64 b.2.2.2.2.2.1, .int .i64 b.2.2.2.2.2.2.1, .slice b.2.2.2.2.2.2.2.ao b.2.2.2.2.2.2.2.l.length b.2.2.2.2.2.2.2.cap]) Try.underlying76 rfl rfl (fun _ => (RowIs.cells 1 0 15 rfl rfl)) sz76) ?_
  refine SL.gpure (c := 1) rfl rfl rfl rfl rfl rfl rfl (PureOp.loads (vs := [.int .i64 a.1, .int .i64 a.2.1.1, .slice a.2.1.2.1.ao a.2.1.2.1.l.length a.2.1.2.1.cap, .int .i64 a.2.1.2.2.1, .int .i64 a.2.1.2.2.2.1, .int .i64 a.2.1.2.2.2.2.1.1, .int .i64 a.2.1.2.2.2.2.1.2.1, .int .i64 a.2.1.2.2.2.2.1.2.2, .slice a.2.1.2.2.2.2.2.ao a.2.1.2.2.2.2.2.l.length a.2.1.2.2.2.2.2.cap, .slice a.2.2.1.ao a.2.2.1.l.length a.2.2.1.cap, .int .i64 a.2.2.2.1, .int .i64 a.2.2.2.2.1, .int .i64 a.2.2.2.2.2.1, .int .i64 a.2.2.2.2.2.2.1, .slice a.2.2.2.2.2.2.2.ao a.2.2.2.2.2.2.2.l.length a.2.2.2.2.2.2.2.cap]) Try.underlying76 rfl rfl (fun _ => (RowIs.cells 0 0 15 rfl rfl)) sz76) ?_
  refine SL.gcalle (c := 1) rfl rfl rfl rfl rfl rfl rfl rfl rfl rfl callable43 (by intro hg; simp [gval] at hg; exact (fun w hw => allows_ok b a w (hcb.below hw.below))) ?_
  refine SL.norm [_, _] rfl ?_
  refine SL.pure rfl rfl rfl (PureOp.and_ rfl rfl rfl rfl) ?_
  refine SL.pure rfl rfl rfl (PureOp.assign rfl) ?_
  refine SL.nil_then ?_
  refine WC.ret ?_
  refine QX.ret1 rfl rfl ?_
  intro w hw
  rfl

set_option maxHeartbeats 4000000 in
set_option maxRecDepth 100000 in
theorem rule_ok (u1 u2 : SliceV Unit) (fl : List Fa) (rl : List Ru) (rao : Option Addr) (rn rcap : Nat) (fao : Option Addr) (fn fcap : Nat) (hfn : fn = fl.length) (hrn : rn = rl.length) (w0 : World) (hf : SliceIn w0 9 fao fn fcap (rowsF enc52 fl)) (hr : SliceIn w0 15 rao rn rcap (rowsF enc76 rl)) (hfb : fn ≤ 1000) (hrb : rn ≤ 1000) (num : Int) : FnC Try.prog 45 [.agg #[.slice fao fn fcap, .slice rao rn rcap, .slice u1.ao u1.l.length u1.cap, .slice u2.ao u2.l.length u2.cap], .int .i64 num] w0 fun v w' => v = .tuple #[.agg (enc76 (ruleE rl num).1).toArray, .bool (ruleE rl num).2] := by
  refine fnc (N := 22) Try.func45 rfl rfl rfl ?_
  refine WC.seq ?_
  refine WC.region ?_
  refine SL.box rfl rfl rfl (fun b1 hb1 => ?_)
  refine SL.norm [_] rfl ?_
  refine SL.alloc rfl rfl zero76 (fun b2 hb2 => ?_)
  refine SL.norm [_, _] rfl ?_
  refine SL.pure rfl rfl rfl (PureOp.assign rfl) ?_
  refine SL.nil_then ?_
  refine WC.seq ?_
  refine WC.seq ?_
  refine WC.region ?_
  refine SL.pure rfl rfl rfl (PureOp.fieldAddrT 1 Try.underlying27 rfl sz23 rfl rfl) ?_
  refine SL.pure rfl rfl rfl (PureOp.load (v := .slice rao rn rcap) Try.underlying23 rfl rfl (fun _ => (CellIs.cells 0 rfl rfl))) ?_
  refine SL.pure rfl rfl rfl (PureOp.len rfl Try.underlying23) ?_
  refine SL.pure rfl rfl rfl (PureOp.move rfl) ?_
  refine SL.nil_then ?_
  refine WC.block ?_
  refine WC.loop (σ := Nat) (fun q_ => [(0, 0, .agg #[.slice fao fn fcap, .slice rao rn rcap, .slice u1.ao u1.l.length u1.cap, .slice u2.ao u2.l.length u2.cap]), (1, 0, .int .i64 num), (2, 0, .pointer (some ⟨b1, 0, none⟩)), (4, 0, .pointer (some ⟨b2, 0, none⟩)), (8, 0, .pointer (some ⟨b1, 1, none⟩)), (9, 0, .slice rao rn rcap), (10, 0, .int .i64 ((rn : Nat) : Int)), (11, 0, .int .i64 ((q_ : Nat) : Int))]) (fun q_ => [Item.cells b1 [.slice fao fn fcap, .slice rao rn rcap, .slice u1.ao u1.l.length u1.cap, .slice u2.ao u2.l.length u2.cap] 27, Item.cells b2 [.int .i64 0, .int .i64 0, .slice none 0 0, .int .i64 0, .int .i64 0, .int .i64 0, .int .i64 0, .int .i64 0, .slice none 0 0, .slice none 0 0, .int .i64 0, .int .i64 0, .int .i64 0, .int .i64 0, .slice none 0 0] 76]) (fun q_ => q_ ≤ rn ∧ ruleE (rl.drop q_) num = ruleE rl num) (fun q_ => rn - q_) 2 (0) (⟨Nat.zero_le _, rfl⟩) ⟨rfl, rfl, rfl, rfl, rfl, rfl, rfl, rfl, rfl, rfl, rfl, rfl, rfl, rfl, rfl, rfl, trivial⟩ rfl ?_
  rintro k ⟨hk, hs⟩
  refine WC.seq ?_
  refine WC.region ?_
  refine SL.pure rfl rfl rfl (PureOp.lss rfl rfl) ?_
  refine SL.nil_then ?_
  refine WC.seq ?_
  refine WC.cond rfl (fun h1 => ?_) (fun h1 => ?_)
  · try simp only [Bool.and_eq_true, Bool.or_eq_true, Bool.not_eq_true', Bool.not_eq_false', Bool.and_eq_false_iff, Bool.or_eq_false_iff, decide_eq_true_eq, decide_eq_false_iff_not, Int.not_lt, Int.not_le, ne_eq, Decidable.not_not] at h1
    refine WC.skip ?_
    refine QX.then_ ?_
    refine WC.seq ?_
    refine WC.block ?_
    refine WC.seq ?_
    refine WC.region ?_
    refine SL.pure rfl rfl rfl (PureOp.indexAddrN Try.underlying23 sz76 rfl rfl (AoOk.in_ hr) (fun _ => by omega)) ?_
    refine SL.pure rfl rfl rfl (PureOp.loads (vs := [.int .i64 ((nth rl k).1), .int .i64 ((nth rl k).2.1.1), .slice ((nth rl k).2.1.2.1.ao) ((nth rl k).2.1.2.1.l.length) ((nth rl k).2.1.2.1.cap), .int .i64 ((nth rl k).2.1.2.2.1), .int .i64 ((nth rl k).2.1.2.2.2.1), .int .i64 ((nth rl k).2.1.2.2.2.2.1.1), .int .i64 ((nth rl k).2.1.2.2.2.2.1.2.1), .int .i64 ((nth rl k).2.1.2.2.2.2.1.2.2), .slice ((nth rl k).2.1.2.2.2.2.2.ao) ((nth rl k).2.1.2.2.2.2.2.l.length) ((nth rl k).2.1.2.2.2.2.2.cap), .slice ((nth rl k).2.2.1.ao) ((nth rl k).2.2.1.l.length) ((nth rl k).2.2.1.cap), .int .i64 ((nth rl k).2.2.2.1), .int .i64 ((nth rl k).2.2.2.2.1), .int .i64 ((nth rl k).2.2.2.2.2.1), .int .i64 ((nth rl k).2.2.2.2.2.2.1), .slice ((nth rl k).2.2.2.2.2.2.2.ao) ((nth rl k).2.2.2.2.2.2.2.l.length) ((nth rl k).2.2.2.2.2.2.2.cap)]) Try.underlying76 rfl rfl (fun _ => (RowIs.in_ hr k 0 15 (by omega) (by omega))) sz76) ?_
    refine SL.alloc rfl rfl zero76 (fun b3 hb3 => ?_)
    refine SL.norm [_, _, _] rfl ?_
    refine SL.store 2 rfl rfl rfl rfl sz76 rfl rfl ?_
    refine SL.norm [_, _, _] rfl ?_
    refine SL.nil_then ?_
    refine WC.seq ?_
    refine WC.region ?_
    refine SL.pure rfl rfl rfl (PureOp.fieldAddrT 0 Try.underlying76 rfl sz3 rfl rfl) ?_
    refine SL.pure rfl rfl rfl (PureOp.load (v := .int .i64 ((nth rl k).1)) Try.underlying3 rfl rfl (fun _ => (CellIs.cells 2 rfl rfl))) ?_
    refine SL.pure rfl rfl rfl (PureOp.move rfl) ?_
    refine SL.pure rfl rfl rfl (PureOp.eql rfl rfl) ?_
    refine SL.nil_then ?_
    refine WC.cond rfl (fun h2 => ?_) (fun h2 => ?_)
    · try simp only [Bool.and_eq_true, Bool.or_eq_true, Bool.not_eq_true', Bool.not_eq_false', Bool.and_eq_false_iff, Bool.or_eq_false_iff, decide_eq_true_eq, decide_eq_false_iff_not, Int.not_lt, Int.not_le, ne_eq, Decidable.not_not] at h2
      refine WC.seq ?_
      refine WC.region ?_
      refine SL.pure rfl rfl rfl (PureOp.loads (vs := [.int .i64 ((nth rl k).1), .int .i64 ((nth rl k).2.1.1), .slice ((nth rl k).2.1.2.1.ao) ((nth rl k).2.1.2.1.l.length) ((nth rl k).2.1.2.1.cap), .int .i64 ((nth rl k).2.1.2.2.1), .int .i64 ((nth rl k).2.1.2.2.2.1), .int .i64 ((nth rl k).2.1.2.2.2.2.1.1), .int .i64 ((nth rl k).2.1.2.2.2.2.1.2.1), .int .i64 ((nth rl k).2.1.2.2.2.2.1.2.2), .slice ((nth rl k).2.1.2.2.2.2.2.ao) ((nth rl k).2.1.2.2.2.2.2.l.length) ((nth rl k).2.1.2.2.2.2.2.cap), .slice ((nth rl k).2.2.1.ao) ((nth rl k).2.2.1.l.length) ((nth rl k).2.2.1.cap), .int .i64 ((nth rl k).2.2.2.1), .int .i64 ((nth rl k).2.2.2.2.1), .int .i64 ((nth rl k).2.2.2.2.2.1), .int .i64 ((nth rl k).2.2.2.2.2.2.1), .slice ((nth rl k).2.2.2.2.2.2.2.ao) ((nth rl k).2.2.2.2.2.2.2.l.length) ((nth rl k).2.2.2.2.2.2.2.cap)]) Try.underlying76 rfl rfl (fun _ => (RowIs.cells 2 0 15 rfl rfl)) sz76) ?_
      refine SL.store 1 rfl rfl rfl rfl sz76 rfl rfl ?_
      refine SL.norm [_, _, _] rfl ?_
      refine SL.pure rfl rfl rfl (PureOp.assign rfl) ?_
      refine SL.nil_then ?_
      refine WC.ret ?_
      refine QX.ret_in ?_
      refine QX.ret_then ?_
      refine QX.ret_then ?_
      refine QX.ret_in ?_
      refine QX.ret_then ?_
      refine QX.retv rfl (RVs.cons (RV.cell rfl Try.underlying76 rfl (RowIs.cells 1 0 15 rfl rfl) sz76) (RVs.cons (RV.tmp rfl) RVs.nil)) ?_
      intro w hw
      rw [ruleE_drop (by omega), if_pos h2] at hs
      rw [← hs]; rfl
    · try simp only [Bool.and_eq_true, Bool.or_eq_true, Bool.not_eq_true', Bool.not_eq_false', Bool.and_eq_false_iff, Bool.or_eq_false_iff, decide_eq_true_eq, decide_eq_false_iff_not, Int.not_lt, Int.not_le, ne_eq, Decidable.not_not] at h2
      refine WC.skip ?_
      refine QX.normal_in ?_
      refine QX.then_ ?_
      refine WC.region ?_
      refine SL.pure rfl rfl rfl (PureOp.addN (k := 1) rfl rfl (fun _ => by omega)) ?_
      refine SL.pure rfl rfl rfl (PureOp.move rfl) ?_
      refine SL.nil ?_
      refine QX.round 2 (k + 1) ⟨⟨(by first | omega | (dsimp only; omega)), by rw [ruleE_drop (by omega), if_neg h2] at hs; exact hs⟩, by first | omega | (dsimp only; omega)⟩ ⟨rfl, rfl, rfl, rfl, rfl, rfl, rfl, rfl, rfl, rfl, rfl, rfl, rfl, rfl, rfl, rfl, trivial⟩ rfl
  · try simp only [Bool.and_eq_true, Bool.or_eq_true, Bool.not_eq_true', Bool.not_eq_false', Bool.and_eq_false_iff, Bool.or_eq_false_iff, decide_eq_true_eq, decide_eq_false_iff_not, Int.not_lt, Int.not_le, ne_eq, Decidable.not_not] at h1
    refine WC.exit ?_
    refine QX.exit_then ?_
    refine QX.exit_then ?_
    refine QX.exit_hit ?_
    refine QX.then_ ?_
    refine WC.seq ?_
    refine WC.region ?_
    refine SL.pure rfl rfl rfl (PureOp.build bld76 rfl rfl) ?_
    refine SL.store 1 rfl rfl rfl rfl sz76 rfl rfl ?_
    refine SL.norm [_, _] rfl ?_
    refine SL.pure rfl rfl rfl (PureOp.assign rfl) ?_
    refine SL.nil_then ?_
    refine WC.ret ?_
    refine QX.retv rfl (RVs.cons (RV.cell rfl Try.underlying76 rfl (RowIs.cells 1 0 15 rfl rfl) sz76) (RVs.cons (RV.tmp rfl) RVs.nil)) ?_
    intro w hw
    rw [ruleE_end (by omega)] at hs
    rw [← hs]; rfl

set_option maxHeartbeats 4000000 in
set_option maxRecDepth 100000 in
theorem ruleof_ok (u1 u2 : SliceV Unit) (fl : List Fa) (rl : List Ru) (rao : Option Addr) (rn rcap : Nat) (fao : Option Addr) (fn fcap : Nat) (hfn : fn = fl.length) (hrn : rn = rl.length) (w0 : World) (hf : SliceIn w0 9 fao fn fcap (rowsF enc52 fl)) (hr : SliceIn w0 15 rao rn rcap (rowsF enc76 rl)) (hfb : fn ≤ 1000) (hrb : rn ≤ 1000) (x : Pt) (hx : 0 ≤ x.2.2.1 ∧ x.2.2.1 < fn) : FnC Try.prog 27 [.agg #[.slice fao fn fcap, .slice rao rn rcap, .slice u1.ao u1.l.length u1.cap, .slice u2.ao u2.l.length u2.cap], .agg #[.int .i64 x.1, .int .i64 x.2.1, .int .i64 x.2.2.1, .int .i64 x.2.2.2]] w0 fun v w' => v = .agg (enc76 (ruleX fl rl x)).toArray := by
  refine fnc (N := 20) Try.func27 rfl rfl rfl ?_
  refine WC.seq ?_
  refine WC.region ?_
  refine SL.box rfl rfl rfl (fun b1 hb1 => ?_)
  refine SL.norm [_] rfl ?_
  refine SL.box rfl rfl rfl (fun b2 hb2 => ?_)
  refine SL.norm [_, _] rfl ?_
  refine SL.alloc rfl rfl zero76 (fun b3 hb3 => ?_)
  refine SL.norm [_, _, _] rfl ?_
  refine SL.nil_then ?_
  refine WC.seq ?_
  refine WC.drawH 15 [false, false, false, false, false, false, false, false, false, false, false, false, false, false, false] rfl rfl rfl ?_
  refine SD.take 0 [true, false, false, false, false, false, false, false, false, false, false, false, false, false, false] rfl (by kernel_rfl) rfl (fun _ h => h) rfl rfl rfl (PureOp.loads (vs := [.slice fao fn fcap, .slice rao rn rcap, .slice u1.ao u1.l.length u1.cap, .slice u2.ao u2.l.length u2.cap]) Try.underlying27 rfl rfl (fun _ => (RowIs.cells 0 0 4 rfl rfl)) sz27) ?_
  refine SD.take 1 [true, true, false, false, false, false, false, false, false, false, false, false, false, false, false] rfl (by kernel_rfl) rfl (fun _ h => h) rfl rfl rfl (PureOp.fieldAddrT 0 Try.underlying27 rfl sz22 rfl rfl) ?_
  refine SD.take 2 [true, true, true, false, false, false, false, false, false, false, false, false, false, false, false] rfl (by kernel_rfl) rfl (fun _ h => h) rfl rfl rfl (PureOp.load (v := .slice fao fn fcap) Try.underlying22 rfl rfl (fun _ => (CellIs.cells 0 rfl rfl))) ?_
  refine SD.take 3 [true, true, true, true, false, false, false, false, false, false, false, false, false, false, false] rfl (by kernel_rfl) rfl (fun _ h => h) rfl rfl rfl (PureOp.fieldAddrT 2 Try.underlying42 rfl sz3 rfl rfl) ?_
  refine SD.take 4 [true, true, true, true, true, false, false, false, false, false, false, false, false, false, false] rfl (by kernel_rfl) rfl (fun _ h => h) rfl rfl rfl (PureOp.load (v := .int .i64 x.2.2.1) Try.underlying3 rfl rfl (fun _ => (CellIs.cells 1 rfl rfl))) ?_
  refine SD.take 5 [true, true, true, true, true, true, false, false, false, false, false, false, false, false, false] rfl (by kernel_rfl) rfl (fun _ h => h) rfl rfl rfl (PureOp.indexAddr Try.underlying22 sz52 rfl rfl (AoOk.in_ hf) (fun _ => by omega)) ?_
  refine SD.take 6 [true, true, true, true, true, true, true, false, false, false, false, false, false, false, false] rfl (by kernel_rfl) rfl (fun _ h => h) rfl rfl rfl (PureOp.fieldAddr 7 Try.underlying52 rfl rfl sz3 rfl) ?_
  refine SD.take 7 [true, true, true, true, true, true, true, true, false, false, false, false, false, false, false] rfl (by kernel_rfl) rfl (fun _ h => h) rfl rfl rfl (PureOp.load (v := .int .i64 ((nth fl ((x.2.2.1).toNat)).2.2.2.2.2.2.2.1)) Try.underlying3 rfl rfl (fun _ => (CellIs.in_ hf ((x.2.2.1).toNat) 7 (by omega) (by omega)))) ?_
  refine SD.all [8, 12] (by kernel_rfl) (by simp) ⟨⟨_, [true, true, true, true, true, true, true, true, true, false, false, false, false, false, false], rfl, rfl, ?_⟩, ⟨_, [true, true, true, true, true, true, true, true, false, false, false, false, true, false, false], rfl, rfl, ?_⟩, trivial⟩
  · skip
    refine SL.calle rfl rfl rfl rfl rfl rfl callable45 (fun w hw => rule_ok u1 u2 fl rl rao rn rcap fao fn fcap hfn hrn w (hf.below hw.below) (hr.below hw.below) hfb hrb _) ?_
    refine SL.norm [_, _, _] rfl ?_
    refine SD.back (fun _ h => h) ?_
    refine SD.take 9 [true, true, true, true, true, true, true, true, true, true, false, false, false, false, false] rfl (by kernel_rfl) rfl (fun _ h => h) rfl rfl rfl (PureOp.move rfl) ?_
    refine SD.take 10 [true, true, true, true, true, true, true, true, true, true, true, false, false, false, false] rfl (by kernel_rfl) rfl (fun _ h => h) rfl rfl rfl (PureOp.extract rfl rfl) ?_
    refine SD.take 11 [true, true, true, true, true, true, true, true, true, true, true, true, false, false, false] rfl (by kernel_rfl) rfl (fun _ h => h) rfl rfl rfl (PureOp.extract rfl rfl) ?_
    refine SD.one 12 [true, true, true, true, true, true, true, true, true, true, true, true, true, false, false] (by kernel_rfl) rfl rfl ?_
    refine SL.alloc rfl rfl zero76 (fun b4 hb4 => ?_)
    refine SL.norm [_, _, _, _] rfl ?_
    refine SD.back (fun _ h => HeapOk.take h 3) ?_
    refine SD.one 13 [true, true, true, true, true, true, true, true, true, true, true, true, true, true, false] (by kernel_rfl) rfl rfl ?_
    refine SL.store 3 rfl rfl rfl rfl sz76 rfl rfl ?_
    refine SL.norm [_, _, _, _] rfl ?_
    refine SD.back (fun _ h => HeapOk.take h 3) ?_
    refine SD.take 14 [true, true, true, true, true, true, true, true, true, true, true, true, true, true, true] rfl (by kernel_rfl) rfl (fun _ h => HeapOk.take h 3) rfl rfl rfl (PureOp.assign rfl) ?_
    refine SD.done (by kernel_rfl) ?_
    refine QX.ofK ?_
    refine QX.then_ ?_
    refine WC.seq ?_
    refine WC.region ?_
    refine SL.pure rfl rfl rfl (PureOp.loads (vs := [.int .i64 ((ruleE rl (nth fl (x.2.2.1).toNat).2.2.2.2.2.2.2.1).1.1), .int .i64 ((ruleE rl (nth fl (x.2.2.1).toNat).2.2.2.2.2.2.2.1).1.2.1.1), .slice ((ruleE rl (nth fl (x.2.2.1).toNat).2.2.2.2.2.2.2.1).1.2.1.2.1.ao) ((ruleE rl (nth fl (x.2.2.1).toNat).2.2.2.2.2.2.2.1).1.2.1.2.1.l.length) ((ruleE rl (nth fl (x.2.2.1).toNat).2.2.2.2.2.2.2.1).1.2.1.2.1.cap), .int .i64 ((ruleE rl (nth fl (x.2.2.1).toNat).2.2.2.2.2.2.2.1).1.2.1.2.2.1), .int .i64 ((ruleE rl (nth fl (x.2.2.1).toNat).2.2.2.2.2.2.2.1).1.2.1.2.2.2.1), .int .i64 ((ruleE rl (nth fl (x.2.2.1).toNat).2.2.2.2.2.2.2.1).1.2.1.2.2.2.2.1.1), .int .i64 ((ruleE rl (nth fl (x.2.2.1).toNat).2.2.2.2.2.2.2.1).1.2.1.2.2.2.2.1.2.1), .int .i64 ((ruleE rl (nth fl (x.2.2.1).toNat).2.2.2.2.2.2.2.1).1.2.1.2.2.2.2.1.2.2), .slice ((ruleE rl (nth fl (x.2.2.1).toNat).2.2.2.2.2.2.2.1).1.2.1.2.2.2.2.2.ao) ((ruleE rl (nth fl (x.2.2.1).toNat).2.2.2.2.2.2.2.1).1.2.1.2.2.2.2.2.l.length) ((ruleE rl (nth fl (x.2.2.1).toNat).2.2.2.2.2.2.2.1).1.2.1.2.2.2.2.2.cap), .slice ((ruleE rl (nth fl (x.2.2.1).toNat).2.2.2.2.2.2.2.1).1.2.2.1.ao) ((ruleE rl (nth fl (x.2.2.1).toNat).2.2.2.2.2.2.2.1).1.2.2.1.l.length) ((ruleE rl (nth fl (x.2.2.1).toNat).2.2.2.2.2.2.2.1).1.2.2.1.cap), .int .i64 ((ruleE rl (nth fl (x.2.2.1).toNat).2.2.2.2.2.2.2.1).1.2.2.2.1), .int .i64 ((ruleE rl (nth fl (x.2.2.1).toNat).2.2.2.2.2.2.2.1).1.2.2.2.2.1), .int .i64 ((ruleE rl (nth fl (x.2.2.1).toNat).2.2.2.2.2.2.2.1).1.2.2.2.2.2.1), .int .i64 ((ruleE rl (nth fl (x.2.2.1).toNat).2.2.2.2.2.2.2.1).1.2.2.2.2.2.2.1), .slice ((ruleE rl (nth fl (x.2.2.1).toNat).2.2.2.2.2.2.2.1).1.2.2.2.2.2.2.2.ao) ((ruleE rl (nth fl (x.2.2.1).toNat).2.2.2.2.2.2.2.1).1.2.2.2.2.2.2.2.l.length) ((ruleE rl (nth fl (x.2.2.1).toNat).2.2.2.2.2.2.2.1).1.2.2.2.2.2.2.2.cap)]) Try.underlying76 rfl rfl (fun _ => (RowIs.cells 3 0 15 rfl rfl)) sz76) ?_
    refine SL.store 2 rfl rfl rfl rfl sz76 rfl rfl ?_
    refine SL.norm [_, _, _, _] rfl ?_
    refine SL.nil_then ?_
    refine WC.ret ?_
    refine QX.retv rfl (RVs.cons (RV.cell rfl Try.underlying76 rfl (RowIs.cells 2 0 15 rfl rfl) sz76) RVs.nil) ?_
    intro w hw
    rfl
  · skip
    refine SL.alloc rfl rfl zero76 (fun b5 hb5 => ?_)
    refine SL.norm [_, _, _, _] rfl ?_
    refine SD.back (fun _ h => HeapOk.take h 3) ?_
    refine SD.one 8 [true, true, true, true, true, true, true, true, true, false, false, false, true, false, false] (by kernel_rfl) rfl rfl ?_
    refine SL.calle rfl rfl rfl rfl rfl rfl callable45 (fun w hw => rule_ok u1 u2 fl rl rao rn rcap fao fn fcap hfn hrn w (hf.below hw.below) (hr.below hw.below) hfb hrb _) ?_
    refine SL.norm [_, _, _, _] rfl ?_
    refine SD.back (fun _ h => HeapOk.take h 3) ?_
    refine SD.take 9 [true, true, true, true, true, true, true, true, true, true, false, false, true, false, false] rfl (by kernel_rfl) rfl (fun _ h => HeapOk.take h 3) rfl rfl rfl (PureOp.move rfl) ?_
    refine SD.take 10 [true, true, true, true, true, true, true, true, true, true, true, false, true, false, false] rfl (by kernel_rfl) rfl (fun _ h => HeapOk.take h 3) rfl rfl rfl (PureOp.extract rfl rfl) ?_
    refine SD.take 11 [true, true, true, true, true, true, true, true, true, true, true, true, true, false, false] rfl (by kernel_rfl) rfl (fun _ h => HeapOk.take h 3) rfl rfl rfl (PureOp.extract rfl rfl) ?_
    refine SD.one 13 [true, true, true, true, true, true, true, true, true, true, true, true, true, true, false] (by kernel_rfl) rfl rfl ?_
    refine SL.store 3 rfl rfl rfl rfl sz76 rfl rfl ?_
    refine SL.norm [_, _, _, _] rfl ?_
    refine SD.back (fun _ h => HeapOk.take h 3) ?_
    refine SD.take 14 [true, true, true, true, true, true, true, true, true, true, true, true, true, true, true] rfl (by kernel_rfl) rfl (fun _ h => HeapOk.take h 3) rfl rfl rfl (PureOp.assign rfl) ?_
    refine SD.done (by kernel_rfl) ?_
    refine QX.ofK ?_
    refine QX.then_ ?_
    refine WC.seq ?_
    refine WC.region ?_
    refine SL.pure rfl rfl rfl (PureOp.loads (vs := [.int .i64 ((ruleE rl (nth fl (x.2.2.1).toNat).2.2.2.2.2.2.2.1).1.1), .int .i64 ((ruleE rl (nth fl (x.2.2.1).toNat).2.2.2.2.2.2.2.1).1.2.1.1), .slice ((ruleE rl (nth fl (x.2.2.1).toNat).2.2.2.2.2.2.2.1).1.2.1.2.1.ao) ((ruleE rl (nth fl (x.2.2.1).toNat).2.2.2.2.2.2.2.1).1.2.1.2.1.l.length) ((ruleE rl (nth fl (x.2.2.1).toNat).2.2.2.2.2.2.2.1).1.2.1.2.1.cap), .int .i64 ((ruleE rl (nth fl (x.2.2.1).toNat).2.2.2.2.2.2.2.1).1.2.1.2.2.1), .int .i64 ((ruleE rl (nth fl (x.2.2.1).toNat).2.2.2.2.2.2.2.1).1.2.1.2.2.2.1), .int .i64 ((ruleE rl (nth fl (x.2.2.1).toNat).2.2.2.2.2.2.2.1).1.2.1.2.2.2.2.1.1), .int .i64 ((ruleE rl (nth fl (x.2.2.1).toNat).2.2.2.2.2.2.2.1).1.2.1.2.2.2.2.1.2.1), .int .i64 ((ruleE rl (nth fl (x.2.2.1).toNat).2.2.2.2.2.2.2.1).1.2.1.2.2.2.2.1.2.2), .slice ((ruleE rl (nth fl (x.2.2.1).toNat).2.2.2.2.2.2.2.1).1.2.1.2.2.2.2.2.ao) ((ruleE rl (nth fl (x.2.2.1).toNat).2.2.2.2.2.2.2.1).1.2.1.2.2.2.2.2.l.length) ((ruleE rl (nth fl (x.2.2.1).toNat).2.2.2.2.2.2.2.1).1.2.1.2.2.2.2.2.cap), .slice ((ruleE rl (nth fl (x.2.2.1).toNat).2.2.2.2.2.2.2.1).1.2.2.1.ao) ((ruleE rl (nth fl (x.2.2.1).toNat).2.2.2.2.2.2.2.1).1.2.2.1.l.length) ((ruleE rl (nth fl (x.2.2.1).toNat).2.2.2.2.2.2.2.1).1.2.2.1.cap), .int .i64 ((ruleE rl (nth fl (x.2.2.1).toNat).2.2.2.2.2.2.2.1).1.2.2.2.1), .int .i64 ((ruleE rl (nth fl (x.2.2.1).toNat).2.2.2.2.2.2.2.1).1.2.2.2.2.1), .int .i64 ((ruleE rl (nth fl (x.2.2.1).toNat).2.2.2.2.2.2.2.1).1.2.2.2.2.2.1), .int .i64 ((ruleE rl (nth fl (x.2.2.1).toNat).2.2.2.2.2.2.2.1).1.2.2.2.2.2.2.1), .slice ((ruleE rl (nth fl (x.2.2.1).toNat).2.2.2.2.2.2.2.1).1.2.2.2.2.2.2.2.ao) ((ruleE rl (nth fl (x.2.2.1).toNat).2.2.2.2.2.2.2.1).1.2.2.2.2.2.2.2.l.length) ((ruleE rl (nth fl (x.2.2.1).toNat).2.2.2.2.2.2.2.1).1.2.2.2.2.2.2.2.cap)]) Try.underlying76 rfl rfl (fun _ => (RowIs.cells 3 0 15 rfl rfl)) sz76) ?_
    refine SL.store 2 rfl rfl rfl rfl sz76 rfl rfl ?_
    refine SL.norm [_, _, _, _] rfl ?_
    refine SL.nil_then ?_
    refine WC.ret ?_
    refine QX.retv rfl (RVs.cons (RV.cell rfl Try.underlying76 rfl (RowIs.cells 2 0 15 rfl rfl) sz76) RVs.nil) ?_
    intro w hw
    rfl

end Go.Proofs.Ytblmafknmeicfaa
