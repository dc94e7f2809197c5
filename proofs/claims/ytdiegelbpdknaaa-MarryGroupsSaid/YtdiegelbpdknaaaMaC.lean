import Derived.Test.YtdiegelbpdknaaaMaB
namespace Go.Proofs.Ytdiegelbpdknaaa
open Go Go.RowKit Eng
set_option linter.unusedVariables false
set_option linter.unusedSimpArgs false

set_option maxHeartbeats 4000000 in
set_option maxRecDepth 100000 in
theorem neighbour_ok (l : List Int) (ao : Option Addr) (n cap : Nat) (hn : n = l.length) (w0 : World) (hz : SliceIn w0 1 ao n cap (rowsF encI l)) (i : Nat) (hi : i < n) (hnb : n ≤ 1000) : FnC Try.prog 23 [.slice ao n cap, .int .i64 (i : Nat)] w0 fun v w' => v = .bool (neighB l i) := by
  refine fnc (N := 38) Try.func23 rfl rfl rfl ?_
  refine WC.seq ?_
  refine WC.region ?_
  refine SL.pure rfl rfl rfl (PureOp.assign rfl) ?_
  refine SL.nil_then ?_
  refine WC.seq ?_
  refine WC.quiet rfl (by kernel_rfl) ?_
  refine SQ.pure rfl rfl rfl (PureOp.move rfl) ?_
  refine SQ.pure rfl rfl rfl (PureOp.gtr rfl rfl) ?_
  refine SQ.pure rfl rfl rfl (PureOp.move rfl) ?_
  refine SQ.newg 7 true rfl ?_
  refine SQ.gpure (c := 1) rfl rfl rfl rfl rfl rfl rfl (PureOp.move rfl) ?_
  refine SQ.gpure (c := 1) rfl rfl rfl rfl rfl rfl rfl (PureOp.move rfl) ?_
  refine SQ.gpure (c := 1) rfl rfl rfl rfl rfl rfl rfl (PureOp.sub rfl rfl (by intro hg; simp [gval] at hg; omega)) ?_
  refine SQ.gpure (c := 1) rfl rfl rfl rfl rfl rfl rfl (PureOp.indexAddr Try.underlying22 sz3 rfl rfl (AoOk.in_ hz) (by intro hg; simp [gval] at hg; omega)) ?_
  refine SQ.gpure (c := 1) rfl rfl rfl rfl rfl rfl rfl (PureOp.load Try.underlying3 rfl rfl (by intro hg; simp [gval] at hg; exact (CellIs.in_ hz ((i : Int) - 1).toNat 0 (by omega) (by omega)))) ?_
  refine SQ.gpure (c := 1) rfl rfl rfl rfl rfl rfl rfl (PureOp.move rfl) ?_
  refine SQ.gpure (c := 1) rfl rfl rfl rfl rfl rfl rfl (PureOp.move rfl) ?_
  refine SQ.gpure (c := 1) rfl rfl rfl rfl rfl rfl rfl (PureOp.indexAddr Try.underlying22 sz3 rfl rfl (AoOk.in_ hz) (by intro hg; simp [gval] at hg; omega)) ?_
  refine SQ.gpure (c := 1) rfl rfl rfl rfl rfl rfl rfl (PureOp.load Try.underlying3 rfl rfl (by intro hg; simp [gval] at hg; exact (CellIs.in_ hz (i : Int).toNat 0 (by omega) (by omega)))) ?_
  refine SQ.gpure (c := 1) rfl rfl rfl rfl rfl rfl rfl (PureOp.eql rfl rfl) ?_
  refine SQ.pure rfl rfl rfl (PureOp.and_ rfl rfl rfl rfl) ?_
  refine SQ.pure rfl rfl rfl (PureOp.move rfl) ?_
  refine SQ.newg 19 false rfl ?_
  refine SQ.gpure (c := 2) rfl rfl rfl rfl rfl rfl rfl (PureOp.move rfl) ?_
  refine SQ.gpure (c := 2) rfl rfl rfl rfl rfl rfl rfl (PureOp.add rfl rfl (by intro hg; simp [gval] at hg; omega)) ?_
  refine SQ.gpure (c := 2) rfl rfl rfl rfl rfl rfl rfl (PureOp.move rfl) ?_
  refine SQ.gpure (c := 2) rfl rfl rfl rfl rfl rfl rfl (PureOp.len rfl Try.underlying22) ?_
  refine SQ.gpure (c := 2) rfl rfl rfl rfl rfl rfl rfl (PureOp.lss rfl rfl) ?_
  refine SQ.gpure (c := 2) rfl rfl rfl rfl rfl rfl rfl (PureOp.move rfl) ?_
  refine SQ.newg 25 true rfl ?_
  refine SQ.gpure (c := 3) rfl rfl rfl rfl rfl rfl rfl (PureOp.move rfl) ?_
  refine SQ.gpure (c := 3) rfl rfl rfl rfl rfl rfl rfl (PureOp.move rfl) ?_
  refine SQ.gpure (c := 3) rfl rfl rfl rfl rfl rfl rfl (PureOp.add rfl rfl (by intro hg; simp [gval] at hg; omega)) ?_
  refine SQ.gpure (c := 3) rfl rfl rfl rfl rfl rfl rfl (PureOp.indexAddr Try.underlying22 sz3 rfl rfl (AoOk.in_ hz) (by intro hg; simp [gval] at hg; omega)) ?_
  refine SQ.gpure (c := 3) rfl rfl rfl rfl rfl rfl rfl (PureOp.load Try.underlying3 rfl rfl (by intro hg; simp [gval] at hg; exact (CellIs.in_ hz ((i : Int) + 1).toNat 0 (by omega) (by omega)))) ?_
  refine SQ.gpure (c := 3) rfl rfl rfl rfl rfl rfl rfl (PureOp.move rfl) ?_
  refine SQ.gpure (c := 3) rfl rfl rfl rfl rfl rfl rfl (PureOp.move rfl) ?_
  refine SQ.gpure (c := 3) rfl rfl rfl rfl rfl rfl rfl (PureOp.indexAddr Try.underlying22 sz3 rfl rfl (AoOk.in_ hz) (by intro hg; simp [gval] at hg; omega)) ?_
  refine SQ.gpure (c := 3) rfl rfl rfl rfl rfl rfl rfl (PureOp.load Try.underlying3 rfl rfl (by intro hg; simp [gval] at hg; exact (CellIs.in_ hz (i : Int).toNat 0 (by omega) (by omega)))) ?_
  refine SQ.gpure (c := 3) rfl rfl rfl rfl rfl rfl rfl (PureOp.eql rfl rfl) ?_
  refine SQ.gpure (c := 2) rfl rfl rfl rfl rfl rfl rfl (PureOp.and_ rfl rfl rfl rfl) ?_
  refine SQ.pure rfl rfl rfl (PureOp.or_ rfl rfl rfl rfl) ?_
  refine SQ.pure rfl rfl rfl (PureOp.assign rfl) ?_
  refine SQ.nil_then ?_
  refine WC.ret ?_
  refine QX.ret1 rfl rfl ?_
  intro w hw
  refine congrArg Value.bool ?_
  rw [show ((i : Int) - 1).toNat = i - 1 from by omega, show ((i : Int) + 1).toNat = i + 1 from by omega]
  rw [Bool.eq_iff_iff]
  simp [neighB]
  omega

set_option maxHeartbeats 4000000 in
set_option maxRecDepth 100000 in
theorem rcheck_ok (l : List Int) (ao : Option Addr) (n cap : Nat) (hn : n = l.length) (w0 : World) (hz : SliceIn w0 1 ao n cap (rowsF encI l)) (hnb : n ≤ 1000) : FnC Try.prog 11 [.slice ao n cap] w0 fun v w' => v = .int .i64 (checkF l) := by
  refine fnc (N := 70) Try.func11 rfl rfl rfl ?_
  refine WC.seq ?_
  refine WC.region ?_
  refine SL.pure rfl rfl rfl (PureOp.assign rfl) ?_
  refine SL.nil_then ?_
  refine WC.seq ?_
  refine WC.seq ?_
  refine WC.region ?_
  refine SL.pure rfl rfl rfl (PureOp.assign rfl) ?_
  refine SL.nil_then ?_
  refine WC.block ?_
  refine WC.loop (σ := Nat) (fun s => [(0, 0, .slice ao n cap), (3, 0, .int .i64 (s : Nat))]) (fun _ => []) (fun k => k ≤ n ∧ negs (l.drop k) = negs l) (fun k => n - k) 0 (0) (⟨Nat.zero_le _, rfl⟩) ⟨rfl, rfl, rfl, rfl, trivial⟩ rfl ?_
  rintro k0 ⟨hk0, hI0⟩
  refine WC.seq ?_
  refine WC.seq ?_
  refine WC.region ?_
  refine SL.pure rfl rfl rfl (PureOp.move rfl) ?_
  refine SL.pure rfl rfl rfl (PureOp.move rfl) ?_
  refine SL.pure rfl rfl rfl (PureOp.len rfl Try.underlying22) ?_
  refine SL.pure rfl rfl rfl (PureOp.lss rfl rfl) ?_
  refine SL.nil_then ?_
  refine WC.cond rfl (fun h1 => ?_) (fun h1 => ?_)
  · try simp only [Bool.and_eq_true, Bool.or_eq_true, Bool.not_eq_true', Bool.not_eq_false', Bool.and_eq_false_iff, Bool.or_eq_false_iff, decide_eq_true_eq, decide_eq_false_iff_not, Int.not_lt, Int.not_le, ne_eq, Decidable.not_not] at h1
    refine WC.skip ?_
    refine QX.then_ ?_
    refine WC.seq ?_
    refine WC.block ?_
    refine WC.seq ?_
    refine WC.region ?_
    refine SL.pure rfl rfl rfl (PureOp.move rfl) ?_
    refine SL.pure rfl rfl rfl (PureOp.move rfl) ?_
    refine SL.pure rfl rfl rfl (PureOp.indexAddrN Try.underlying22 sz3 rfl rfl (AoOk.in_ hz) (fun _ => by omega)) ?_
    refine SL.pure rfl rfl rfl (PureOp.load Try.underlying3 rfl rfl (fun _ => (CellIs.in_ hz _ 0 (by omega) (by omega)))) ?_
    refine SL.pure rfl rfl rfl (PureOp.lss rfl rfl) ?_
    refine SL.nil_then ?_
    refine WC.cond rfl (fun h2 => ?_) (fun h2 => ?_)
    · try simp only [Bool.and_eq_true, Bool.or_eq_true, Bool.not_eq_true', Bool.not_eq_false', Bool.and_eq_false_iff, Bool.or_eq_false_iff, decide_eq_true_eq, decide_eq_false_iff_not, Int.not_lt, Int.not_le, ne_eq, Decidable.not_not] at h2
      refine WC.seq ?_
      refine WC.region ?_
      refine SL.pure rfl rfl rfl (PureOp.assign rfl) ?_
      refine SL.nil_then ?_
      refine WC.ret ?_
      refine QX.ret_in ?_
      refine QX.ret_then ?_
      refine QX.ret_then ?_
      refine QX.ret_in ?_
      refine QX.ret_then ?_
      refine QX.ret1 rfl rfl ?_
      intro w hw
      have hneg : negs l = true := by
        have e := drop_nth (l := l) (i := k0) (by omega)
        rw [← hI0, e]; simp [negs]; left; omega
      rw [checkF, if_pos hneg]
    · try simp only [Bool.and_eq_true, Bool.or_eq_true, Bool.not_eq_true', Bool.not_eq_false', Bool.and_eq_false_iff, Bool.or_eq_false_iff, decide_eq_true_eq, decide_eq_false_iff_not, Int.not_lt, Int.not_le, ne_eq, Decidable.not_not] at h2
      refine WC.skip ?_
      refine QX.normal_in ?_
      refine QX.then_ ?_
      refine WC.region ?_
      refine SL.pure rfl rfl rfl (PureOp.move rfl) ?_
      refine SL.pure rfl rfl rfl (PureOp.add rfl rfl (fun _ => by omega)) ?_
      refine SL.pure rfl rfl rfl (PureOp.assign rfl) ?_
      refine SL.nil ?_
      have e := drop_nth (l := l) (i := k0) (by omega)
      rw [e] at hI0
      have hI1 : negs (l.drop (k0 + 1)) = negs l := by rw [← hI0]; simp [negs]; omega
      refine QX.round 0 (k0 + 1) ⟨⟨by omega, hI1⟩, by omega⟩ ⟨rfl, rfl, rfl, rfl, trivial⟩ rfl
  · try simp only [Bool.and_eq_true, Bool.or_eq_true, Bool.not_eq_true', Bool.not_eq_false', Bool.and_eq_false_iff, Bool.or_eq_false_iff, decide_eq_true_eq, decide_eq_false_iff_not, Int.not_lt, Int.not_le, ne_eq, Decidable.not_not] at h1
    refine WC.exit ?_
    refine QX.exit_then ?_
    refine QX.exit_then ?_
    refine QX.exit_hit ?_
    refine QX.then_ ?_
    refine WC.seq ?_
    refine WC.seq ?_
    refine WC.region ?_
    refine SL.pure rfl rfl rfl (PureOp.assign rfl) ?_
    refine SL.nil_then ?_
    refine WC.block ?_
    refine WC.loop (σ := Nat) (fun s => [(0, 0, .slice ao n cap), (4, 0, .int .i64 (s : Nat))]) (fun _ => []) (fun k => k ≤ n ∧ ∀ i, i < k → ¬ BadR l i) (fun k => n - k) 0 (0) (⟨Nat.zero_le _, fun i hi => absurd hi (by omega)⟩) ⟨rfl, rfl, rfl, rfl, trivial⟩ rfl ?_
    rintro i ⟨hi, hI⟩
    refine WC.seq ?_
    refine WC.seq ?_
    refine WC.region ?_
    refine SL.pure rfl rfl rfl (PureOp.move rfl) ?_
    refine SL.pure rfl rfl rfl (PureOp.move rfl) ?_
    refine SL.pure rfl rfl rfl (PureOp.len rfl Try.underlying22) ?_
    refine SL.pure rfl rfl rfl (PureOp.lss rfl rfl) ?_
    refine SL.nil_then ?_
    refine WC.cond rfl (fun h3 => ?_) (fun h3 => ?_)
    · try simp only [Bool.and_eq_true, Bool.or_eq_true, Bool.not_eq_true', Bool.not_eq_false', Bool.and_eq_false_iff, Bool.or_eq_false_iff, decide_eq_true_eq, decide_eq_false_iff_not, Int.not_lt, Int.not_le, ne_eq, Decidable.not_not] at h3
      refine WC.skip ?_
      refine QX.then_ ?_
      refine WC.seq ?_
      refine WC.block ?_
      refine WC.seq ?_
      refine WC.seq ?_
      refine WC.region ?_
      refine SL.pure rfl rfl rfl (PureOp.move rfl) ?_
      refine SL.pure rfl rfl rfl (PureOp.move rfl) ?_
      refine SL.pure rfl rfl rfl (PureOp.indexAddrN Try.underlying22 sz3 rfl rfl (AoOk.in_ hz) (fun _ => by omega)) ?_
      refine SL.pure rfl rfl rfl (PureOp.load Try.underlying3 rfl rfl (fun _ => (CellIs.in_ hz _ 0 (by omega) (by omega)))) ?_
      refine SL.pure rfl rfl rfl (PureOp.gtr rfl rfl) ?_
      refine SL.pure rfl rfl rfl (PureOp.move rfl) ?_
      refine SL.newg 28 true rfl ?_
      refine SL.gpure (c := 1) rfl rfl rfl rfl rfl rfl rfl (PureOp.move rfl) ?_
      refine SL.gpure (c := 1) rfl rfl rfl rfl rfl rfl rfl (PureOp.move rfl) ?_
      refine SL.gcalle (c := 1) rfl rfl rfl rfl rfl rfl rfl rfl rfl rfl callable23 (by intro hg; simp [gval] at hg; exact (fun w hw => neighbour_ok l ao n cap hn w (hz.below hw.below) i (by omega) hnb)) ?_
      refine SL.gpure (c := 1) rfl rfl rfl rfl rfl rfl rfl (PureOp.not rfl) ?_
      refine SL.pure rfl rfl rfl (PureOp.and_ rfl rfl rfl rfl) ?_
      refine SL.nil_then ?_
      refine WC.cond rfl (fun h4 => ?_) (fun h4 => ?_)
      · try simp only [Bool.and_eq_true, Bool.or_eq_true, Bool.not_eq_true', Bool.not_eq_false', Bool.and_eq_false_iff, Bool.or_eq_false_iff, decide_eq_true_eq, decide_eq_false_iff_not, Int.not_lt, Int.not_le, ne_eq, Decidable.not_not] at h4
        refine WC.seq ?_
        refine WC.region ?_
        refine SL.pure rfl rfl rfl (PureOp.assign rfl) ?_
        refine SL.nil_then ?_
        refine WC.ret ?_
        refine QX.ret_then ?_
        refine QX.ret_in ?_
        refine QX.ret_then ?_
        refine QX.ret_then ?_
        refine QX.ret_in ?_
        refine QX.ret_then ?_
        refine QX.ret1 rfl rfl ?_
        intro w hw
        have hneg : negs l = false := by
          have e : l.drop k0 = [] := List.drop_eq_nil_of_le (by omega)
          rw [← hI0, e]; rfl
        rw [checkF, if_neg (by rw [hneg]; simp), if_pos ((bad_iff l).2 ⟨i, by omega, .inl ⟨by omega, by simpa using h4.2⟩⟩)]
      · try simp only [Bool.and_eq_true, Bool.or_eq_true, Bool.not_eq_true', Bool.not_eq_false', Bool.and_eq_false_iff, Bool.or_eq_false_iff, decide_eq_true_eq, decide_eq_false_iff_not, Int.not_lt, Int.not_le, ne_eq, Decidable.not_not] at h4
        refine WC.skip ?_
        refine QX.then_ ?_
        refine WC.seq ?_
        refine WC.region ?_
        refine SL.pure rfl rfl rfl (PureOp.move rfl) ?_
        refine SL.pure rfl rfl rfl (PureOp.add rfl rfl (fun _ => by omega)) ?_
        refine SL.pure rfl rfl rfl (PureOp.assign rfl) ?_
        refine SL.nil_then ?_
        refine WC.block ?_
        refine WC.loop (σ := Nat) (fun s => [(0, 0, .slice ao n cap), (4, 0, .int .i64 (i : Nat)), (5, 0, .int .i64 (s : Nat))]) (fun _ => []) (fun j => i + 2 ≤ j ∧ ∀ k, i + 2 ≤ k → k < j → farB l i k = false) (fun j => n - j) 0 (i + 2) (⟨Nat.le_refl _, fun k h1 h2 => absurd h2 (by omega)⟩) ⟨rfl, rfl, rfl, rfl, rfl, rfl, trivial⟩ rfl ?_
        rintro j ⟨hj, hJ⟩
        refine WC.seq ?_
        refine WC.seq ?_
        refine WC.region ?_
        refine SL.pure rfl rfl rfl (PureOp.move rfl) ?_
        refine SL.pure rfl rfl rfl (PureOp.move rfl) ?_
        refine SL.pure rfl rfl rfl (PureOp.len rfl Try.underlying22) ?_
        refine SL.pure rfl rfl rfl (PureOp.lss rfl rfl) ?_
        refine SL.nil_then ?_
        refine WC.cond rfl (fun h5 => ?_) (fun h5 => ?_)
        · try simp only [Bool.and_eq_true, Bool.or_eq_true, Bool.not_eq_true', Bool.not_eq_false', Bool.and_eq_false_iff, Bool.or_eq_false_iff, decide_eq_true_eq, decide_eq_false_iff_not, Int.not_lt, Int.not_le, ne_eq, Decidable.not_not] at h5
          refine WC.skip ?_
          refine QX.then_ ?_
          refine WC.seq ?_
          refine WC.block ?_
          refine WC.seq ?_
          refine WC.quiet rfl (by kernel_rfl) ?_
          refine SQ.pure rfl rfl rfl (PureOp.move rfl) ?_
          refine SQ.pure rfl rfl rfl (PureOp.move rfl) ?_
          refine SQ.pure rfl rfl rfl (PureOp.indexAddr Try.underlying22 sz3 rfl rfl (AoOk.in_ hz) (fun _ => by omega)) ?_
          refine SQ.pure rfl rfl rfl (PureOp.load Try.underlying3 rfl rfl (fun _ => (CellIs.in_ hz (i : Int).toNat 0 (by omega) (by omega)))) ?_
          refine SQ.pure rfl rfl rfl (PureOp.gtr rfl rfl) ?_
          refine SQ.pure rfl rfl rfl (PureOp.move rfl) ?_
          refine SQ.newg 47 true rfl ?_
          refine SQ.gpure (c := 1) rfl rfl rfl rfl rfl rfl rfl (PureOp.move rfl) ?_
          refine SQ.gpure (c := 1) rfl rfl rfl rfl rfl rfl rfl (PureOp.move rfl) ?_
          refine SQ.gpure (c := 1) rfl rfl rfl rfl rfl rfl rfl (PureOp.indexAddr Try.underlying22 sz3 rfl rfl (AoOk.in_ hz) (by intro hg; simp [gval] at hg; omega)) ?_
          refine SQ.gpure (c := 1) rfl rfl rfl rfl rfl rfl rfl (PureOp.load Try.underlying3 rfl rfl (by intro hg; simp [gval] at hg; exact (CellIs.in_ hz (j : Int).toNat 0 (by omega) (by omega)))) ?_
          refine SQ.gpure (c := 1) rfl rfl rfl rfl rfl rfl rfl (PureOp.move rfl) ?_
          refine SQ.gpure (c := 1) rfl rfl rfl rfl rfl rfl rfl (PureOp.move rfl) ?_
          refine SQ.gpure (c := 1) rfl rfl rfl rfl rfl rfl rfl (PureOp.indexAddr Try.underlying22 sz3 rfl rfl (AoOk.in_ hz) (by intro hg; simp [gval] at hg; omega)) ?_
          refine SQ.gpure (c := 1) rfl rfl rfl rfl rfl rfl rfl (PureOp.load Try.underlying3 rfl rfl (by intro hg; simp [gval] at hg; exact (CellIs.in_ hz (i : Int).toNat 0 (by omega) (by omega)))) ?_
          refine SQ.gpure (c := 1) rfl rfl rfl rfl rfl rfl rfl (PureOp.eql rfl rfl) ?_
          refine SQ.pure rfl rfl rfl (PureOp.and_ rfl rfl rfl rfl) ?_
          refine SQ.pure rfl rfl rfl (PureOp.move rfl) ?_
          refine SQ.newg 58 true rfl ?_
          refine SQ.gpure (c := 2) rfl rfl rfl rfl rfl rfl rfl (PureOp.move rfl) ?_
          refine SQ.gpure (c := 2) rfl rfl rfl rfl rfl rfl rfl (PureOp.move rfl) ?_
          refine SQ.gpure (c := 2) rfl rfl rfl rfl rfl rfl rfl (PureOp.sub rfl rfl (by intro hg; simp [gval] at hg; omega)) ?_
          refine SQ.gpure (c := 2) rfl rfl rfl rfl rfl rfl rfl (PureOp.indexAddr Try.underlying22 sz3 rfl rfl (AoOk.in_ hz) (by intro hg; simp [gval] at hg; omega)) ?_
          refine SQ.gpure (c := 2) rfl rfl rfl rfl rfl rfl rfl (PureOp.load Try.underlying3 rfl rfl (by intro hg; simp [gval] at hg; exact (CellIs.in_ hz ((j : Int) - 1).toNat 0 (by omega) (by omega)))) ?_
          refine SQ.gpure (c := 2) rfl rfl rfl rfl rfl rfl rfl (PureOp.move rfl) ?_
          refine SQ.gpure (c := 2) rfl rfl rfl rfl rfl rfl rfl (PureOp.move rfl) ?_
          refine SQ.gpure (c := 2) rfl rfl rfl rfl rfl rfl rfl (PureOp.indexAddr Try.underlying22 sz3 rfl rfl (AoOk.in_ hz) (by intro hg; simp [gval] at hg; omega)) ?_
          refine SQ.gpure (c := 2) rfl rfl rfl rfl rfl rfl rfl (PureOp.load Try.underlying3 rfl rfl (by intro hg; simp [gval] at hg; exact (CellIs.in_ hz (i : Int).toNat 0 (by omega) (by omega)))) ?_
          refine SQ.gpure (c := 2) rfl rfl rfl rfl rfl rfl rfl (PureOp.neq rfl rfl) ?_
          refine SQ.pure rfl rfl rfl (PureOp.and_ rfl rfl rfl rfl) ?_
          refine SQ.nil_then ?_
          refine WC.cond rfl (fun h6 => ?_) (fun h6 => ?_)
          · try simp only [Bool.and_eq_true, Bool.or_eq_true, Bool.not_eq_true', Bool.not_eq_false', Bool.and_eq_false_iff, Bool.or_eq_false_iff, decide_eq_true_eq, decide_eq_false_iff_not, Int.not_lt, Int.not_le, ne_eq, Decidable.not_not] at h6
            refine WC.seq ?_
            refine WC.region ?_
            refine SL.pure rfl rfl rfl (PureOp.assign rfl) ?_
            refine SL.nil_then ?_
            refine WC.ret ?_
            refine QX.ret_in ?_
            refine QX.ret_then ?_
            refine QX.ret_then ?_
            refine QX.ret_in ?_
            refine QX.ret_in ?_
            refine QX.ret_then ?_
            refine QX.ret_then ?_
            refine QX.ret_in ?_
            refine QX.ret_then ?_
            refine QX.ret1 rfl rfl ?_
            intro w hw
            have hneg : negs l = false := by
              have e : l.drop k0 = [] := List.drop_eq_nil_of_le (by omega)
              rw [← hI0, e]; rfl
            rw [checkF, if_neg (by rw [hneg]; simp), if_pos ((bad_iff l).2 ⟨i, by omega, .inr ⟨j, hj, by omega, ?_⟩⟩)]
            have hh := h6
            rw [show ((j : Int) - 1).toNat = j - 1 from by omega] at hh
            simp only [Int.toNat_natCast] at hh
            simp only [farB, Bool.and_eq_true, decide_eq_true_eq]
            exact ⟨⟨by omega, hh.1.2⟩, hh.2⟩
          · try simp only [Bool.and_eq_true, Bool.or_eq_true, Bool.not_eq_true', Bool.not_eq_false', Bool.and_eq_false_iff, Bool.or_eq_false_iff, decide_eq_true_eq, decide_eq_false_iff_not, Int.not_lt, Int.not_le, ne_eq, Decidable.not_not] at h6
            refine WC.skip ?_
            refine QX.normal_in ?_
            refine QX.then_ ?_
            refine WC.region ?_
            refine SL.pure rfl rfl rfl (PureOp.move rfl) ?_
            refine SL.pure rfl rfl rfl (PureOp.add rfl rfl (fun _ => by omega)) ?_
            refine SL.pure rfl rfl rfl (PureOp.assign rfl) ?_
            refine SL.nil ?_
            have hJ1 : ∀ k, i + 2 ≤ k → k < j + 1 → farB l i k = false := by
              intro k k1 k2
              by_cases q : k = j
              · subst q
                have hh := h6
                simp only [farB, Bool.and_eq_false_iff, decide_eq_false_iff_not]
                rw [show ((k : Int) - 1).toNat = k - 1 from by omega] at hh
                simp only [Int.toNat_natCast] at hh
                rcases hh with (hh | hh) | hh
                · left; left; omega
                · left; right; omega
                · right; simpa using hh
              · exact hJ k k1 (by omega)
            refine QX.round 0 (j + 1) ⟨⟨by omega, hJ1⟩, by omega⟩ ⟨rfl, rfl, rfl, rfl, rfl, rfl, trivial⟩ rfl
        · try simp only [Bool.and_eq_true, Bool.or_eq_true, Bool.not_eq_true', Bool.not_eq_false', Bool.and_eq_false_iff, Bool.or_eq_false_iff, decide_eq_true_eq, decide_eq_false_iff_not, Int.not_lt, Int.not_le, ne_eq, Decidable.not_not] at h5
          refine WC.exit ?_
          refine QX.exit_then ?_
          refine QX.exit_then ?_
          refine QX.exit_hit ?_
          refine QX.normal_in ?_
          refine QX.then_ ?_
          refine WC.region ?_
          refine SL.pure rfl rfl rfl (PureOp.move rfl) ?_
          refine SL.pure rfl rfl rfl (PureOp.add rfl rfl (fun _ => by omega)) ?_
          refine SL.pure rfl rfl rfl (PureOp.assign rfl) ?_
          refine SL.nil ?_
          have hI1 : ∀ p, p < i + 1 → ¬ BadR l p := by
            intro p hp
            by_cases q : p = i
            · subst q
              rintro (⟨b1, b2⟩ | ⟨k, b1, b2, b3⟩)
              · rw [b2] at h4; simp at h4; omega
              · rw [hJ k b1 (by omega)] at b3; cases b3
            · exact hI p (by omega)
          refine QX.round 0 (i + 1) ⟨⟨by omega, hI1⟩, by omega⟩ ⟨rfl, rfl, rfl, rfl, trivial⟩ rfl
    · try simp only [Bool.and_eq_true, Bool.or_eq_true, Bool.not_eq_true', Bool.not_eq_false', Bool.and_eq_false_iff, Bool.or_eq_false_iff, decide_eq_true_eq, decide_eq_false_iff_not, Int.not_lt, Int.not_le, ne_eq, Decidable.not_not] at h3
      refine WC.exit ?_
      refine QX.exit_then ?_
      refine QX.exit_then ?_
      refine QX.exit_hit ?_
      refine QX.then_ ?_
      refine WC.seq ?_
      refine WC.region ?_
      refine SL.pure rfl rfl rfl (PureOp.assign rfl) ?_
      refine SL.nil_then ?_
      refine WC.ret ?_
      refine QX.ret1 rfl rfl ?_
      intro w hw
      have hneg : negs l = false := by
        have e : l.drop k0 = [] := List.drop_eq_nil_of_le (by omega)
        rw [← hI0, e]; rfl
      rw [checkF, if_neg (by rw [hneg]; simp), if_neg (fun q => by obtain ⟨p, p1, p2⟩ := (bad_iff l).1 q; exact hI p (by omega) p2)]

end Go.Proofs.Ytdiegelbpdknaaa
