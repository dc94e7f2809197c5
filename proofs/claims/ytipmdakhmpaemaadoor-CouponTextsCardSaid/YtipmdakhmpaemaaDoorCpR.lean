import Derived.Test.YtipmdakhmpaemaaDoorCpB
namespace Go.Proofs.YtipmdakhmpaemaaDoor
open Go Go.RowKit Eng
set_option linter.unusedVariables false
set_option linter.unusedSimpArgs false

set_option maxHeartbeats 4000000 in
set_option maxRecDepth 100000 in
theorem rreach_ok (a b : Int) (w0 : World) : FnC Tryd.prog 16 [.int .i64 a, .int .i64 b] w0 fun v w' => v = .bool (reachC a b) := by
  refine fnc (N := 47) Tryd.func16 rfl rfl rfl ?_
  refine WC.seq ?_
  refine WC.region ?_
  refine SL.pure rfl rfl rfl (PureOp.assign rfl) ?_
  refine SL.nil_then ?_
  refine WC.seq ?_
  refine WC.seq ?_
  refine WC.region ?_
  refine SL.pure rfl rfl rfl (PureOp.move rfl) ?_
  refine SL.calle rfl rfl rfl rfl rfl rfl callable26 (fun w hw => known_ok _ w) ?_
  refine SL.pure rfl rfl rfl (PureOp.not rfl) ?_
  refine SL.pure rfl rfl rfl (PureOp.move rfl) ?_
  refine SL.newg 12 false rfl ?_
  refine SL.gpure (c := 1) rfl rfl rfl rfl rfl rfl rfl (PureOp.move rfl) ?_
  refine SL.gcalle (c := 1) rfl rfl rfl rfl rfl rfl rfl rfl rfl rfl callable26 (by intro hg; simp [gval] at hg; exact (fun w hw => known_ok _ w)) ?_
  refine SL.gpure (c := 1) rfl rfl rfl rfl rfl rfl rfl (PureOp.not rfl) ?_
  refine SL.pure rfl rfl rfl (PureOp.or_ rfl rfl rfl rfl) ?_
  refine SL.nil_then ?_
  refine WC.cond rfl (fun h1 => ?_) (fun h1 => ?_)
  · try simp only [Bool.and_eq_true, Bool.or_eq_true, Bool.not_eq_true', Bool.not_eq_false', Bool.and_eq_false_iff, Bool.or_eq_false_iff, decide_eq_true_eq, decide_eq_false_iff_not, Int.not_lt, Int.not_le, ne_eq, Decidable.not_not] at h1
    refine WC.seq ?_
    refine WC.region ?_
    refine SL.pure rfl rfl rfl (PureOp.assign rfl) ?_
    refine SL.nil_then ?_
    refine WC.ret ?_
    refine QX.ret_then ?_
    refine QX.ret1 rfl rfl ?_
    intro w hw
    unfold reachC; rw [if_pos (by omega)]
  · try simp only [Bool.and_eq_true, Bool.or_eq_true, Bool.not_eq_true', Bool.not_eq_false', Bool.and_eq_false_iff, Bool.or_eq_false_iff, decide_eq_true_eq, decide_eq_false_iff_not, Int.not_lt, Int.not_le, ne_eq, Decidable.not_not] at h1
    refine WC.skip ?_
    refine QX.then_ ?_
    refine WC.seq ?_
    refine WC.region ?_
    refine SL.alloc rfl rfl zero51 (fun b1 hb1 => ?_)
    refine SL.nil_then ?_
    refine WC.seq ?_
    refine WC.region ?_
    refine SL.pure rfl rfl rfl (PureOp.move rfl) ?_
    refine SL.pure rfl rfl rfl (PureOp.indexAddrA Tryd.underlying51 sz4 rfl rfl (fun _ => by first | omega | (have q := nextC_bd p e; omega))) ?_
    refine SL.storeat 0 rfl rfl rfl rfl sz4 rfl (by first | (simp [vcells]; omega) | (simp; have q := nextC_bd p e; omega)) ?_
    refine SL.nil_then ?_
    refine WC.seq ?_
    refine WC.seq ?_
    refine WC.region ?_
    refine SL.pure rfl rfl rfl (PureOp.assign rfl) ?_
    refine SL.nil_then ?_
    refine WC.block ?_
    refine WC.loop (σ := Nat × List Bool) (fun s => [(0, 0, .int .i64 a), (1, 0, .int .i64 b), (5, 0, .pointer (some ⟨b1, 0, none⟩)), (6, 0, .int .i64 (s.1 : Nat))]) (fun s => [.cells b1 (s.2.map Value.bool) 51]) (fun s => s.2.length = 9 ∧ s.1 ≤ 8 ∧ goT (8 - s.1) s.2 = goT 8 (none9.set a.toNat true)) (fun s => 8 - s.1) 1 ((0, none9.set a.toNat true)) (⟨by simp [none9], by show 0 ≤ 8; omega, rfl⟩) ⟨rfl, rfl, rfl, rfl, rfl, rfl, rfl, rfl, trivial⟩ (by simp [none9, List.map_set, vcells]) ?_
    rintro ⟨i, lt⟩ ⟨hl, hi, hgt⟩
    dsimp only at hl hi hgt ⊢
    refine WC.seq ?_
    refine WC.seq ?_
    refine WC.region ?_
    refine SL.pure rfl rfl rfl (PureOp.move rfl) ?_
    refine SL.pure rfl rfl rfl (PureOp.lss rfl rfl) ?_
    refine SL.nil_then ?_
    refine WC.cond rfl (fun h2 => ?_) (fun h2 => ?_)
    · try simp only [Bool.and_eq_true, Bool.or_eq_true, Bool.not_eq_true', Bool.not_eq_false', Bool.and_eq_false_iff, Bool.or_eq_false_iff, decide_eq_true_eq, decide_eq_false_iff_not, Int.not_lt, Int.not_le, ne_eq, Decidable.not_not] at h2
      refine WC.skip ?_
      refine QX.then_ ?_
      refine WC.seq ?_
      refine WC.block ?_
      refine WC.seq ?_
      refine WC.region ?_
      refine SL.pure rfl rfl rfl (PureOp.assign rfl) ?_
      refine SL.nil_then ?_
      refine WC.block ?_
      refine WC.loop (σ := Nat × List Bool) (fun s => [(0, 0, .int .i64 a), (1, 0, .int .i64 b), (5, 0, .pointer (some ⟨b1, 0, none⟩)), (6, 0, .int .i64 (i : Nat)), (7, 0, .int .i64 (s.1 : Nat))]) (fun s => [.cells b1 (s.2.map Value.bool) 51]) (fun s => s.2.length = 9 ∧ s.1 ≤ 9 ∧ 1 ≤ s.1 ∧ goS (9 - s.1) s.2 = goS 8 lt) (fun s => 9 - s.1) 1 ((1, lt)) (⟨hl, by show 1 ≤ 9; omega, by show 1 ≤ 1; omega, rfl⟩) ⟨rfl, rfl, rfl, rfl, rfl, rfl, rfl, rfl, rfl, rfl, trivial⟩ rfl ?_
      rintro ⟨p, ls⟩ ⟨hl, hp, hp1, hgs⟩
      dsimp only at hl hp hp1 hgs ⊢
      refine WC.seq ?_
      refine WC.seq ?_
      refine WC.region ?_
      refine SL.pure rfl rfl rfl (PureOp.move rfl) ?_
      refine SL.pure rfl rfl rfl (PureOp.leq rfl rfl) ?_
      refine SL.nil_then ?_
      refine WC.cond rfl (fun h3 => ?_) (fun h3 => ?_)
      · try simp only [Bool.and_eq_true, Bool.or_eq_true, Bool.not_eq_true', Bool.not_eq_false', Bool.and_eq_false_iff, Bool.or_eq_false_iff, decide_eq_true_eq, decide_eq_false_iff_not, Int.not_lt, Int.not_le, ne_eq, Decidable.not_not] at h3
        refine WC.skip ?_
        refine QX.then_ ?_
        refine WC.seq ?_
        refine WC.block ?_
        refine WC.seq ?_
        refine WC.region ?_
        refine SL.pure rfl rfl rfl (PureOp.assign rfl) ?_
        refine SL.nil_then ?_
        refine WC.block ?_
        refine WC.loop (σ := Nat × List Bool) (fun s => [(0, 0, .int .i64 a), (1, 0, .int .i64 b), (5, 0, .pointer (some ⟨b1, 0, none⟩)), (6, 0, .int .i64 (i : Nat)), (7, 0, .int .i64 (p : Nat)), (8, 0, .int .i64 (s.1 : Nat))]) (fun s => [.cells b1 (s.2.map Value.bool) 51]) (fun s => s.2.length = 9 ∧ s.1 ≤ 11 ∧ 1 ≤ s.1 ∧ goE (11 - s.1) s.2 p = goE 10 ls p) (fun s => 11 - s.1) 1 ((1, ls)) (⟨hl, by show 1 ≤ 11; omega, by show 1 ≤ 1; omega, rfl⟩) ⟨rfl, rfl, rfl, rfl, rfl, rfl, rfl, rfl, rfl, rfl, rfl, rfl, trivial⟩ rfl ?_
        rintro ⟨e, le⟩ ⟨hl, he, he1, hg⟩
        dsimp only at hl he he1 hg ⊢
        refine WC.seq ?_
        refine WC.seq ?_
        refine WC.region ?_
        refine SL.pure rfl rfl rfl (PureOp.move rfl) ?_
        refine SL.pure rfl rfl rfl (PureOp.leq rfl rfl) ?_
        refine SL.nil_then ?_
        refine WC.cond rfl (fun h4 => ?_) (fun h4 => ?_)
        · try simp only [Bool.and_eq_true, Bool.or_eq_true, Bool.not_eq_true', Bool.not_eq_false', Bool.and_eq_false_iff, Bool.or_eq_false_iff, decide_eq_true_eq, decide_eq_false_iff_not, Int.not_lt, Int.not_le, ne_eq, Decidable.not_not] at h4
          refine WC.skip ?_
          refine QX.then_ ?_
          refine WC.seq ?_
          refine WC.block ?_
          refine WC.seq ?_
          refine WC.region ?_
          refine SL.pure rfl rfl rfl (PureOp.move rfl) ?_
          refine SL.pure rfl rfl rfl (PureOp.indexAddrA Tryd.underlying51 sz4 rfl rfl (fun _ => by first | omega | (have q := nextC_bd p e; omega))) ?_
          refine SL.pure rfl rfl rfl (PureOp.load Tryd.underlying4 rfl rfl (fun _ => (CellIs.cells 0 rfl (bool_at (by omega))))) ?_
          refine SL.pure rfl rfl rfl (PureOp.move rfl) ?_
          refine SL.newg 34 true rfl ?_
          refine SL.gpure (c := 1) rfl rfl rfl rfl rfl rfl rfl (PureOp.move rfl) ?_
          refine SL.gpure (c := 1) rfl rfl rfl rfl rfl rfl rfl (PureOp.move rfl) ?_
          refine SL.gcalle (c := 1) rfl rfl rfl rfl rfl rfl rfl rfl rfl rfl callable27 (by intro hg; simp [gval] at hg; exact (fun w hw => after_ok p e (by omega) (by omega) w)) ?_
          refine SL.gpure (c := 1) rfl rfl rfl rfl rfl rfl rfl (PureOp.gtr rfl rfl) ?_
          refine SL.pure rfl rfl rfl (PureOp.and_ rfl rfl rfl rfl) ?_
          refine SL.nil_then ?_
          refine WC.cond rfl (fun h5 => ?_) (fun h5 => ?_)
          · try simp only [Bool.and_eq_true, Bool.or_eq_true, Bool.not_eq_true', Bool.not_eq_false', Bool.and_eq_false_iff, Bool.or_eq_false_iff, decide_eq_true_eq, decide_eq_false_iff_not, Int.not_lt, Int.not_le, ne_eq, Decidable.not_not] at h5
            refine WC.region ?_
            refine SL.pure rfl rfl rfl (PureOp.move rfl) ?_
            refine SL.pure rfl rfl rfl (PureOp.move rfl) ?_
            refine SL.calle rfl rfl rfl rfl rfl rfl callable27 (fun w hw => after_ok p e (by omega) (by omega) w) ?_
            refine SL.pure rfl rfl rfl (PureOp.indexAddrA Tryd.underlying51 sz4 rfl rfl (fun _ => by first | omega | (have q := nextC_bd p e; omega))) ?_
            refine SL.storeat 0 rfl rfl rfl rfl sz4 rfl (by first | (simp [vcells]; omega) | (simp; have q := nextC_bd p e; omega)) ?_
            refine SL.nil ?_
            refine QX.normal_in ?_
            refine QX.then_ ?_
            refine WC.region ?_
            refine SL.pure rfl rfl rfl (PureOp.move rfl) ?_
            refine SL.pure rfl rfl rfl (PureOp.add rfl rfl (fun _ => by first | omega | (have q := nextC_bd p e; omega))) ?_
            refine SL.pure rfl rfl rfl (PureOp.assign rfl) ?_
            refine SL.nil ?_
            refine QX.round (s := (e, le)) (μ := fun s => 11 - s.1) 1 (e + 1, stepT le p e) ⟨⟨by show (stepT le p e).length = 9; rw [stepT_len]; exact hl, by show e + 1 ≤ 11; omega, by show 1 ≤ e + 1; omega, ?_⟩, by show 11 - (e + 1) < 11 - e; omega⟩ ⟨rfl, rfl, rfl, rfl, rfl, rfl, rfl, rfl, rfl, rfl, rfl, rfl, trivial⟩ ?_
            · rw [← hg]
              dsimp only
              rw [show 11 - e = (10 - e) + 1 from by omega, goE, show 11 - (e + 1) = 10 - e from by omega, show 10 - (10 - e) = e from by omega]
            · show [Item.cells b1 _ 51] = [Item.cells b1 _ 51]
              congr 2
              simp only [stepT]
              rw [if_pos ⟨h5.1, h5.2⟩]
              simp [List.map_set]
          · try simp only [Bool.and_eq_true, Bool.or_eq_true, Bool.not_eq_true', Bool.not_eq_false', Bool.and_eq_false_iff, Bool.or_eq_false_iff, decide_eq_true_eq, decide_eq_false_iff_not, Int.not_lt, Int.not_le, ne_eq, Decidable.not_not] at h5
            refine WC.skip ?_
            refine QX.normal_in ?_
            refine QX.then_ ?_
            refine WC.region ?_
            refine SL.pure rfl rfl rfl (PureOp.move rfl) ?_
            refine SL.pure rfl rfl rfl (PureOp.add rfl rfl (fun _ => by first | omega | (have q := nextC_bd p e; omega))) ?_
            refine SL.pure rfl rfl rfl (PureOp.assign rfl) ?_
            refine SL.nil ?_
            refine QX.round (s := (e, le)) (μ := fun s => 11 - s.1) 1 (e + 1, stepT le p e) ⟨⟨by show (stepT le p e).length = 9; rw [stepT_len]; exact hl, by show e + 1 ≤ 11; omega, by show 1 ≤ e + 1; omega, ?_⟩, by show 11 - (e + 1) < 11 - e; omega⟩ ⟨rfl, rfl, rfl, rfl, rfl, rfl, rfl, rfl, rfl, rfl, rfl, rfl, trivial⟩ ?_
            · rw [← hg]
              dsimp only
              rw [show 11 - e = (10 - e) + 1 from by omega, goE, show 11 - (e + 1) = 10 - e from by omega, show 10 - (10 - e) = e from by omega]
            · show [Item.cells b1 _ 51] = [Item.cells b1 _ 51]
              congr 2
              simp only [stepT]
              rw [if_neg (by rintro ⟨q1, q2⟩; rcases h5 with q | q; (rw [show (p : Int).toNat = p from rfl] at q; rw [q] at q1; cases q1); (revert q; show ¬ nextC p e ≤ 0; omega))]
        · try simp only [Bool.and_eq_true, Bool.or_eq_true, Bool.not_eq_true', Bool.not_eq_false', Bool.and_eq_false_iff, Bool.or_eq_false_iff, decide_eq_true_eq, decide_eq_false_iff_not, Int.not_lt, Int.not_le, ne_eq, Decidable.not_not] at h4
          refine WC.exit ?_
          refine QX.exit_then ?_
          refine QX.exit_then ?_
          refine QX.exit_hit ?_
          refine QX.normal_in ?_
          refine QX.then_ ?_
          refine WC.region ?_
          refine SL.pure rfl rfl rfl (PureOp.move rfl) ?_
          refine SL.pure rfl rfl rfl (PureOp.add rfl rfl (fun _ => by first | omega | (have q := nextC_bd p e; omega))) ?_
          refine SL.pure rfl rfl rfl (PureOp.assign rfl) ?_
          refine SL.nil ?_
          obtain rfl : e = 11 := by omega
          refine QX.round (s := (p, ls)) (μ := fun s => 9 - s.1) 1 (p + 1, le) ⟨⟨hl, by show p + 1 ≤ 9; omega, by show 1 ≤ p + 1; omega, ?_⟩, by show 9 - (p + 1) < 9 - p; omega⟩ ⟨rfl, rfl, rfl, rfl, rfl, rfl, rfl, rfl, rfl, rfl, trivial⟩ rfl
          rw [← hgs]
          dsimp only
          rw [show 9 - p = (8 - p) + 1 from by omega, goS, show 9 - (p + 1) = 8 - p from by omega, show 8 - (8 - p) = p from by omega, ← hg]
          rfl
      · try simp only [Bool.and_eq_true, Bool.or_eq_true, Bool.not_eq_true', Bool.not_eq_false', Bool.and_eq_false_iff, Bool.or_eq_false_iff, decide_eq_true_eq, decide_eq_false_iff_not, Int.not_lt, Int.not_le, ne_eq, Decidable.not_not] at h3
        refine WC.exit ?_
        refine QX.exit_then ?_
        refine QX.exit_then ?_
        refine QX.exit_hit ?_
        refine QX.normal_in ?_
        refine QX.then_ ?_
        refine WC.region ?_
        refine SL.pure rfl rfl rfl (PureOp.move rfl) ?_
        refine SL.pure rfl rfl rfl (PureOp.add rfl rfl (fun _ => by first | omega | (have q := nextC_bd p e; omega))) ?_
        refine SL.pure rfl rfl rfl (PureOp.assign rfl) ?_
        refine SL.nil ?_
        obtain rfl : p = 9 := by omega
        refine QX.round (s := (i, lt)) (μ := fun s => 8 - s.1) 1 (i + 1, ls) ⟨⟨hl, by show i + 1 ≤ 8; omega, ?_⟩, by show 8 - (i + 1) < 8 - i; omega⟩ ⟨rfl, rfl, rfl, rfl, rfl, rfl, rfl, rfl, trivial⟩ rfl
        rw [← hgt]
        dsimp only
        rw [show 8 - i = (7 - i) + 1 from by omega, goT, show 8 - (i + 1) = 7 - i from by omega, ← hgs]
        rfl
    · try simp only [Bool.and_eq_true, Bool.or_eq_true, Bool.not_eq_true', Bool.not_eq_false', Bool.and_eq_false_iff, Bool.or_eq_false_iff, decide_eq_true_eq, decide_eq_false_iff_not, Int.not_lt, Int.not_le, ne_eq, Decidable.not_not] at h2
      refine WC.exit ?_
      refine QX.exit_then ?_
      refine QX.exit_then ?_
      refine QX.exit_hit ?_
      refine QX.then_ ?_
      refine WC.seq ?_
      refine WC.region ?_
      refine SL.pure rfl rfl rfl (PureOp.move rfl) ?_
      refine SL.pure rfl rfl rfl (PureOp.indexAddrA Tryd.underlying51 sz4 rfl rfl (fun _ => by first | omega | (have q := nextC_bd p e; omega))) ?_
      refine SL.pure rfl rfl rfl (PureOp.load Tryd.underlying4 rfl rfl (fun _ => (CellIs.cells 0 rfl (bool_at (by omega))))) ?_
      refine SL.pure rfl rfl rfl (PureOp.assign rfl) ?_
      refine SL.nil_then ?_
      refine WC.ret ?_
      refine QX.ret1 rfl rfl ?_
      intro w hw
      obtain rfl : i = 8 := by omega
      rw [← reach_eq (by omega), ← hgt]; rfl

end Go.Proofs.YtipmdakhmpaemaaDoor
