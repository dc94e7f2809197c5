import Derived.Test.YtdiegelbpdknaaaMaJ
namespace Go.Proofs.Ytdiegelbpdknaaa
open Go Go.RowKit Eng
set_option linter.unusedVariables false
set_option linter.unusedSimpArgs false

set_option maxHeartbeats 4000000 in
set_option maxRecDepth 100000 in
theorem join_ok (l : List Int) (ao : Option Addr) (n cap : Nat) (hn : n = l.length) (w0 : World) (hz : SliceIn w0 1 ao n cap (rowsF encI l)) (f t : Int) (hb : ∀ y ∈ l, y ≤ 9223372036854775807) (hnb : n ≤ 1000) : FnC Try.prog 19 [.slice ao n cap, .int .i64 f, .int .i64 t] w0 fun v w' => ∃ a c, v = .tuple #[.slice a (joinX l f t).length c, .int .i64 (joinE l f t)] ∧ w'.ownsRow w0.heap.size 3 1 (.slice a (joinX l f t).length c) (joinX l f t).length (cellsOf encI (joinX l f t)) := by
  refine fnc (N := 54) Try.func19 rfl rfl rfl ?_
  refine WC.seq ?_
  refine WC.region ?_
  refine SL.pure rfl rfl rfl (PureOp.assign rfl) ?_
  refine SL.pure rfl rfl rfl (PureOp.assign rfl) ?_
  refine SL.nil_then ?_
  refine WC.seq ?_
  refine WC.seq ?_
  refine WC.region ?_
  refine SL.pure rfl rfl rfl (PureOp.move rfl) ?_
  refine SL.calle rfl rfl rfl rfl rfl rfl callable10 (fun w hw => check_ok l ao n cap hn w (hz.below hw.below) hnb) ?_
  refine SL.pure rfl rfl rfl (PureOp.assign rfl) ?_
  refine SL.nil_then ?_
  refine WC.seq ?_
  refine WC.region ?_
  refine SL.pure rfl rfl rfl (PureOp.move rfl) ?_
  refine SL.pure rfl rfl rfl (PureOp.neq rfl rfl) ?_
  refine SL.nil_then ?_
  refine WC.cond rfl (fun h1 => ?_) (fun h1 => ?_)
  · try simp only [Bool.and_eq_true, Bool.or_eq_true, Bool.not_eq_true', Bool.not_eq_false', Bool.and_eq_false_iff, Bool.or_eq_false_iff, decide_eq_true_eq, decide_eq_false_iff_not, Int.not_lt, Int.not_le, ne_eq, Decidable.not_not] at h1
    refine WC.seq ?_
    refine WC.region ?_
    refine SL.pure rfl rfl rfl (PureOp.move rfl) ?_
    refine SL.pure rfl rfl rfl (PureOp.assign rfl) ?_
    refine SL.pure rfl rfl rfl (PureOp.assign rfl) ?_
    refine SL.nil_then ?_
    refine WC.ret ?_
    refine QX.ret_then ?_
    refine QX.ret2 rfl rfl rfl ?_
    intro w hw
    have q : joinE l f t = checkF l := by rw [joinE, if_pos (by omega)]
    rw [joinX_bad q (by omega), q]
    exact ⟨none, 0, rfl, ownsRow_nil⟩
  · try simp only [Bool.and_eq_true, Bool.or_eq_true, Bool.not_eq_true', Bool.not_eq_false', Bool.and_eq_false_iff, Bool.or_eq_false_iff, decide_eq_true_eq, decide_eq_false_iff_not, Int.not_lt, Int.not_le, ne_eq, Decidable.not_not] at h1
    refine WC.skip ?_
    refine QX.then_ ?_
    refine WC.seq ?_
    refine WC.seq ?_
    refine WC.region ?_
    refine SL.pure rfl rfl rfl (PureOp.move rfl) ?_
    refine SL.pure rfl rfl rfl (PureOp.lss rfl rfl) ?_
    refine SL.pure rfl rfl rfl (PureOp.move rfl) ?_
    refine SL.newg 19 false rfl ?_
    refine SL.gpure (c := 1) rfl rfl rfl rfl rfl rfl rfl (PureOp.move rfl) ?_
    refine SL.gpure (c := 1) rfl rfl rfl rfl rfl rfl rfl (PureOp.move rfl) ?_
    refine SL.gpure (c := 1) rfl rfl rfl rfl rfl rfl rfl (PureOp.geq rfl rfl) ?_
    refine SL.pure rfl rfl rfl (PureOp.or_ rfl rfl rfl rfl) ?_
    refine SL.pure rfl rfl rfl (PureOp.move rfl) ?_
    refine SL.newg 24 false rfl ?_
    refine SL.gpure (c := 2) rfl rfl rfl rfl rfl rfl rfl (PureOp.move rfl) ?_
    refine SL.gpure (c := 2) rfl rfl rfl rfl rfl rfl rfl (PureOp.move rfl) ?_
    refine SL.gpure (c := 2) rfl rfl rfl rfl rfl rfl rfl (PureOp.len rfl Try.underlying22) ?_
    refine SL.gpure (c := 2) rfl rfl rfl rfl rfl rfl rfl (PureOp.geq rfl rfl) ?_
    refine SL.pure rfl rfl rfl (PureOp.or_ rfl rfl rfl rfl) ?_
    refine SL.nil_then ?_
    refine WC.cond rfl (fun h2 => ?_) (fun h2 => ?_)
    · try simp only [Bool.and_eq_true, Bool.or_eq_true, Bool.not_eq_true', Bool.not_eq_false', Bool.and_eq_false_iff, Bool.or_eq_false_iff, decide_eq_true_eq, decide_eq_false_iff_not, Int.not_lt, Int.not_le, ne_eq, Decidable.not_not] at h2
      refine WC.seq ?_
      refine WC.region ?_
      refine SL.pure rfl rfl rfl (PureOp.assign rfl) ?_
      refine SL.pure rfl rfl rfl (PureOp.assign rfl) ?_
      refine SL.nil_then ?_
      refine WC.ret ?_
      refine QX.ret_then ?_
      refine QX.ret2 rfl rfl rfl ?_
      intro w hw
      have q : joinE l f t = 2 := by rw [joinE, if_neg (by omega), if_pos (by omega)]
      rw [joinX_bad q (by omega), q]
      exact ⟨none, 0, rfl, ownsRow_nil⟩
    · try simp only [Bool.and_eq_true, Bool.or_eq_true, Bool.not_eq_true', Bool.not_eq_false', Bool.and_eq_false_iff, Bool.or_eq_false_iff, decide_eq_true_eq, decide_eq_false_iff_not, Int.not_lt, Int.not_le, ne_eq, Decidable.not_not] at h2
      have hc0 : checkF l = 0 := by omega
      have hn0 := (check_ok_nonneg hc0).1 0 (by omega)
      refine WC.skip ?_
      refine QX.then_ ?_
      refine WC.seq ?_
      refine WC.seq ?_
      refine WC.region ?_
      refine SL.pure rfl rfl rfl (PureOp.move rfl) ?_
      refine SL.pure rfl rfl rfl (PureOp.move rfl) ?_
      refine SL.pure rfl rfl rfl (PureOp.move rfl) ?_
      refine SL.pure rfl rfl rfl (PureOp.add rfl rfl (fun _ => by (first | omega | (have q := hz.le; omega) | (have q := cellsOf_length encI_len (js l f.toNat (mx 0 l + 1) j); rw [js_length] at q; omega)))) ?_
      refine SL.pure rfl rfl rfl (PureOp.slicelh Try.underlying22 sz3 rfl rfl rfl (fun _ => by (first | omega | (have q := hz.le; omega) | (have q := cellsOf_length encI_len (js l f.toNat (mx 0 l + 1) j); rw [js_length] at q; omega)))) ?_
      refine SL.calle rfl rfl rfl rfl rfl rfl callable25 (fun w hw => containsf_ok ((l.drop f.toNat).take ((t + 1).toNat - f.toNat)) _ _ _ (by rw [List.length_take, List.length_drop]; omega) w ((hz.subrows hn f.toNat (t + 1).toNat (by omega) (by omega)).below hw.below) (by omega)) ?_
      refine SL.nil_then ?_
      refine WC.cond rfl (fun h3 => ?_) (fun h3 => ?_)
      · try simp only [Bool.and_eq_true, Bool.or_eq_true, Bool.not_eq_true', Bool.not_eq_false', Bool.and_eq_false_iff, Bool.or_eq_false_iff, decide_eq_true_eq, decide_eq_false_iff_not, Int.not_lt, Int.not_le, ne_eq, Decidable.not_not] at h3
        refine WC.seq ?_
        refine WC.region ?_
        refine SL.pure rfl rfl rfl (PureOp.assign rfl) ?_
        refine SL.pure rfl rfl rfl (PureOp.assign rfl) ?_
        refine SL.nil_then ?_
        refine WC.ret ?_
        refine QX.ret_then ?_
        refine QX.ret2 rfl rfl rfl ?_
        intro w hw
        have hmid : (l.drop f.toNat).take ((t + 1).toNat - f.toNat) = midL l f t := by rw [midL, show (t + 1).toNat - f.toNat = (t + 1 - f).toNat from by omega]
        rw [hmid] at h3
        have q : joinE l f t = 18 := by rw [joinE, if_neg (by omega), if_neg (by omega), if_pos h3]
        rw [joinX_bad q (by omega), q]
        exact ⟨none, 0, rfl, ownsRow_nil⟩
      · try simp only [Bool.and_eq_true, Bool.or_eq_true, Bool.not_eq_true', Bool.not_eq_false', Bool.and_eq_false_iff, Bool.or_eq_false_iff, decide_eq_true_eq, decide_eq_false_iff_not, Int.not_lt, Int.not_le, ne_eq, Decidable.not_not] at h3
        refine WC.skip ?_
        refine QX.then_ ?_
        refine WC.seq ?_
        refine WC.region ?_
        refine SL.pure rfl rfl rfl (PureOp.move rfl) ?_
        refine SL.calle rfl rfl rfl rfl rfl rfl callable27 (fun w hw => max_ok l ao n cap hn w (hz.below hw.below) (by omega) hn0 hnb) ?_
        refine SL.pure rfl rfl rfl (PureOp.assign rfl) ?_
        refine SL.nil_then ?_
        refine WC.seq ?_
        refine WC.seq ?_
        refine WC.region ?_
        refine SL.pure rfl rfl rfl (PureOp.move rfl) ?_
        refine SL.pure rfl rfl rfl (PureOp.eql rfl rfl) ?_
        refine SL.nil_then ?_
        refine WC.cond rfl (fun h4 => ?_) (fun h4 => ?_)
        · try simp only [Bool.and_eq_true, Bool.or_eq_true, Bool.not_eq_true', Bool.not_eq_false', Bool.and_eq_false_iff, Bool.or_eq_false_iff, decide_eq_true_eq, decide_eq_false_iff_not, Int.not_lt, Int.not_le, ne_eq, Decidable.not_not] at h4
          refine WC.seq ?_
          refine WC.region ?_
          refine SL.pure rfl rfl rfl (PureOp.assign rfl) ?_
          refine SL.pure rfl rfl rfl (PureOp.assign rfl) ?_
          refine SL.nil_then ?_
          refine WC.ret ?_
          refine QX.ret_then ?_
          refine QX.ret2 rfl rfl rfl ?_
          intro w hw
          have hmid : (l.drop f.toNat).take ((t + 1).toNat - f.toNat) = midL l f t := by rw [midL, show (t + 1).toNat - f.toNat = (t + 1 - f).toNat from by omega]
          rw [hmid] at h3
          have q : joinE l f t = 2 := by rw [joinE, if_neg (by omega), if_neg (by omega), if_neg (by rw [h3]; simp), if_pos (by omega)]
          rw [joinX_bad q (by omega), q]
          exact ⟨none, 0, rfl, ownsRow_nil⟩
        · try simp only [Bool.and_eq_true, Bool.or_eq_true, Bool.not_eq_true', Bool.not_eq_false', Bool.and_eq_false_iff, Bool.or_eq_false_iff, decide_eq_true_eq, decide_eq_false_iff_not, Int.not_lt, Int.not_le, ne_eq, Decidable.not_not] at h4
          have hmx := mx_le l 0 9223372036854775807 (by omega) hb
          have hmg := mx_ge l 0
          refine WC.skip ?_
          refine QX.then_ ?_
          refine WC.seq ?_
          refine WC.region ?_
          refine SL.pure rfl rfl rfl (PureOp.move rfl) ?_
          refine SL.callo (fun a c => .slice a l.length c) rfl rfl rfl rfl rfl rfl callable24 (fun w hw => clone_ok l ao n cap hn w (hz.below hw.below) hnb) (fun ka kc => ?_)
          refine SL.pure rfl rfl rfl (PureOp.assign rfl) ?_
          refine SL.nil_then ?_
          refine WC.seq ?_
          refine WC.seq ?_
          refine WC.region ?_
          refine SL.pure rfl rfl rfl (PureOp.move rfl) ?_
          refine SL.pure rfl rfl rfl (PureOp.assign rfl) ?_
          refine SL.nil_then ?_
          refine WC.block ?_
          refine WC.loop (σ := Nat × Int) (fun s => [(2, 0, .int .i64 t), (9, 0, .int .i64 (mx 0 l)), (10, 0, .slice ka l.length kc), (11, 0, .int .i64 s.2)]) (fun s => [.own w0.heap.size ka l.length kc 3 1 (cellsOf encI (js l f.toNat (mx 0 l + 1) s.1))]) (fun s => s.1 ≤ (t + 1 - f).toNat ∧ s.2 = f + (s.1 : Int)) (fun s => (t + 1 - f).toNat - s.1) 1 ((0, f)) (⟨Nat.zero_le _, by show f = f + ((0 : Nat) : Int); omega⟩) ⟨rfl, rfl, rfl, rfl, rfl, rfl, rfl, rfl, trivial⟩ rfl ?_
          rintro ⟨j, i⟩ ⟨hj, hi⟩
          dsimp only at hj hi ⊢
          refine WC.seq ?_
          refine WC.seq ?_
          refine WC.region ?_
          refine SL.pure rfl rfl rfl (PureOp.move rfl) ?_
          refine SL.pure rfl rfl rfl (PureOp.move rfl) ?_
          refine SL.pure rfl rfl rfl (PureOp.leq rfl rfl) ?_
          refine SL.nil_then ?_
          refine WC.cond rfl (fun h5 => ?_) (fun h5 => ?_)
          · try simp only [Bool.and_eq_true, Bool.or_eq_true, Bool.not_eq_true', Bool.not_eq_false', Bool.and_eq_false_iff, Bool.or_eq_false_iff, decide_eq_true_eq, decide_eq_false_iff_not, Int.not_lt, Int.not_le, ne_eq, Decidable.not_not] at h5
            refine WC.skip ?_
            refine QX.then_ ?_
            refine WC.seq ?_
            refine WC.block ?_
            refine WC.region ?_
            refine SL.pure rfl rfl rfl (PureOp.move rfl) ?_
            refine SL.pure rfl rfl rfl (PureOp.move rfl) ?_
            refine SL.pure rfl rfl rfl (PureOp.move rfl) ?_
            refine SL.pure rfl rfl rfl (PureOp.add rfl rfl (fun _ => by (first | omega | (have q := hz.le; omega) | (have q := cellsOf_length encI_len (js l f.toNat (mx 0 l + 1) j); rw [js_length] at q; omega)))) ?_
            refine SL.pure rfl rfl rfl (PureOp.indexAddr Try.underlying22 sz3 rfl rfl (AoOk.own 0 rfl) (fun _ => by (first | omega | (have q := hz.le; omega) | (have q := cellsOf_length encI_len (js l f.toNat (mx 0 l + 1) j); rw [js_length] at q; omega)))) ?_
            refine SL.storeown (k := i.toNat) (j := 0) 0 rfl rfl rfl rfl sz3 (by (first | omega | (have q := hz.le; omega) | (have q := cellsOf_length encI_len (js l f.toNat (mx 0 l + 1) j); rw [js_length] at q; omega))) rfl ?_
            refine SL.nil ?_
            refine QX.normal_in ?_
            refine QX.then_ ?_
            refine WC.region ?_
            refine SL.pure rfl rfl rfl (PureOp.move rfl) ?_
            refine SL.pure rfl rfl rfl (PureOp.add rfl rfl (fun _ => by (first | omega | (have q := hz.le; omega) | (have q := cellsOf_length encI_len (js l f.toNat (mx 0 l + 1) j); rw [js_length] at q; omega)))) ?_
            refine SL.pure rfl rfl rfl (PureOp.assign rfl) ?_
            refine SL.nil ?_
            refine QX.round (s := (j, i)) (μ := fun s => (t + 1 - f).toNat - s.1) 1 (j + 1, i + 1) ⟨⟨by show j + 1 ≤ _; omega, by show i + 1 = f + ((j + 1 : Nat) : Int); omega⟩, by show (t + 1 - f).toNat - (j + 1) < (t + 1 - f).toNat - j; omega⟩ ⟨rfl, rfl, rfl, rfl, rfl, rfl, rfl, rfl, trivial⟩ ?_
            show [Item.own _ _ _ _ _ _ _] = [Item.own _ _ _ _ _ _ _]
            rw [set_cells (by rw [js_length]; omega), js, show i.toNat = f.toNat + j from by omega]
          · try simp only [Bool.and_eq_true, Bool.or_eq_true, Bool.not_eq_true', Bool.not_eq_false', Bool.and_eq_false_iff, Bool.or_eq_false_iff, decide_eq_true_eq, decide_eq_false_iff_not, Int.not_lt, Int.not_le, ne_eq, Decidable.not_not] at h5
            refine WC.exit ?_
            refine QX.exit_then ?_
            refine QX.exit_then ?_
            refine QX.exit_hit ?_
            refine QX.then_ ?_
            refine WC.seq ?_
            refine WC.region ?_
            refine SL.pure rfl rfl rfl (PureOp.move rfl) ?_
            refine SL.pure rfl rfl rfl (PureOp.assign rfl) ?_
            refine SL.pure rfl rfl rfl (PureOp.assign rfl) ?_
            refine SL.nil_then ?_
            refine WC.ret ?_
            refine QX.ret2 rfl rfl rfl ?_
            intro w hw
            have hmid : (l.drop f.toNat).take ((t + 1).toNat - f.toNat) = midL l f t := by rw [midL, show (t + 1).toNat - f.toNat = (t + 1 - f).toNat from by omega]
            rw [hmid] at h3
            have q : joinE l f t = 0 := by rw [joinE, if_neg (by omega), if_neg (by omega), if_neg (by rw [h3]; simp), if_neg (by omega)]
            obtain rfl : j = (t + 1 - f).toNat := by omega
            rw [joinX, if_pos q, q, js_length]
            exact ⟨ka, kc, rfl, hw.mem (i := 0) rfl⟩

set_option maxHeartbeats 4000000 in
set_option maxRecDepth 100000 in
theorem rjoin_ok (l : List Int) (ao : Option Addr) (n cap : Nat) (hn : n = l.length) (w0 : World) (hz : SliceIn w0 1 ao n cap (rowsF encI l)) (f t : Int) (hb : ∀ y ∈ l, y ≤ 9223372036854775807) (hnb : n ≤ 1000) : FnC Try.prog 20 [.slice ao n cap, .int .i64 f, .int .i64 t] w0 fun v w' => ∃ a c, v = .tuple #[.slice a (joinX l f t).length c, .int .i64 (joinE l f t)] ∧ w'.ownsRow w0.heap.size 3 1 (.slice a (joinX l f t).length c) (joinX l f t).length (cellsOf encI (joinX l f t)) := by
  refine fnc (N := 54) Try.func20 rfl rfl rfl ?_
  refine WC.seq ?_
  refine WC.region ?_
  refine SL.pure rfl rfl rfl (PureOp.assign rfl) ?_
  refine SL.pure rfl rfl rfl (PureOp.assign rfl) ?_
  refine SL.nil_then ?_
  refine WC.seq ?_
  refine WC.seq ?_
  refine WC.region ?_
  refine SL.pure rfl rfl rfl (PureOp.move rfl) ?_
  refine SL.calle rfl rfl rfl rfl rfl rfl callable11 (fun w hw => rcheck_ok l ao n cap hn w (hz.below hw.below) hnb) ?_
  refine SL.pure rfl rfl rfl (PureOp.assign rfl) ?_
  refine SL.nil_then ?_
  refine WC.seq ?_
  refine WC.region ?_
  refine SL.pure rfl rfl rfl (PureOp.move rfl) ?_
  refine SL.pure rfl rfl rfl (PureOp.neq rfl rfl) ?_
  refine SL.nil_then ?_
  refine WC.cond rfl (fun h1 => ?_) (fun h1 => ?_)
  · try simp only [Bool.and_eq_true, Bool.or_eq_true, Bool.not_eq_true', Bool.not_eq_false', Bool.and_eq_false_iff, Bool.or_eq_false_iff, decide_eq_true_eq, decide_eq_false_iff_not, Int.not_lt, Int.not_le, ne_eq, Decidable.not_not] at h1
    refine WC.seq ?_
    refine WC.region ?_
    refine SL.pure rfl rfl rfl (PureOp.move rfl) ?_
    refine SL.pure rfl rfl rfl (PureOp.assign rfl) ?_
    refine SL.pure rfl rfl rfl (PureOp.assign rfl) ?_
    refine SL.nil_then ?_
    refine WC.ret ?_
    refine QX.ret_then ?_
    refine QX.ret2 rfl rfl rfl ?_
    intro w hw
    have q : joinE l f t = checkF l := by rw [joinE, if_pos (by omega)]
    rw [joinX_bad q (by omega), q]
    exact ⟨none, 0, rfl, ownsRow_nil⟩
  · try simp only [Bool.and_eq_true, Bool.or_eq_true, Bool.not_eq_true', Bool.not_eq_false', Bool.and_eq_false_iff, Bool.or_eq_false_iff, decide_eq_true_eq, decide_eq_false_iff_not, Int.not_lt, Int.not_le, ne_eq, Decidable.not_not] at h1
    refine WC.skip ?_
    refine QX.then_ ?_
    refine WC.seq ?_
    refine WC.seq ?_
    refine WC.region ?_
    refine SL.pure rfl rfl rfl (PureOp.move rfl) ?_
    refine SL.pure rfl rfl rfl (PureOp.lss rfl rfl) ?_
    refine SL.pure rfl rfl rfl (PureOp.move rfl) ?_
    refine SL.newg 19 false rfl ?_
    refine SL.gpure (c := 1) rfl rfl rfl rfl rfl rfl rfl (PureOp.move rfl) ?_
    refine SL.gpure (c := 1) rfl rfl rfl rfl rfl rfl rfl (PureOp.move rfl) ?_
    refine SL.gpure (c := 1) rfl rfl rfl rfl rfl rfl rfl (PureOp.geq rfl rfl) ?_
    refine SL.pure rfl rfl rfl (PureOp.or_ rfl rfl rfl rfl) ?_
    refine SL.pure rfl rfl rfl (PureOp.move rfl) ?_
    refine SL.newg 24 false rfl ?_
    refine SL.gpure (c := 2) rfl rfl rfl rfl rfl rfl rfl (PureOp.move rfl) ?_
    refine SL.gpure (c := 2) rfl rfl rfl rfl rfl rfl rfl (PureOp.move rfl) ?_
    refine SL.gpure (c := 2) rfl rfl rfl rfl rfl rfl rfl (PureOp.len rfl Try.underlying22) ?_
    refine SL.gpure (c := 2) rfl rfl rfl rfl rfl rfl rfl (PureOp.geq rfl rfl) ?_
    refine SL.pure rfl rfl rfl (PureOp.or_ rfl rfl rfl rfl) ?_
    refine SL.nil_then ?_
    refine WC.cond rfl (fun h2 => ?_) (fun h2 => ?_)
    · try simp only [Bool.and_eq_true, Bool.or_eq_true, Bool.not_eq_true', Bool.not_eq_false', Bool.and_eq_false_iff, Bool.or_eq_false_iff, decide_eq_true_eq, decide_eq_false_iff_not, Int.not_lt, Int.not_le, ne_eq, Decidable.not_not] at h2
      refine WC.seq ?_
      refine WC.region ?_
      refine SL.pure rfl rfl rfl (PureOp.assign rfl) ?_
      refine SL.pure rfl rfl rfl (PureOp.assign rfl) ?_
      refine SL.nil_then ?_
      refine WC.ret ?_
      refine QX.ret_then ?_
      refine QX.ret2 rfl rfl rfl ?_
      intro w hw
      have q : joinE l f t = 2 := by rw [joinE, if_neg (by omega), if_pos (by omega)]
      rw [joinX_bad q (by omega), q]
      exact ⟨none, 0, rfl, ownsRow_nil⟩
    · try simp only [Bool.and_eq_true, Bool.or_eq_true, Bool.not_eq_true', Bool.not_eq_false', Bool.and_eq_false_iff, Bool.or_eq_false_iff, decide_eq_true_eq, decide_eq_false_iff_not, Int.not_lt, Int.not_le, ne_eq, Decidable.not_not] at h2
      refine WC.skip ?_
      refine QX.then_ ?_
      refine WC.seq ?_
      refine WC.region ?_
      refine SL.buildSlice0 rfl rfl Try.underlying22 elem3 (fun b1 hb1 => ?_)
      refine SL.pure rfl rfl rfl (PureOp.move rfl) ?_
      refine SL.append 0 rfl rfl Try.underlying22 elem3 rfl rfl rfl rfl (SrcIs.in_ hz encI_len hn) (by exact all_one_cells (fun x => rfl) l) (by (first | omega | (have q := cellsOf_length encI_len (js l f.toNat (wrap64 (mx 0 l + 1)) j); rw [js_length] at q; omega))) (by (first | omega | (have q := cellsOf_length encI_len (js l f.toNat (wrap64 (mx 0 l + 1)) j); rw [js_length] at q; omega))) (fun ao1_ cap1_ => ?_)
      refine SL.pure rfl rfl rfl (PureOp.assign rfl) ?_
      refine SL.nil_then ?_
      refine WC.seq ?_
      refine WC.region ?_
      refine SL.pure rfl rfl rfl (PureOp.move rfl) ?_
      refine SL.calle rfl rfl rfl rfl rfl rfl callable28 (fun w hw => greatest_ok l ao n cap hn w (hz.below hw.below) hnb) ?_
      refine SL.pure rfl rfl rfl (PureOp.addw rfl rfl) ?_
      refine SL.pure rfl rfl rfl (PureOp.assign rfl) ?_
      refine SL.nil_then ?_
      refine WC.seq ?_
      refine WC.seq ?_
      refine WC.region ?_
      refine SL.pure rfl rfl rfl (PureOp.move rfl) ?_
      refine SL.pure rfl rfl rfl (PureOp.assign rfl) ?_
      refine SL.nil_then ?_
      refine WC.block ?_
      refine WC.loop (σ := Nat × Int) (fun s => [(0, 0, .slice ao n cap), (2, 0, .int .i64 t), (9, 0, .slice ao1_ (0 + n) cap1_), (10, 0, .int .i64 (wrap64 (mx 0 l + 1))), (11, 0, .int .i64 s.2)]) (fun s => [.own w0.heap.size ao1_ (0 + n) cap1_ 3 1 (cellsOf encI (js l f.toNat (wrap64 (mx 0 l + 1)) s.1))]) (fun s => s.1 ≤ (t + 1 - f).toNat ∧ s.2 = f + (s.1 : Int) ∧ ∀ p : Nat, f ≤ p → (p : Int) < s.2 → ¬ 0 < nth l p) (fun s => (t + 1 - f).toNat - s.1) 1 ((0, f)) (⟨Nat.zero_le _, by show f = f + ((0 : Nat) : Int); omega, fun p h1 h2 => absurd h2 (by show ¬ (p : Int) < f; omega)⟩) ⟨rfl, rfl, rfl, rfl, rfl, rfl, rfl, rfl, rfl, rfl, trivial⟩ rfl ?_
      rintro ⟨j, i⟩ ⟨hj, hi, hI⟩
      dsimp only at hj hi hI ⊢
      refine WC.seq ?_
      refine WC.seq ?_
      refine WC.region ?_
      refine SL.pure rfl rfl rfl (PureOp.move rfl) ?_
      refine SL.pure rfl rfl rfl (PureOp.move rfl) ?_
      refine SL.pure rfl rfl rfl (PureOp.leq rfl rfl) ?_
      refine SL.nil_then ?_
      refine WC.cond rfl (fun h3 => ?_) (fun h3 => ?_)
      · try simp only [Bool.and_eq_true, Bool.or_eq_true, Bool.not_eq_true', Bool.not_eq_false', Bool.and_eq_false_iff, Bool.or_eq_false_iff, decide_eq_true_eq, decide_eq_false_iff_not, Int.not_lt, Int.not_le, ne_eq, Decidable.not_not] at h3
        refine WC.skip ?_
        refine QX.then_ ?_
        refine WC.seq ?_
        refine WC.block ?_
        refine WC.seq ?_
        refine WC.seq ?_
        refine WC.region ?_
        refine SL.pure rfl rfl rfl (PureOp.move rfl) ?_
        refine SL.pure rfl rfl rfl (PureOp.move rfl) ?_
        refine SL.pure rfl rfl rfl (PureOp.indexAddr Try.underlying22 sz3 rfl rfl (AoOk.in_ hz) (fun _ => by (first | omega | (have q := cellsOf_length encI_len (js l f.toNat (wrap64 (mx 0 l + 1)) j); rw [js_length] at q; omega)))) ?_
        refine SL.pure rfl rfl rfl (PureOp.load Try.underlying3 rfl rfl (fun _ => (CellIs.in_ hz i.toNat 0 (by omega) (by omega)))) ?_
        refine SL.pure rfl rfl rfl (PureOp.gtr rfl rfl) ?_
        refine SL.nil_then ?_
        refine WC.cond rfl (fun h4 => ?_) (fun h4 => ?_)
        · try simp only [Bool.and_eq_true, Bool.or_eq_true, Bool.not_eq_true', Bool.not_eq_false', Bool.and_eq_false_iff, Bool.or_eq_false_iff, decide_eq_true_eq, decide_eq_false_iff_not, Int.not_lt, Int.not_le, ne_eq, Decidable.not_not] at h4
          refine WC.seq ?_
          refine WC.region ?_
          refine SL.pure rfl rfl rfl (PureOp.assign rfl) ?_
          refine SL.pure rfl rfl rfl (PureOp.assign rfl) ?_
          refine SL.nil_then ?_
          refine WC.ret ?_
          refine QX.ret_then ?_
          refine QX.ret_in ?_
          refine QX.ret_then ?_
          refine QX.ret_then ?_
          refine QX.ret_in ?_
          refine QX.ret_then ?_
          refine QX.ret2 rfl rfl rfl ?_
          intro w hw
          have q : joinE l f t = 18 := by rw [joinE, if_neg (by omega), if_neg (by omega), if_pos ((anyP_mid (by omega) (by omega)).2 ⟨i.toNat, by omega, by omega, by omega⟩)]
          rw [joinX_bad q (by omega), q]
          exact ⟨none, 0, rfl, ownsRow_nil⟩
        · try simp only [Bool.and_eq_true, Bool.or_eq_true, Bool.not_eq_true', Bool.not_eq_false', Bool.and_eq_false_iff, Bool.or_eq_false_iff, decide_eq_true_eq, decide_eq_false_iff_not, Int.not_lt, Int.not_le, ne_eq, Decidable.not_not] at h4
          refine WC.skip ?_
          refine QX.then_ ?_
          refine WC.region ?_
          refine SL.pure rfl rfl rfl (PureOp.move rfl) ?_
          refine SL.pure rfl rfl rfl (PureOp.move rfl) ?_
          refine SL.pure rfl rfl rfl (PureOp.move rfl) ?_
          refine SL.pure rfl rfl rfl (PureOp.indexAddr Try.underlying22 sz3 rfl rfl (AoOk.own 0 rfl) (fun _ => by (first | omega | (have q := cellsOf_length encI_len (js l f.toNat (wrap64 (mx 0 l + 1)) j); rw [js_length] at q; omega)))) ?_
          refine SL.storeown (k := i.toNat) (j := 0) 0 rfl rfl rfl rfl sz3 (by (first | omega | (have q := cellsOf_length encI_len (js l f.toNat (wrap64 (mx 0 l + 1)) j); rw [js_length] at q; omega))) rfl ?_
          refine SL.nil ?_
          refine QX.normal_in ?_
          refine QX.then_ ?_
          refine WC.region ?_
          refine SL.pure rfl rfl rfl (PureOp.move rfl) ?_
          refine SL.pure rfl rfl rfl (PureOp.add rfl rfl (fun _ => by (first | omega | (have q := cellsOf_length encI_len (js l f.toNat (wrap64 (mx 0 l + 1)) j); rw [js_length] at q; omega)))) ?_
          refine SL.pure rfl rfl rfl (PureOp.assign rfl) ?_
          refine SL.nil ?_
          refine QX.round (s := (j, i)) (μ := fun s => (t + 1 - f).toNat - s.1) 1 (j + 1, i + 1) ⟨⟨by show j + 1 ≤ _; omega, by show i + 1 = f + ((j + 1 : Nat) : Int); omega, fun p p1 p2 => ?_⟩, by show (t + 1 - f).toNat - (j + 1) < (t + 1 - f).toNat - j; omega⟩ ⟨rfl, rfl, rfl, rfl, rfl, rfl, rfl, rfl, rfl, rfl, trivial⟩ ?_
          · by_cases z : (p : Int) < i
            · exact hI p p1 z
            · rw [show p = i.toNat from by have p2 : (p : Int) < i + 1 := p2; omega]; omega
          · show [Item.own _ _ _ _ _ _ _] = [Item.own _ _ _ _ _ _ _]
            rw [set_cells (by rw [js_length]; omega), js, show i.toNat = f.toNat + j from by omega]
      · try simp only [Bool.and_eq_true, Bool.or_eq_true, Bool.not_eq_true', Bool.not_eq_false', Bool.and_eq_false_iff, Bool.or_eq_false_iff, decide_eq_true_eq, decide_eq_false_iff_not, Int.not_lt, Int.not_le, ne_eq, Decidable.not_not] at h3
        refine WC.exit ?_
        refine QX.exit_then ?_
        refine QX.exit_then ?_
        refine QX.exit_hit ?_
        refine QX.then_ ?_
        refine WC.seq ?_
        refine WC.seq ?_
        refine WC.region ?_
        refine SL.pure rfl rfl rfl (PureOp.move rfl) ?_
        refine SL.pure rfl rfl rfl (PureOp.lss rfl rfl) ?_
        refine SL.nil_then ?_
        refine WC.cond rfl (fun h5 => ?_) (fun h5 => ?_)
        · try simp only [Bool.and_eq_true, Bool.or_eq_true, Bool.not_eq_true', Bool.not_eq_false', Bool.and_eq_false_iff, Bool.or_eq_false_iff, decide_eq_true_eq, decide_eq_false_iff_not, Int.not_lt, Int.not_le, ne_eq, Decidable.not_not] at h5
          refine WC.seq ?_
          refine WC.region ?_
          refine SL.pure rfl rfl rfl (PureOp.assign rfl) ?_
          refine SL.pure rfl rfl rfl (PureOp.assign rfl) ?_
          refine SL.nil_then ?_
          refine WC.ret ?_
          refine QX.ret_then ?_
          refine QX.ret2 rfl rfl rfl ?_
          intro w hw
          have hno : ¬ anyP (midL l f t) = true := by
            intro z
            obtain ⟨p, p1, p2, p3⟩ := (anyP_mid (by omega) (by omega)).1 z
            exact hI p p1 (by omega) p3
          have hmx := mx_le l 0 9223372036854775807 (by omega) hb
          have hmg := mx_ge l 0
          have hwn := wrap_next hmg hmx
          have q : joinE l f t = 2 := by
            rw [joinE, if_neg (by omega), if_neg (by omega), if_neg hno, if_pos ?_]
            rw [hwn] at h5
            split at h5 <;> omega
          rw [joinX_bad q (by omega), q]
          exact ⟨none, 0, rfl, ownsRow_nil⟩
        · try simp only [Bool.and_eq_true, Bool.or_eq_true, Bool.not_eq_true', Bool.not_eq_false', Bool.and_eq_false_iff, Bool.or_eq_false_iff, decide_eq_true_eq, decide_eq_false_iff_not, Int.not_lt, Int.not_le, ne_eq, Decidable.not_not] at h5
          refine WC.skip ?_
          refine QX.then_ ?_
          refine WC.seq ?_
          refine WC.region ?_
          refine SL.pure rfl rfl rfl (PureOp.move rfl) ?_
          refine SL.pure rfl rfl rfl (PureOp.assign rfl) ?_
          refine SL.pure rfl rfl rfl (PureOp.assign rfl) ?_
          refine SL.nil_then ?_
          refine WC.ret ?_
          refine QX.ret2 rfl rfl rfl ?_
          intro w hw
          have hno : ¬ anyP (midL l f t) = true := by
            intro z
            obtain ⟨p, p1, p2, p3⟩ := (anyP_mid (by omega) (by omega)).1 z
            exact hI p p1 (by omega) p3
          have hmx := mx_le l 0 9223372036854775807 (by omega) hb
          have hmg := mx_ge l 0
          have hwn := wrap_next hmg hmx
          have hne : mx 0 l ≠ 9223372036854775807 := by
            intro z
            rw [hwn, if_pos z] at h5
            omega
          have q : joinE l f t = 0 := by rw [joinE, if_neg (by omega), if_neg (by omega), if_neg hno, if_neg hne]
          obtain rfl : j = (t + 1 - f).toNat := by omega
          have h := hw.mem (i := 0) rfl
          rw [hwn, if_neg hne, Nat.zero_add] at h
          rw [joinX, if_pos q, q, js_length, Nat.zero_add, ← hn]
          exact ⟨_, _, rfl, h⟩

end Go.Proofs.Ytdiegelbpdknaaa
