import Derived.Test.YtdiegelbpdknaaaMaH
namespace Go.Proofs.Ytdiegelbpdknaaa
open Go Go.RowKit Eng
set_option linter.unusedVariables false
set_option linter.unusedSimpArgs false

set_option maxHeartbeats 4000000 in
set_option maxRecDepth 100000 in
theorem rnormal_ok (l : List Int) (ao : Option Addr) (n cap : Nat) (hn : n = l.length) (w0 : World) (hz : SliceIn w0 1 ao n cap (rowsF encI l)) (hnb : n ≤ 1000) : FnC Try.prog 18 [.slice ao n cap] w0 fun v w' => ∃ a c, v = .tuple #[.slice a (normX l).length c, .int .i64 (checkF l)] ∧ w'.ownsRow w0.heap.size 3 1 (.slice a (normX l).length c) (normX l).length (cellsOf encI (normX l)) := by
  refine fnc (N := 55) Try.func18 rfl rfl rfl ?_
  refine WC.seq ?_
  refine WC.region ?_
  refine SL.pure rfl rfl rfl (PureOp.assign rfl) ?_
  refine SL.pure rfl rfl rfl (PureOp.assign rfl) ?_
  refine SL.nil_then ?_
  refine WC.seq ?_
  refine WC.region ?_
  refine SL.pure rfl rfl rfl (PureOp.move rfl) ?_
  refine SL.callg (fun a c rs => .tuple #[.slice a rs.length c, .int .i64 (checkF l)]) (fun rs => Rc l rs) rfl rfl rfl rfl rfl rfl callable9 (fun w hw => rGroups_ok l ao n cap hn w (hz.below hw.below) hnb) (fun ga gc rs hRc => ?_)
  refine SL.pure rfl rfl rfl (PureOp.move rfl) ?_
  refine SL.pure rfl rfl rfl (PureOp.extract rfl rfl) ?_
  refine SL.pure rfl rfl rfl (PureOp.extract rfl rfl) ?_
  refine SL.pure rfl rfl rfl (PureOp.assign rfl) ?_
  refine SL.pure rfl rfl rfl (PureOp.assign rfl) ?_
  refine SL.nil_then ?_
  refine WC.seq ?_
  refine WC.seq ?_
  refine WC.region ?_
  refine SL.pure rfl rfl rfl (PureOp.move rfl) ?_
  refine SL.pure rfl rfl rfl (PureOp.neq rfl rfl) ?_
  refine SL.nil_then ?_
  refine WC.cond rfl (fun h1 => ?_) (fun h1 => ?_)
  · try simp only [Bool.and_eq_true, Bool.or_eq_true, Bool.not_eq_true', Bool.not_eq_false', Bool.and_eq_false_iff, Bool.or_eq_false_iff, decide_eq_true_eq, decide_eq_false_iff_not, Int.not_lt, Int.not_le, ne_eq, Decidable.not_not] at h1
    refine WC.seq ?_
    refine WC.region ?_
    refine SL.pure rfl rfl rfl (PureOp.move rfl) ?_
    refine SL.pure rfl rfl rfl (PureOp.assign rfl) ?_
    refine SL.pure rfl rfl rfl (PureOp.assign rfl) ?_
    refine SL.nil_then ?_
    refine WC.ret ?_
    refine QX.ret_then ?_
    refine QX.ret2 rfl rfl rfl ?_
    intro w hw
    have q : ¬ checkF l = 0 := by omega
    have q2 : normX l = [] := by rw [normX, if_neg q]
    rw [q2]
    exact ⟨none, 0, rfl, ownsRow_nil⟩
  · try simp only [Bool.and_eq_true, Bool.or_eq_true, Bool.not_eq_true', Bool.not_eq_false', Bool.and_eq_false_iff, Bool.or_eq_false_iff, decide_eq_true_eq, decide_eq_false_iff_not, Int.not_lt, Int.not_le, ne_eq, Decidable.not_not] at h1
    have hc0 : checkF l = 0 := by omega
    have hR : Rk l l.length rs := by rw [Rc, if_pos hc0] at hRc; exact hRc
    have hRl := hR.len
    have hgl := gi_le l l.length
    refine WC.skip ?_
    refine QX.then_ ?_
    refine WC.seq ?_
    refine WC.region ?_
    refine SL.addnil 3 1 ?_
    refine SL.pure rfl rfl rfl (PureOp.assign rfl) ?_
    refine SL.nil_then ?_
    refine WC.seq ?_
    refine WC.region ?_
    refine SL.pure rfl rfl rfl (PureOp.assign rfl) ?_
    refine SL.nil_then ?_
    refine WC.seq ?_
    refine WC.seq ?_
    refine WC.region ?_
    refine SL.pure rfl rfl rfl (PureOp.assign rfl) ?_
    refine SL.nil_then ?_
    refine WC.block ?_
    refine WC.loop (σ := Nat × Nat × Nat × Option Addr × Nat) (fun s => [(4, 0, .slice ga rs.length gc), (6, 0, .slice s.2.2.2.1 s.2.2.1 s.2.2.2.2), (7, 0, .int .i64 (s.2.1 : Nat)), (8, 0, .int .i64 (s.1 : Nat))]) (fun s => [.own w0.heap.size ga rs.length gc 22 1 (rs.map FRow.val), .fam w0.heap.size 3 1 rs, .own w0.heap.size s.2.2.2.1 s.2.2.1 s.2.2.2.2 3 1 (cellsOf encI (xk l s.1))]) (fun s => s.1 ≤ rs.length ∧ s.2.1 = cn l s.1 ∧ s.2.2.1 = (xk l s.1).length) (fun s => rs.length - s.1) 3 ((0, 0, 0, none, 0)) (⟨Nat.zero_le _, rfl, rfl⟩) ⟨rfl, rfl, rfl, rfl, rfl, rfl, rfl, rfl, trivial⟩ rfl ?_
    rintro ⟨k, c, m, a, cap1⟩ ⟨hk, hcc, hm⟩
    dsimp only at hk hcc hm ⊢
    refine WC.seq ?_
    refine WC.seq ?_
    refine WC.region ?_
    refine SL.pure rfl rfl rfl (PureOp.move rfl) ?_
    refine SL.pure rfl rfl rfl (PureOp.move rfl) ?_
    refine SL.pure rfl rfl rfl (PureOp.len rfl Try.underlying24) ?_
    refine SL.pure rfl rfl rfl (PureOp.lss rfl rfl) ?_
    refine SL.nil_then ?_
    refine WC.cond rfl (fun h2 => ?_) (fun h2 => ?_)
    · try simp only [Bool.and_eq_true, Bool.or_eq_true, Bool.not_eq_true', Bool.not_eq_false', Bool.and_eq_false_iff, Bool.or_eq_false_iff, decide_eq_true_eq, decide_eq_false_iff_not, Int.not_lt, Int.not_le, ne_eq, Decidable.not_not] at h2
      have hkl : k < rs.length := by omega
      have hgl := gi_le l l.length
      have hRl := hR.len
      obtain ⟨hn1, hx1⟩ := hR.at_ hkl
      have hkg : k < (gi l l.length).length := by rw [← hR.len]; exact hkl
      have hle := (gi_inv l l.length).le hkg
      have hm1 := (gi_inv l l.length).m1 k hkg
      have hnn := (check_ok_nonneg hc0).1 (nth (gi l l.length) k).1 (by omega)
      have hxk := xk_len l k hkg
      have hcn := cn_le l k
      refine WC.skip ?_
      refine QX.then_ ?_
      refine WC.seq ?_
      refine WC.block ?_
      refine WC.seq ?_
      refine WC.seq ?_
      refine WC.region ?_
      refine SL.pure rfl rfl rfl (PureOp.move rfl) ?_
      refine SL.pure rfl rfl rfl (PureOp.move rfl) ?_
      refine SL.pure rfl rfl rfl (PureOp.indexAddrN Try.underlying24 sz22 rfl rfl (AoOk.own 0 rfl) (fun _ => by omega)) ?_
      refine SL.pure rfl rfl rfl (PureOp.load Try.underlying22 rfl rfl (fun _ => (CellIs.ownc 0 rfl k 0 (by exact vals_get hkl)))) ?_
      refine SL.pure rfl rfl rfl (PureOp.len rfl Try.underlying22) ?_
      refine SL.pure rfl rfl rfl (PureOp.gtr rfl rfl) ?_
      refine SL.nil_then ?_
      refine WC.cond rfl (fun h3 => ?_) (fun h3 => ?_)
      · try simp only [Bool.and_eq_true, Bool.or_eq_true, Bool.not_eq_true', Bool.not_eq_false', Bool.and_eq_false_iff, Bool.or_eq_false_iff, decide_eq_true_eq, decide_eq_false_iff_not, Int.not_lt, Int.not_le, ne_eq, Decidable.not_not] at h3
        refine WC.region ?_
        refine SL.pure rfl rfl rfl (PureOp.move rfl) ?_
        refine SL.pure rfl rfl rfl (PureOp.add rfl rfl (fun _ => by omega)) ?_
        refine SL.pure rfl rfl rfl (PureOp.assign rfl) ?_
        refine SL.nil_then ?_
        refine WC.seq ?_
        refine WC.region ?_
        refine SL.pure rfl rfl rfl (PureOp.assign rfl) ?_
        refine SL.nil_then ?_
        refine WC.block ?_
        refine WC.loop (σ := Nat × Nat × Option Addr × Nat) (fun s => [(4, 0, .slice ga rs.length gc), (6, 0, .slice s.2.2.1 s.2.1 s.2.2.2), (7, 0, .int .i64 (c + 1 : Nat)), (8, 0, .int .i64 (k : Nat)), (9, 0, .int .i64 (s.1 : Nat))]) (fun s => [.own w0.heap.size ga rs.length gc 22 1 (rs.map FRow.val), .fam w0.heap.size 3 1 rs, .own w0.heap.size s.2.2.1 s.2.1 s.2.2.2 3 1 (cellsOf encI (xk l k ++ List.replicate s.1 ((c + 1 : Nat) : Int)))]) (fun s => s.1 ≤ (nth rs k).n ∧ s.2.1 = (xk l k).length + s.1) (fun s => (nth rs k).n - s.1) 3 ((0, m, a, cap1)) (⟨Nat.zero_le _, hm⟩) ⟨rfl, rfl, rfl, rfl, rfl, rfl, rfl, rfl, rfl, rfl, trivial⟩ (by simp) ?_
        rintro ⟨j, m2, a2, cap2⟩ ⟨hj, hm2⟩
        dsimp only at hj hm2 ⊢
        refine WC.seq ?_
        refine WC.seq ?_
        refine WC.region ?_
        refine SL.pure rfl rfl rfl (PureOp.move rfl) ?_
        refine SL.pure rfl rfl rfl (PureOp.move rfl) ?_
        refine SL.pure rfl rfl rfl (PureOp.move rfl) ?_
        refine SL.pure rfl rfl rfl (PureOp.indexAddrN Try.underlying24 sz22 rfl rfl (AoOk.own 0 rfl) (fun _ => by omega)) ?_
        refine SL.pure rfl rfl rfl (PureOp.load Try.underlying22 rfl rfl (fun _ => (CellIs.ownc 0 rfl k 0 (by exact vals_get hkl)))) ?_
        refine SL.pure rfl rfl rfl (PureOp.len rfl Try.underlying22) ?_
        refine SL.pure rfl rfl rfl (PureOp.lss rfl rfl) ?_
        refine SL.nil_then ?_
        refine WC.cond rfl (fun h4 => ?_) (fun h4 => ?_)
        · try simp only [Bool.and_eq_true, Bool.or_eq_true, Bool.not_eq_true', Bool.not_eq_false', Bool.and_eq_false_iff, Bool.or_eq_false_iff, decide_eq_true_eq, decide_eq_false_iff_not, Int.not_lt, Int.not_le, ne_eq, Decidable.not_not] at h4
          refine WC.skip ?_
          refine QX.then_ ?_
          refine WC.seq ?_
          refine WC.block ?_
          refine WC.seq ?_
          refine WC.region ?_
          refine SL.pure rfl rfl rfl (PureOp.move rfl) ?_
          refine SL.pure rfl rfl rfl (PureOp.move rfl) ?_
          refine SL.pure rfl rfl rfl (PureOp.indexAddrN Try.underlying24 sz22 rfl rfl (AoOk.own 0 rfl) (fun _ => by omega)) ?_
          refine SL.pure rfl rfl rfl (PureOp.load Try.underlying22 rfl rfl (fun _ => (CellIs.ownc 0 rfl k 0 (by exact vals_get hkl)))) ?_
          refine SL.pure rfl rfl rfl (PureOp.len rfl Try.underlying22) ?_
          refine SL.pure rfl rfl rfl (PureOp.gtr rfl rfl) ?_
          refine SL.nil_then ?_
          refine WC.cond rfl (fun h5 => ?_) (fun h5 => ?_)
          · try simp only [Bool.and_eq_true, Bool.or_eq_true, Bool.not_eq_true', Bool.not_eq_false', Bool.and_eq_false_iff, Bool.or_eq_false_iff, decide_eq_true_eq, decide_eq_false_iff_not, Int.not_lt, Int.not_le, ne_eq, Decidable.not_not] at h5
            refine WC.region ?_
            refine SL.pure rfl rfl rfl (PureOp.move rfl) ?_
            refine SL.pure rfl rfl rfl (PureOp.move rfl) ?_
            refine SL.buildSlice rfl rfl Try.underlying22 elem3 rfl rfl rfl rfl (fun b1 hb1 => ?_)
            refine SL.append 2 rfl rfl Try.underlying22 elem3 rfl rfl rfl rfl (SrcIs.own 3 rfl) (by rfl) (by omega) (by omega) (fun ao1_ cap1_ => ?_)
            refine SL.pure rfl rfl rfl (PureOp.assign rfl) ?_
            refine SL.nil ?_
            refine QX.normal_in ?_
            refine QX.then_ ?_
            refine WC.region ?_
            refine SL.pure rfl rfl rfl (PureOp.move rfl) ?_
            refine SL.pure rfl rfl rfl (PureOp.add rfl rfl (fun _ => by omega)) ?_
            refine SL.pure rfl rfl rfl (PureOp.assign rfl) ?_
            refine SL.nil ?_
            refine QX.round (s := (j, m2, a2, cap2)) (μ := fun s => (nth rs k).n - s.1) 3 (j + 1, m2 + 1, ao1_, cap1_) ⟨⟨by show j + 1 ≤ _; omega, by show m2 + 1 = _ + (j + 1); omega⟩, by show (nth rs k).n - (j + 1) < (nth rs k).n - j; omega⟩ ⟨rfl, rfl, rfl, rfl, rfl, rfl, rfl, rfl, rfl, rfl, trivial⟩ ?_
            show [Item.own _ _ _ _ _ _ _, Item.fam _ _ _ _, Item.own _ _ _ _ _ _ _] = [Item.own _ _ _ _ _ _ _, Item.fam _ _ _ _, Item.own _ _ _ _ _ _ _]
            rw [List.replicate_succ', ← List.append_assoc, cellsOf_append _ _ [_], cellsOf_one]
            rfl
          · try simp only [Bool.and_eq_true, Bool.or_eq_true, Bool.not_eq_true', Bool.not_eq_false', Bool.and_eq_false_iff, Bool.or_eq_false_iff, decide_eq_true_eq, decide_eq_false_iff_not, Int.not_lt, Int.not_le, ne_eq, Decidable.not_not] at h5
            exact absurd h5 (by omega)
        · try simp only [Bool.and_eq_true, Bool.or_eq_true, Bool.not_eq_true', Bool.not_eq_false', Bool.and_eq_false_iff, Bool.or_eq_false_iff, decide_eq_true_eq, decide_eq_false_iff_not, Int.not_lt, Int.not_le, ne_eq, Decidable.not_not] at h4
          refine WC.exit ?_
          refine QX.exit_then ?_
          refine QX.exit_then ?_
          refine QX.exit_hit ?_
          refine QX.normal_in ?_
          refine QX.then_ ?_
          refine WC.region ?_
          refine SL.pure rfl rfl rfl (PureOp.move rfl) ?_
          refine SL.pure rfl rfl rfl (PureOp.add rfl rfl (fun _ => by omega)) ?_
          refine SL.pure rfl rfl rfl (PureOp.assign rfl) ?_
          refine SL.nil ?_
          have hp : 0 < nth l (nth (gi l l.length) k).1 := (pos_iff hc0 hkg).2 (by omega)
          obtain rfl : j = (nth (gi l l.length) k).2 := by omega
          refine QX.round (s := (k, c, m, a, cap1)) (μ := fun s => rs.length - s.1) 3 (k + 1, c + 1, m2, a2, cap2) ⟨⟨by show k + 1 ≤ _; omega, by show c + 1 = cn l (k + 1); rw [cn, if_pos hp, hcc], by show m2 = (xk l (k + 1)).length; rw [xk, List.length_append, List.length_replicate]; omega⟩, by show rs.length - (k + 1) < rs.length - k; omega⟩ ⟨rfl, rfl, rfl, rfl, rfl, rfl, rfl, rfl, trivial⟩ ?_
          show [Item.own _ _ _ _ _ _ _, Item.fam _ _ _ _, Item.own _ _ _ _ _ _ _] = [Item.own _ _ _ _ _ _ _, Item.fam _ _ _ _, Item.own _ _ _ _ _ _ _]
          rw [xk, if_pos hp, ← hcc]
      · try simp only [Bool.and_eq_true, Bool.or_eq_true, Bool.not_eq_true', Bool.not_eq_false', Bool.and_eq_false_iff, Bool.or_eq_false_iff, decide_eq_true_eq, decide_eq_false_iff_not, Int.not_lt, Int.not_le, ne_eq, Decidable.not_not] at h3
        refine WC.skip ?_
        refine QX.then_ ?_
        refine WC.seq ?_
        refine WC.region ?_
        refine SL.pure rfl rfl rfl (PureOp.assign rfl) ?_
        refine SL.nil_then ?_
        refine WC.block ?_
        refine WC.loop (σ := Nat × Nat × Option Addr × Nat) (fun s => [(4, 0, .slice ga rs.length gc), (6, 0, .slice s.2.2.1 s.2.1 s.2.2.2), (7, 0, .int .i64 (c : Nat)), (8, 0, .int .i64 (k : Nat)), (9, 0, .int .i64 (s.1 : Nat))]) (fun s => [.own w0.heap.size ga rs.length gc 22 1 (rs.map FRow.val), .fam w0.heap.size 3 1 rs, .own w0.heap.size s.2.2.1 s.2.1 s.2.2.2 3 1 (cellsOf encI (xk l k ++ List.replicate s.1 (0 : Int)))]) (fun s => s.1 ≤ (nth rs k).n ∧ s.2.1 = (xk l k).length + s.1) (fun s => (nth rs k).n - s.1) 3 ((0, m, a, cap1)) (⟨Nat.zero_le _, hm⟩) ⟨rfl, rfl, rfl, rfl, rfl, rfl, rfl, rfl, rfl, rfl, trivial⟩ (by simp) ?_
        rintro ⟨j, m2, a2, cap2⟩ ⟨hj, hm2⟩
        dsimp only at hj hm2 ⊢
        refine WC.seq ?_
        refine WC.seq ?_
        refine WC.region ?_
        refine SL.pure rfl rfl rfl (PureOp.move rfl) ?_
        refine SL.pure rfl rfl rfl (PureOp.move rfl) ?_
        refine SL.pure rfl rfl rfl (PureOp.move rfl) ?_
        refine SL.pure rfl rfl rfl (PureOp.indexAddrN Try.underlying24 sz22 rfl rfl (AoOk.own 0 rfl) (fun _ => by omega)) ?_
        refine SL.pure rfl rfl rfl (PureOp.load Try.underlying22 rfl rfl (fun _ => (CellIs.ownc 0 rfl k 0 (by exact vals_get hkl)))) ?_
        refine SL.pure rfl rfl rfl (PureOp.len rfl Try.underlying22) ?_
        refine SL.pure rfl rfl rfl (PureOp.lss rfl rfl) ?_
        refine SL.nil_then ?_
        refine WC.cond rfl (fun h6 => ?_) (fun h6 => ?_)
        · try simp only [Bool.and_eq_true, Bool.or_eq_true, Bool.not_eq_true', Bool.not_eq_false', Bool.and_eq_false_iff, Bool.or_eq_false_iff, decide_eq_true_eq, decide_eq_false_iff_not, Int.not_lt, Int.not_le, ne_eq, Decidable.not_not] at h6
          refine WC.skip ?_
          refine QX.then_ ?_
          refine WC.seq ?_
          refine WC.block ?_
          refine WC.seq ?_
          refine WC.region ?_
          refine SL.pure rfl rfl rfl (PureOp.move rfl) ?_
          refine SL.pure rfl rfl rfl (PureOp.move rfl) ?_
          refine SL.pure rfl rfl rfl (PureOp.indexAddrN Try.underlying24 sz22 rfl rfl (AoOk.own 0 rfl) (fun _ => by omega)) ?_
          refine SL.pure rfl rfl rfl (PureOp.load Try.underlying22 rfl rfl (fun _ => (CellIs.ownc 0 rfl k 0 (by exact vals_get hkl)))) ?_
          refine SL.pure rfl rfl rfl (PureOp.len rfl Try.underlying22) ?_
          refine SL.pure rfl rfl rfl (PureOp.gtr rfl rfl) ?_
          refine SL.nil_then ?_
          refine WC.cond rfl (fun h7 => ?_) (fun h7 => ?_)
          · try simp only [Bool.and_eq_true, Bool.or_eq_true, Bool.not_eq_true', Bool.not_eq_false', Bool.and_eq_false_iff, Bool.or_eq_false_iff, decide_eq_true_eq, decide_eq_false_iff_not, Int.not_lt, Int.not_le, ne_eq, Decidable.not_not] at h7
            exact absurd h7 (by omega)
          · try simp only [Bool.and_eq_true, Bool.or_eq_true, Bool.not_eq_true', Bool.not_eq_false', Bool.and_eq_false_iff, Bool.or_eq_false_iff, decide_eq_true_eq, decide_eq_false_iff_not, Int.not_lt, Int.not_le, ne_eq, Decidable.not_not] at h7
            refine WC.region ?_
            refine SL.pure rfl rfl rfl (PureOp.move rfl) ?_
            refine SL.buildSlice rfl rfl Try.underlying22 elem3 rfl rfl rfl rfl (fun b2 hb2 => ?_)
            refine SL.append 2 rfl rfl Try.underlying22 elem3 rfl rfl rfl rfl (SrcIs.own 3 rfl) (by rfl) (by omega) (by omega) (fun ao2_ cap2_ => ?_)
            refine SL.pure rfl rfl rfl (PureOp.assign rfl) ?_
            refine SL.nil ?_
            refine QX.normal_in ?_
            refine QX.then_ ?_
            refine WC.region ?_
            refine SL.pure rfl rfl rfl (PureOp.move rfl) ?_
            refine SL.pure rfl rfl rfl (PureOp.add rfl rfl (fun _ => by omega)) ?_
            refine SL.pure rfl rfl rfl (PureOp.assign rfl) ?_
            refine SL.nil ?_
            refine QX.round (s := (j, m2, a2, cap2)) (μ := fun s => (nth rs k).n - s.1) 3 (j + 1, m2 + 1, ao2_, cap2_) ⟨⟨by show j + 1 ≤ _; omega, by show m2 + 1 = _ + (j + 1); omega⟩, by show (nth rs k).n - (j + 1) < (nth rs k).n - j; omega⟩ ⟨rfl, rfl, rfl, rfl, rfl, rfl, rfl, rfl, rfl, rfl, trivial⟩ ?_
            show [Item.own _ _ _ _ _ _ _, Item.fam _ _ _ _, Item.own _ _ _ _ _ _ _] = [Item.own _ _ _ _ _ _ _, Item.fam _ _ _ _, Item.own _ _ _ _ _ _ _]
            rw [List.replicate_succ', ← List.append_assoc, cellsOf_append _ _ [_], cellsOf_one]
            rfl
        · try simp only [Bool.and_eq_true, Bool.or_eq_true, Bool.not_eq_true', Bool.not_eq_false', Bool.and_eq_false_iff, Bool.or_eq_false_iff, decide_eq_true_eq, decide_eq_false_iff_not, Int.not_lt, Int.not_le, ne_eq, Decidable.not_not] at h6
          refine WC.exit ?_
          refine QX.exit_then ?_
          refine QX.exit_then ?_
          refine QX.exit_hit ?_
          refine QX.normal_in ?_
          refine QX.then_ ?_
          refine WC.region ?_
          refine SL.pure rfl rfl rfl (PureOp.move rfl) ?_
          refine SL.pure rfl rfl rfl (PureOp.add rfl rfl (fun _ => by omega)) ?_
          refine SL.pure rfl rfl rfl (PureOp.assign rfl) ?_
          refine SL.nil ?_
          have hp : ¬ 0 < nth l (nth (gi l l.length) k).1 := fun q => by have := (pos_iff hc0 hkg).1 q; omega
          obtain rfl : j = (nth (gi l l.length) k).2 := by omega
          refine QX.round (s := (k, c, m, a, cap1)) (μ := fun s => rs.length - s.1) 3 (k + 1, c, m2, a2, cap2) ⟨⟨by show k + 1 ≤ _; omega, by show c = cn l (k + 1); rw [cn, if_neg hp, hcc], by show m2 = (xk l (k + 1)).length; rw [xk, List.length_append, List.length_replicate]; omega⟩, by show rs.length - (k + 1) < rs.length - k; omega⟩ ⟨rfl, rfl, rfl, rfl, rfl, rfl, rfl, rfl, trivial⟩ ?_
          show [Item.own _ _ _ _ _ _ _, Item.fam _ _ _ _, Item.own _ _ _ _ _ _ _] = [Item.own _ _ _ _ _ _ _, Item.fam _ _ _ _, Item.own _ _ _ _ _ _ _]
          rw [xk, if_neg hp]
    · try simp only [Bool.and_eq_true, Bool.or_eq_true, Bool.not_eq_true', Bool.not_eq_false', Bool.and_eq_false_iff, Bool.or_eq_false_iff, decide_eq_true_eq, decide_eq_false_iff_not, Int.not_lt, Int.not_le, ne_eq, Decidable.not_not] at h2
      refine WC.exit ?_
      refine QX.exit_then ?_
      refine QX.exit_then ?_
      refine QX.exit_hit ?_
      refine QX.then_ ?_
      refine WC.seq ?_
      refine WC.region ?_
      refine SL.pure rfl rfl rfl (PureOp.move rfl) ?_
      refine SL.pure rfl rfl rfl (PureOp.assign rfl) ?_
      refine SL.pure rfl rfl rfl (PureOp.assign rfl) ?_
      refine SL.nil_then ?_
      refine WC.ret ?_
      refine QX.ret2 rfl rfl rfl ?_
      intro w hw
      obtain rfl : k = rs.length := by omega
      have q2 : normX l = xk l rs.length := by rw [normX, if_pos hc0, hRl]
      have h := hw.mem (i := 2) rfl
      rw [q2, hc0, ← hm]
      exact ⟨_, _, rfl, h⟩

end Go.Proofs.Ytdiegelbpdknaaa
