import Derived.Test.YtdiegelbpdknaaaMaD
namespace Go.Proofs.Ytdiegelbpdknaaa
open Go Go.RowKit Eng
set_option linter.unusedVariables false
set_option linter.unusedSimpArgs false

set_option maxHeartbeats 4000000 in
set_option maxRecDepth 100000 in
theorem Groups_ok (l : List Int) (ao : Option Addr) (n cap : Nat) (hn : n = l.length) (w0 : World) (hz : SliceIn w0 1 ao n cap (rowsF encI l)) (hnb : n ≤ 1000) : FnC Try.prog 8 [.slice ao n cap] w0 fun v w' => ∃ a c rs, v = .tuple #[.slice a rs.length c, .int .i64 (checkF l)] ∧ Rc l rs ∧ FamOut w' w0.heap.size 22 3 1 a c rs := by
  refine fnc (N := 12) Try.func8 rfl rfl rfl ?_
  refine WC.seq ?_
  refine WC.region ?_
  refine SL.pure rfl rfl rfl (PureOp.assign rfl) ?_
  refine SL.pure rfl rfl rfl (PureOp.assign rfl) ?_
  refine SL.nil_then ?_
  refine WC.seq ?_
  refine WC.seq ?_
  refine WC.region ?_
  refine SL.pure rfl rfl rfl (PureOp.move rfl) ?_
  refine SL.calle rfl rfl rfl rfl rfl rfl callable10 (fun w hw => check_ok l ao n cap hn w (hz.below hw.below) hnb) ?_
  refine SL.pure rfl rfl rfl (PureOp.assign rfl) ?_
  refine SL.nil_then ?_
  refine WC.seq ?_
  refine WC.region ?_
  refine SL.pure rfl rfl rfl (PureOp.move rfl) ?_
  refine SL.pure rfl rfl rfl (PureOp.neq rfl rfl) ?_
  refine SL.nil_then ?_
  refine WC.cond rfl (fun h1 => ?_) (fun h1 => ?_)
  · try simp only [Bool.and_eq_true, Bool.or_eq_true, Bool.not_eq_true', Bool.not_eq_false', Bool.and_eq_false_iff, Bool.or_eq_false_iff, decide_eq_true_eq, decide_eq_false_iff_not, Int.not_lt, Int.not_le, ne_eq, Decidable.not_not] at h1
    refine WC.seq ?_
    refine WC.region ?_
    refine SL.pure rfl rfl rfl (PureOp.move rfl) ?_
    refine SL.pure rfl rfl rfl (PureOp.assign rfl) ?_
    refine SL.pure rfl rfl rfl (PureOp.assign rfl) ?_
    refine SL.nil_then ?_
    refine WC.ret ?_
    refine QX.ret_then ?_
    refine QX.ret2 rfl rfl rfl ?_
    intro w hw
    have q : ¬ checkF l = 0 := by omega
    exact ⟨none, 0, [], rfl, by rw [Rc, if_neg q], FamOut.nil _ _ _ _ _⟩
  · try simp only [Bool.and_eq_true, Bool.or_eq_true, Bool.not_eq_true', Bool.not_eq_false', Bool.and_eq_false_iff, Bool.or_eq_false_iff, decide_eq_true_eq, decide_eq_false_iff_not, Int.not_lt, Int.not_le, ne_eq, Decidable.not_not] at h1
    refine WC.skip ?_
    refine QX.then_ ?_
    refine WC.seq ?_
    refine WC.region ?_
    refine SL.pure rfl rfl rfl (PureOp.move rfl) ?_
    refine SL.callg (fun a c rs => .slice a rs.length c) (fun rs => Rk l l.length rs) rfl rfl rfl rfl rfl rfl callable21 (fun w hw => groups_ok l ao n cap hn w (hz.below hw.below) hnb) (fun ga gc rs hR => ?_)
    refine SL.pure rfl rfl rfl (PureOp.assign rfl) ?_
    refine SL.pure rfl rfl rfl (PureOp.assign rfl) ?_
    refine SL.nil_then ?_
    refine WC.ret ?_
    refine QX.ret2 rfl rfl rfl ?_
    intro w hw
    have q : checkF l = 0 := by omega
    rw [q]
    exact ⟨ga, gc, rs, rfl, by rw [Rc, if_pos q]; exact hR, FamOut.of hw 0 1 rfl rfl rfl rfl⟩

set_option maxHeartbeats 4000000 in
set_option maxRecDepth 100000 in
theorem rGroups_ok (l : List Int) (ao : Option Addr) (n cap : Nat) (hn : n = l.length) (w0 : World) (hz : SliceIn w0 1 ao n cap (rowsF encI l)) (hnb : n ≤ 1000) : FnC Try.prog 9 [.slice ao n cap] w0 fun v w' => ∃ a c rs, v = .tuple #[.slice a rs.length c, .int .i64 (checkF l)] ∧ Rc l rs ∧ FamOut w' w0.heap.size 22 3 1 a c rs := by
  refine fnc (N := 59) Try.func9 rfl rfl rfl ?_
  refine WC.seq ?_
  refine WC.region ?_
  refine SL.pure rfl rfl rfl (PureOp.assign rfl) ?_
  refine SL.pure rfl rfl rfl (PureOp.assign rfl) ?_
  refine SL.nil_then ?_
  refine WC.seq ?_
  refine WC.seq ?_
  refine WC.region ?_
  refine SL.pure rfl rfl rfl (PureOp.move rfl) ?_
  refine SL.calle rfl rfl rfl rfl rfl rfl callable11 (fun w hw => rcheck_ok l ao n cap hn w (hz.below hw.below) hnb) ?_
  refine SL.pure rfl rfl rfl (PureOp.assign rfl) ?_
  refine SL.nil_then ?_
  refine WC.seq ?_
  refine WC.region ?_
  refine SL.pure rfl rfl rfl (PureOp.move rfl) ?_
  refine SL.pure rfl rfl rfl (PureOp.neq rfl rfl) ?_
  refine SL.nil_then ?_
  refine WC.cond rfl (fun h1 => ?_) (fun h1 => ?_)
  · try simp only [Bool.and_eq_true, Bool.or_eq_true, Bool.not_eq_true', Bool.not_eq_false', Bool.and_eq_false_iff, Bool.or_eq_false_iff, decide_eq_true_eq, decide_eq_false_iff_not, Int.not_lt, Int.not_le, ne_eq, Decidable.not_not] at h1
    refine WC.seq ?_
    refine WC.region ?_
    refine SL.pure rfl rfl rfl (PureOp.move rfl) ?_
    refine SL.pure rfl rfl rfl (PureOp.assign rfl) ?_
    refine SL.pure rfl rfl rfl (PureOp.assign rfl) ?_
    refine SL.nil_then ?_
    refine WC.ret ?_
    refine QX.ret_then ?_
    refine QX.ret2 rfl rfl rfl ?_
    intro w hw
    have q : ¬ checkF l = 0 := by omega
    exact ⟨none, 0, [], rfl, by rw [Rc, if_neg q], FamOut.nil _ _ _ _ _⟩
  · try simp only [Bool.and_eq_true, Bool.or_eq_true, Bool.not_eq_true', Bool.not_eq_false', Bool.and_eq_false_iff, Bool.or_eq_false_iff, decide_eq_true_eq, decide_eq_false_iff_not, Int.not_lt, Int.not_le, ne_eq, Decidable.not_not] at h1
    refine WC.skip ?_
    refine QX.then_ ?_
    refine WC.seq ?_
    refine WC.region ?_
    refine SL.addnil 22 1 ?_
    refine SL.pure rfl rfl rfl (PureOp.assign rfl) ?_
    refine SL.heap (fun w hw => HeapOk.famNew hw w0.heap.size 3 1) ?_
    refine SL.nil_then ?_
    refine WC.seq ?_
    refine WC.seq ?_
    refine WC.region ?_
    refine SL.pure rfl rfl rfl (PureOp.assign rfl) ?_
    refine SL.nil_then ?_
    refine WC.block ?_
    refine WC.loop (σ := Nat × Nat × Option Addr × Nat × List FRow) (fun s => [(0, 0, .slice ao n cap), (5, 0, .slice s.2.2.1 s.2.1 s.2.2.2.1), (6, 0, .int .i64 (s.1 : Nat))]) (fun s => [.own w0.heap.size s.2.2.1 s.2.1 s.2.2.2.1 22 1 (s.2.2.2.2.map FRow.val), .fam w0.heap.size 3 1 s.2.2.2.2]) (fun s => s.1 ≤ n ∧ s.2.1 = s.2.2.2.2.length ∧ Rk l s.1 s.2.2.2.2) (fun s => n - s.1) 2 ((0, 0, none, 0, [])) (⟨Nat.zero_le _, rfl, rfl⟩) ⟨rfl, rfl, rfl, rfl, rfl, rfl, trivial⟩ rfl ?_
    rintro ⟨k, m, ga, gc, rs⟩ ⟨hk, hm, hI⟩
    dsimp only at hk hm hI ⊢
    refine WC.seq ?_
    refine WC.seq ?_
    refine WC.region ?_
    refine SL.pure rfl rfl rfl (PureOp.move rfl) ?_
    refine SL.pure rfl rfl rfl (PureOp.move rfl) ?_
    refine SL.pure rfl rfl rfl (PureOp.len rfl Try.underlying22) ?_
    refine SL.pure rfl rfl rfl (PureOp.lss rfl rfl) ?_
    refine SL.nil_then ?_
    refine WC.cond rfl (fun h2 => ?_) (fun h2 => ?_)
    · try simp only [Bool.and_eq_true, Bool.or_eq_true, Bool.not_eq_true', Bool.not_eq_false', Bool.and_eq_false_iff, Bool.or_eq_false_iff, decide_eq_true_eq, decide_eq_false_iff_not, Int.not_lt, Int.not_le, ne_eq, Decidable.not_not] at h2
      refine WC.skip ?_
      refine QX.then_ ?_
      refine WC.seq ?_
      refine WC.block ?_
      refine WC.seq ?_
      refine WC.quiet rfl (by kernel_rfl) ?_
      refine SQ.pure rfl rfl rfl (PureOp.move rfl) ?_
      refine SQ.pure rfl rfl rfl (PureOp.gtr rfl rfl) ?_
      refine SQ.pure rfl rfl rfl (PureOp.move rfl) ?_
      refine SQ.newg 20 true rfl ?_
      refine SQ.gpure (c := 1) rfl rfl rfl rfl rfl rfl rfl (PureOp.move rfl) ?_
      refine SQ.gpure (c := 1) rfl rfl rfl rfl rfl rfl rfl (PureOp.move rfl) ?_
      refine SQ.gpure (c := 1) rfl rfl rfl rfl rfl rfl rfl (PureOp.indexAddr Try.underlying22 sz3 rfl rfl (AoOk.in_ hz) (by intro hg; simp [gval] at hg; omega)) ?_
      refine SQ.gpure (c := 1) rfl rfl rfl rfl rfl rfl rfl (PureOp.load Try.underlying3 rfl rfl (by intro hg; simp [gval] at hg; exact (CellIs.in_ hz (k : Int).toNat 0 (by omega) (by omega)))) ?_
      refine SQ.gpure (c := 1) rfl rfl rfl rfl rfl rfl rfl (PureOp.gtr rfl rfl) ?_
      refine SQ.pure rfl rfl rfl (PureOp.and_ rfl rfl rfl rfl) ?_
      refine SQ.pure rfl rfl rfl (PureOp.move rfl) ?_
      refine SQ.newg 27 true rfl ?_
      refine SQ.gpure (c := 2) rfl rfl rfl rfl rfl rfl rfl (PureOp.move rfl) ?_
      refine SQ.gpure (c := 2) rfl rfl rfl rfl rfl rfl rfl (PureOp.move rfl) ?_
      refine SQ.gpure (c := 2) rfl rfl rfl rfl rfl rfl rfl (PureOp.indexAddr Try.underlying22 sz3 rfl rfl (AoOk.in_ hz) (by intro hg; simp [gval] at hg; omega)) ?_
      refine SQ.gpure (c := 2) rfl rfl rfl rfl rfl rfl rfl (PureOp.load Try.underlying3 rfl rfl (by intro hg; simp [gval] at hg; exact (CellIs.in_ hz (k : Int).toNat 0 (by omega) (by omega)))) ?_
      refine SQ.gpure (c := 2) rfl rfl rfl rfl rfl rfl rfl (PureOp.move rfl) ?_
      refine SQ.gpure (c := 2) rfl rfl rfl rfl rfl rfl rfl (PureOp.move rfl) ?_
      refine SQ.gpure (c := 2) rfl rfl rfl rfl rfl rfl rfl (PureOp.sub rfl rfl (by intro hg; simp [gval] at hg; omega)) ?_
      refine SQ.gpure (c := 2) rfl rfl rfl rfl rfl rfl rfl (PureOp.indexAddr Try.underlying22 sz3 rfl rfl (AoOk.in_ hz) (by intro hg; simp [gval] at hg; omega)) ?_
      refine SQ.gpure (c := 2) rfl rfl rfl rfl rfl rfl rfl (PureOp.load Try.underlying3 rfl rfl (by intro hg; simp [gval] at hg; exact (CellIs.in_ hz ((k : Int) - 1).toNat 0 (by omega) (by omega)))) ?_
      refine SQ.gpure (c := 2) rfl rfl rfl rfl rfl rfl rfl (PureOp.eql rfl rfl) ?_
      refine SQ.pure rfl rfl rfl (PureOp.and_ rfl rfl rfl rfl) ?_
      refine SQ.nil_then ?_
      refine WC.cond rfl (fun h3 => ?_) (fun h3 => ?_)
      · try simp only [Bool.and_eq_true, Bool.or_eq_true, Bool.not_eq_true', Bool.not_eq_false', Bool.and_eq_false_iff, Bool.or_eq_false_iff, decide_eq_true_eq, decide_eq_false_iff_not, Int.not_lt, Int.not_le, ne_eq, Decidable.not_not] at h3
        refine WC.region ?_
        refine SL.pure rfl rfl rfl (PureOp.move rfl) ?_
        refine SL.pure rfl rfl rfl (PureOp.move rfl) ?_
        refine SL.pure rfl rfl rfl (PureOp.len rfl Try.underlying24) ?_
        refine SL.pure rfl rfl rfl (PureOp.sub rfl rfl (fun _ => by (have q1 := hI.len; have q2 := gi_le l k; first | omega | (simp; omega) | (have q5 := (gi_inv l k).pos (by omega); first | omega | (simp; omega)) | (have q5 := (gi_inv l k).pos (by omega); have q3 := (hI.at_ (i := ((m : Int) - 1).toNat) (by omega)).1; have q4 := (gi_inv l k).le (i := ((m : Int) - 1).toNat) (by omega); omega)))) ?_
        refine SL.pure rfl rfl rfl (PureOp.move rfl) ?_
        refine SL.pure rfl rfl rfl (PureOp.move rfl) ?_
        refine SL.pure rfl rfl rfl (PureOp.len rfl Try.underlying24) ?_
        refine SL.pure rfl rfl rfl (PureOp.sub rfl rfl (fun _ => by (have q1 := hI.len; have q2 := gi_le l k; first | omega | (simp; omega) | (have q5 := (gi_inv l k).pos (by omega); first | omega | (simp; omega)) | (have q5 := (gi_inv l k).pos (by omega); have q3 := (hI.at_ (i := ((m : Int) - 1).toNat) (by omega)).1; have q4 := (gi_inv l k).le (i := ((m : Int) - 1).toNat) (by omega); omega)))) ?_
        refine SL.pure rfl rfl rfl (PureOp.indexAddr Try.underlying24 sz22 rfl rfl (AoOk.own 0 rfl) (fun _ => by (have q1 := hI.len; have q2 := gi_le l k; first | omega | (simp; omega) | (have q5 := (gi_inv l k).pos (by omega); first | omega | (simp; omega)) | (have q5 := (gi_inv l k).pos (by omega); have q3 := (hI.at_ (i := ((m : Int) - 1).toNat) (by omega)).1; have q4 := (gi_inv l k).le (i := ((m : Int) - 1).toNat) (by omega); omega)))) ?_
        refine SL.pure rfl rfl rfl (PureOp.load Try.underlying22 rfl rfl (fun _ => (CellIs.ownc 0 rfl ((m : Int) - 1).toNat 0 (by have q1 := hI.len; have q5 := (gi_inv l k).pos (by omega); exact vals_get (by omega))))) ?_
        refine SL.pure rfl rfl rfl (PureOp.move rfl) ?_
        refine SL.heap (fun w hw => HeapOk.famTake hw 1 (((m : Int) - 1).toNat) rfl rfl (by have q1 := hI.len; have q5 := (gi_inv l k).pos (by omega); omega)) ?_
        refine SL.buildSlice rfl rfl Try.underlying22 elem3 rfl rfl rfl rfl (fun b1 hb1 => ?_)
        refine SL.append 2 rfl rfl Try.underlying22 elem3 rfl rfl rfl rfl (SrcIs.own 3 rfl) (by rfl) (by (have q1 := hI.len; have q2 := gi_le l k; first | omega | (simp; omega) | (have q5 := (gi_inv l k).pos (by omega); first | omega | (simp; omega)) | (have q5 := (gi_inv l k).pos (by omega); have q3 := (hI.at_ (i := ((m : Int) - 1).toNat) (by omega)).1; have q4 := (gi_inv l k).le (i := ((m : Int) - 1).toNat) (by omega); omega))) (by (have q1 := hI.len; have q2 := gi_le l k; first | omega | (simp; omega) | (have q5 := (gi_inv l k).pos (by omega); first | omega | (simp; omega)) | (have q5 := (gi_inv l k).pos (by omega); have q3 := (hI.at_ (i := ((m : Int) - 1).toNat) (by omega)).1; have q4 := (gi_inv l k).le (i := ((m : Int) - 1).toNat) (by omega); omega))) (fun ao1_ cap1_ => ?_)
        refine SL.pure rfl rfl rfl (PureOp.indexAddr Try.underlying24 sz22 rfl rfl (AoOk.own 0 rfl) (fun _ => by (have q1 := hI.len; have q2 := gi_le l k; first | omega | (simp; omega) | (have q5 := (gi_inv l k).pos (by omega); first | omega | (simp; omega)) | (have q5 := (gi_inv l k).pos (by omega); have q3 := (hI.at_ (i := ((m : Int) - 1).toNat) (by omega)).1; have q4 := (gi_inv l k).le (i := ((m : Int) - 1).toNat) (by omega); omega)))) ?_
        refine SL.storeown (k := ((m : Int) - 1).toNat) (j := 0) 0 rfl rfl rfl rfl sz22 (by (have q1 := hI.len; have q2 := gi_le l k; first | omega | (simp; omega) | (have q5 := (gi_inv l k).pos (by omega); first | omega | (simp; omega)) | (have q5 := (gi_inv l k).pos (by omega); have q3 := (hI.at_ (i := ((m : Int) - 1).toNat) (by omega)).1; have q4 := (gi_inv l k).le (i := ((m : Int) - 1).toNat) (by omega); omega))) rfl ?_
        refine SL.nil ?_
        refine QX.normal_in ?_
        refine QX.then_ ?_
        refine WC.region ?_
        refine SL.pure rfl rfl rfl (PureOp.move rfl) ?_
        refine SL.pure rfl rfl rfl (PureOp.add rfl rfl (fun _ => by (have q1 := hI.len; have q2 := gi_le l k; first | omega | (simp; omega) | (have q5 := (gi_inv l k).pos (by omega); first | omega | (simp; omega)) | (have q5 := (gi_inv l k).pos (by omega); have q3 := (hI.at_ (i := ((m : Int) - 1).toNat) (by omega)).1; have q4 := (gi_inv l k).le (i := ((m : Int) - 1).toNat) (by omega); omega)))) ?_
        refine SL.pure rfl rfl rfl (PureOp.assign rfl) ?_
        refine SL.nil ?_
        refine QX.heap (fun w hw => HeapOk.famPut hw 1 2 (((m : Int) - 1).toNat) rfl rfl rfl) ?_
        have hh := h3
        rw [show ((k : Int) - 1).toNat = k - 1 from by omega] at hh
        simp only [Int.toNat_natCast] at hh
        have hj : joinB l k = true := by simp only [joinB, Bool.and_eq_true, decide_eq_true_eq]; exact ⟨⟨by omega, by omega⟩, hh.2.symm⟩
        have hq : ((m : Int) - 1).toNat = rs.length - 1 := by omega
        refine QX.round (s := (k, m, ga, gc, rs)) (μ := fun s => n - s.1) 2 (k + 1, m, ga, gc, rs.set (rs.length - 1) ⟨ao1_, (nth rs (rs.length - 1)).n + 1, cap1_, (nth rs (rs.length - 1)).xs ++ [.int .i64 (k : Int)]⟩) ⟨⟨by show k + 1 ≤ n; omega, by show m = (rs.set _ _).length; rw [List.length_set]; exact hm, hI.join hj⟩, by show n - (k + 1) < n - k; omega⟩ ⟨rfl, rfl, rfl, rfl, rfl, rfl, trivial⟩ ?_
        show [Item.own _ _ _ _ _ _ _, Item.fam _ _ _ _] = [Item.own _ _ _ _ _ _ _, Item.fam _ _ _ _]
        rw [hq, List.map_set, List.set_set]
        simp [FRow.val]
        rfl
      · try simp only [Bool.and_eq_true, Bool.or_eq_true, Bool.not_eq_true', Bool.not_eq_false', Bool.and_eq_false_iff, Bool.or_eq_false_iff, decide_eq_true_eq, decide_eq_false_iff_not, Int.not_lt, Int.not_le, ne_eq, Decidable.not_not] at h3
        refine WC.region ?_
        refine SL.pure rfl rfl rfl (PureOp.move rfl) ?_
        refine SL.pure rfl rfl rfl (PureOp.move rfl) ?_
        refine SL.buildSlice rfl rfl Try.underlying22 elem3 rfl rfl rfl rfl (fun b2 hb2 => ?_)
        refine SL.buildSlice rfl rfl Try.underlying24 elem22 rfl rfl rfl rfl (fun b3 hb3 => ?_)
        refine SL.append 0 rfl rfl Try.underlying24 elem22 rfl rfl rfl rfl (SrcIs.own 3 rfl) (by rfl) (by (have q1 := hI.len; have q2 := gi_le l k; first | omega | (simp; omega) | (have q5 := (gi_inv l k).pos (by omega); first | omega | (simp; omega)) | (have q5 := (gi_inv l k).pos (by omega); have q3 := (hI.at_ (i := ((m : Int) - 1).toNat) (by omega)).1; have q4 := (gi_inv l k).le (i := ((m : Int) - 1).toNat) (by omega); omega))) (by (have q1 := hI.len; have q2 := gi_le l k; first | omega | (simp; omega) | (have q5 := (gi_inv l k).pos (by omega); first | omega | (simp; omega)) | (have q5 := (gi_inv l k).pos (by omega); have q3 := (hI.at_ (i := ((m : Int) - 1).toNat) (by omega)).1; have q4 := (gi_inv l k).le (i := ((m : Int) - 1).toNat) (by omega); omega))) (fun ao2_ cap2_ => ?_)
        refine SL.pure rfl rfl rfl (PureOp.assign rfl) ?_
        refine SL.nil ?_
        refine QX.normal_in ?_
        refine QX.then_ ?_
        refine WC.region ?_
        refine SL.pure rfl rfl rfl (PureOp.move rfl) ?_
        refine SL.pure rfl rfl rfl (PureOp.add rfl rfl (fun _ => by (have q1 := hI.len; have q2 := gi_le l k; first | omega | (simp; omega) | (have q5 := (gi_inv l k).pos (by omega); first | omega | (simp; omega)) | (have q5 := (gi_inv l k).pos (by omega); have q3 := (hI.at_ (i := ((m : Int) - 1).toNat) (by omega)).1; have q4 := (gi_inv l k).le (i := ((m : Int) - 1).toNat) (by omega); omega)))) ?_
        refine SL.pure rfl rfl rfl (PureOp.assign rfl) ?_
        refine SL.nil ?_
        refine QX.heap (fun w hw => HeapOk.famAdd hw 1 2 rfl rfl rfl) ?_
        have hh := h3
        rw [show ((k : Int) - 1).toNat = k - 1 from by omega] at hh
        simp only [Int.toNat_natCast] at hh
        have hj : joinB l k = false := by
          simp only [joinB, Bool.and_eq_false_iff, decide_eq_false_iff_not]
          rcases hh with (q | q) | q
          · left; left; omega
          · left; right; omega
          · right; exact fun q2 => q q2.symm
        refine QX.round (s := (k, m, ga, gc, rs)) (μ := fun s => n - s.1) 2 (k + 1, m + 1, ao2_, cap2_, rs ++ [⟨some ⟨b2, 0, none⟩, 1, 1, [.int .i64 (k : Int)]⟩]) ⟨⟨by show k + 1 ≤ n; omega, by show m + 1 = (rs ++ _).length; simp [hm], hI.snoc hj⟩, by show n - (k + 1) < n - k; omega⟩ ⟨rfl, rfl, rfl, rfl, rfl, rfl, trivial⟩ ?_
        show [Item.own _ _ _ _ _ _ _, Item.fam _ _ _ _] = [Item.own _ _ _ _ _ _ _, Item.fam _ _ _ _]
        rw [List.map_append]
        rfl
    · try simp only [Bool.and_eq_true, Bool.or_eq_true, Bool.not_eq_true', Bool.not_eq_false', Bool.and_eq_false_iff, Bool.or_eq_false_iff, decide_eq_true_eq, decide_eq_false_iff_not, Int.not_lt, Int.not_le, ne_eq, Decidable.not_not] at h2
      refine WC.exit ?_
      refine QX.exit_then ?_
      refine QX.exit_then ?_
      refine QX.exit_hit ?_
      refine QX.then_ ?_
      refine WC.seq ?_
      refine WC.region ?_
      refine SL.pure rfl rfl rfl (PureOp.move rfl) ?_
      refine SL.pure rfl rfl rfl (PureOp.assign rfl) ?_
      refine SL.pure rfl rfl rfl (PureOp.assign rfl) ?_
      refine SL.nil_then ?_
      refine WC.ret ?_
      refine QX.ret2 rfl rfl rfl ?_
      intro w hw
      have q : checkF l = 0 := by omega
      obtain rfl : k = n := by omega
      subst hm
      subst hn
      rw [q]
      exact ⟨ga, gc, rs, rfl, by rw [Rc, if_pos q]; exact hI, FamOut.of hw 0 1 rfl rfl rfl rfl⟩

set_option maxHeartbeats 4000000 in
set_option maxRecDepth 100000 in
theorem clone_ok (l : List Int) (ao : Option Addr) (n cap : Nat) (hn : n = l.length) (w0 : World) (hz : SliceIn w0 1 ao n cap (rowsF encI l)) (hnb : n ≤ 1000) : FnC Try.prog 24 [.slice ao n cap] w0 fun v w' => ∃ a c, v = .slice a l.length c ∧ w'.ownsRow w0.heap.size 3 1 (.slice a l.length c) l.length (cellsOf encI l) := by
  refine fnc (N := 8) Try.func24 rfl rfl rfl ?_
  refine WC.seq ?_
  refine WC.region ?_
  refine SL.pure rfl rfl rfl (PureOp.assign rfl) ?_
  refine SL.nil_then ?_
  refine WC.seq ?_
  refine WC.seq ?_
  refine WC.region ?_
  refine SL.pure rfl rfl rfl (PureOp.move rfl) ?_
  refine SL.pure rfl rfl rfl (PureOp.eqlnil rfl rfl Try.underlying22) ?_
  refine SL.nil_then ?_
  refine WC.cond rfl (fun h1 => ?_) (fun h1 => ?_)
  · try simp only [Bool.and_eq_true, Bool.or_eq_true, Bool.not_eq_true', Bool.not_eq_false', Bool.and_eq_false_iff, Bool.or_eq_false_iff, decide_eq_true_eq, decide_eq_false_iff_not, Int.not_lt, Int.not_le, ne_eq, Decidable.not_not] at h1
    refine WC.seq ?_
    refine WC.region ?_
    refine SL.pure rfl rfl rfl (PureOp.assign rfl) ?_
    refine SL.nil_then ?_
    refine WC.ret ?_
    refine QX.ret_then ?_
    refine QX.ret1 rfl rfl ?_
    intro w hw
    obtain rfl : ao = none := by simpa using h1
    obtain rfl : n = 0 := by rcases hz.there with h | ⟨a, ha, _⟩; exact h; cases ha
    obtain rfl : l = [] := List.eq_nil_of_length_eq_zero hn.symm
    exact ⟨none, 0, rfl, ownsRow_nil⟩
  · try simp only [Bool.and_eq_true, Bool.or_eq_true, Bool.not_eq_true', Bool.not_eq_false', Bool.and_eq_false_iff, Bool.or_eq_false_iff, decide_eq_true_eq, decide_eq_false_iff_not, Int.not_lt, Int.not_le, ne_eq, Decidable.not_not] at h1
    refine WC.skip ?_
    refine QX.then_ ?_
    refine WC.seq ?_
    refine WC.region ?_
    refine SL.buildSlice0 rfl rfl Try.underlying22 elem3 (fun b1 hb1 => ?_)
    refine SL.pure rfl rfl rfl (PureOp.move rfl) ?_
    refine SL.append 0 rfl rfl Try.underlying22 elem3 rfl rfl rfl rfl (SrcIs.in_ hz encI_len hn) (by exact all_one_cells (fun x => rfl) l) (by omega) (by omega) (fun ao1_ cap1_ => ?_)
    refine SL.pure rfl rfl rfl (PureOp.assign rfl) ?_
    refine SL.nil_then ?_
    refine WC.ret ?_
    refine QX.ret1 rfl rfl ?_
    intro w hw
    have h := hw.mem (i := 0) rfl
    rw [Nat.zero_add] at h ⊢
    subst hn
    exact ⟨_, _, rfl, h⟩

set_option maxHeartbeats 4000000 in
set_option maxRecDepth 100000 in
theorem same_ok (l : List Int) (a1 a2 : Option Addr) (n1 n2 c1 c2 : Nat) (hn1 : n1 = l.length) (hn2 : n2 = l.length) (w0 : World) (hz1 : SliceIn w0 1 a1 n1 c1 (rowsF encI l)) (hz2 : SliceIn w0 1 a2 n2 c2 (rowsF encI l)) (hnb : n1 ≤ 1000) : FnC Try.prog 12 [.slice a1 n1 c1, .slice a2 n2 c2] w0 fun v w' => v = .bool true := by
  refine fnc (N := 26) Try.func12 rfl rfl rfl ?_
  refine WC.seq ?_
  refine WC.region ?_
  refine SL.pure rfl rfl rfl (PureOp.assign rfl) ?_
  refine SL.nil_then ?_
  refine WC.seq ?_
  refine WC.seq ?_
  refine WC.region ?_
  refine SL.pure rfl rfl rfl (PureOp.move rfl) ?_
  refine SL.pure rfl rfl rfl (PureOp.len rfl Try.underlying22) ?_
  refine SL.pure rfl rfl rfl (PureOp.move rfl) ?_
  refine SL.pure rfl rfl rfl (PureOp.len rfl Try.underlying22) ?_
  refine SL.pure rfl rfl rfl (PureOp.neq rfl rfl) ?_
  refine SL.nil_then ?_
  refine WC.cond rfl (fun h1 => ?_) (fun h1 => ?_)
  · try simp only [Bool.and_eq_true, Bool.or_eq_true, Bool.not_eq_true', Bool.not_eq_false', Bool.and_eq_false_iff, Bool.or_eq_false_iff, decide_eq_true_eq, decide_eq_false_iff_not, Int.not_lt, Int.not_le, ne_eq, Decidable.not_not] at h1
    exact absurd h1 (by omega)
  · try simp only [Bool.and_eq_true, Bool.or_eq_true, Bool.not_eq_true', Bool.not_eq_false', Bool.and_eq_false_iff, Bool.or_eq_false_iff, decide_eq_true_eq, decide_eq_false_iff_not, Int.not_lt, Int.not_le, ne_eq, Decidable.not_not] at h1
    refine WC.skip ?_
    refine QX.then_ ?_
    refine WC.seq ?_
    refine WC.seq ?_
    refine WC.region ?_
    refine SL.pure rfl rfl rfl (PureOp.assign rfl) ?_
    refine SL.nil_then ?_
    refine WC.block ?_
    refine WC.loop (σ := Nat) (fun s => [(0, 0, .slice a1 n1 c1), (1, 0, .slice a2 n2 c2), (5, 0, .int .i64 (s : Nat))]) (fun _ => []) (fun s => s ≤ n1) (fun s => n1 - s) 0 (0) (Nat.zero_le _) ⟨rfl, rfl, rfl, rfl, rfl, rfl, trivial⟩ rfl ?_
    rintro k hk
    refine WC.seq ?_
    refine WC.seq ?_
    refine WC.region ?_
    refine SL.pure rfl rfl rfl (PureOp.move rfl) ?_
    refine SL.pure rfl rfl rfl (PureOp.move rfl) ?_
    refine SL.pure rfl rfl rfl (PureOp.len rfl Try.underlying22) ?_
    refine SL.pure rfl rfl rfl (PureOp.lss rfl rfl) ?_
    refine SL.nil_then ?_
    refine WC.cond rfl (fun h2 => ?_) (fun h2 => ?_)
    · try simp only [Bool.and_eq_true, Bool.or_eq_true, Bool.not_eq_true', Bool.not_eq_false', Bool.and_eq_false_iff, Bool.or_eq_false_iff, decide_eq_true_eq, decide_eq_false_iff_not, Int.not_lt, Int.not_le, ne_eq, Decidable.not_not] at h2
      refine WC.skip ?_
      refine QX.then_ ?_
      refine WC.seq ?_
      refine WC.block ?_
      refine WC.seq ?_
      refine WC.quiet rfl (by kernel_rfl) ?_
      refine SQ.pure rfl rfl rfl (PureOp.move rfl) ?_
      refine SQ.pure rfl rfl rfl (PureOp.move rfl) ?_
      refine SQ.pure rfl rfl rfl (PureOp.indexAddrN Try.underlying22 sz3 rfl rfl (AoOk.in_ hz1) (fun _ => by omega)) ?_
      refine SQ.pure rfl rfl rfl (PureOp.load Try.underlying3 rfl rfl (fun _ => (CellIs.in_ hz1 _ 0 (by omega) (by omega)))) ?_
      refine SQ.pure rfl rfl rfl (PureOp.move rfl) ?_
      refine SQ.pure rfl rfl rfl (PureOp.move rfl) ?_
      refine SQ.pure rfl rfl rfl (PureOp.indexAddrN Try.underlying22 sz3 rfl rfl (AoOk.in_ hz2) (fun _ => by omega)) ?_
      refine SQ.pure rfl rfl rfl (PureOp.load Try.underlying3 rfl rfl (fun _ => (CellIs.in_ hz2 _ 0 (by omega) (by omega)))) ?_
      refine SQ.pure rfl rfl rfl (PureOp.neq rfl rfl) ?_
      refine SQ.nil_then ?_
      refine WC.cond rfl (fun h3 => ?_) (fun h3 => ?_)
      · try simp only [Bool.and_eq_true, Bool.or_eq_true, Bool.not_eq_true', Bool.not_eq_false', Bool.and_eq_false_iff, Bool.or_eq_false_iff, decide_eq_true_eq, decide_eq_false_iff_not, Int.not_lt, Int.not_le, ne_eq, Decidable.not_not] at h3
        exact absurd h3 (by simp)
      · try simp only [Bool.and_eq_true, Bool.or_eq_true, Bool.not_eq_true', Bool.not_eq_false', Bool.and_eq_false_iff, Bool.or_eq_false_iff, decide_eq_true_eq, decide_eq_false_iff_not, Int.not_lt, Int.not_le, ne_eq, Decidable.not_not] at h3
        refine WC.skip ?_
        refine QX.normal_in ?_
        refine QX.then_ ?_
        refine WC.region ?_
        refine SL.pure rfl rfl rfl (PureOp.move rfl) ?_
        refine SL.pure rfl rfl rfl (PureOp.add rfl rfl (fun _ => by omega)) ?_
        refine SL.pure rfl rfl rfl (PureOp.assign rfl) ?_
        refine SL.nil ?_
        refine QX.round 0 (k + 1) ⟨by omega, by omega⟩ ⟨rfl, rfl, rfl, rfl, rfl, rfl, trivial⟩ rfl
    · try simp only [Bool.and_eq_true, Bool.or_eq_true, Bool.not_eq_true', Bool.not_eq_false', Bool.and_eq_false_iff, Bool.or_eq_false_iff, decide_eq_true_eq, decide_eq_false_iff_not, Int.not_lt, Int.not_le, ne_eq, Decidable.not_not] at h2
      refine WC.exit ?_
      refine QX.exit_then ?_
      refine QX.exit_then ?_
      refine QX.exit_hit ?_
      refine QX.then_ ?_
      refine WC.seq ?_
      refine WC.region ?_
      refine SL.pure rfl rfl rfl (PureOp.assign rfl) ?_
      refine SL.nil_then ?_
      refine WC.ret ?_
      refine QX.ret1 rfl rfl ?_
      intro w hw
      rfl

end Go.Proofs.Ytdiegelbpdknaaa
