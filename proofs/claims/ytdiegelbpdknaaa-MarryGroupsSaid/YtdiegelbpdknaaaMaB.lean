import Derived.Test.YtdiegelbpdknaaaMaA
namespace Go.Proofs.Ytdiegelbpdknaaa
open Go Go.RowKit Eng
set_option linter.unusedVariables false
set_option linter.unusedSimpArgs false

set_option maxHeartbeats 4000000 in
set_option maxRecDepth 100000 in
theorem groups_ok (l : List Int) (ao : Option Addr) (n cap : Nat) (hn : n = l.length) (w0 : World) (hz : SliceIn w0 1 ao n cap (rowsF encI l)) (hnb : n ≤ 1000) : FnC Try.prog 21 [.slice ao n cap] w0 fun v w' => ∃ a c rs, v = .slice a rs.length c ∧ Rk l l.length rs ∧ FamOut w' w0.heap.size 22 3 1 a c rs := by
  refine fnc (N := 49) Try.func21 rfl rfl rfl ?_
  refine WC.seq ?_
  refine WC.region ?_
  refine SL.pure rfl rfl rfl (PureOp.assign rfl) ?_
  refine SL.nil_then ?_
  refine WC.seq ?_
  refine WC.region ?_
  refine SL.addnil 22 1 ?_
  refine SL.pure rfl rfl rfl (PureOp.assign rfl) ?_
  refine SL.nil_then ?_
  refine WC.seq ?_
  refine WC.seq ?_
  refine WC.region ?_
  refine SL.heap (fun w hw => HeapOk.famNew hw w0.heap.size 3 1) ?_
  refine SL.pure rfl rfl rfl (PureOp.move rfl) ?_
  refine SL.pure rfl rfl rfl (PureOp.len rfl Try.underlying22) ?_
  refine SL.pure rfl rfl rfl (PureOp.move rfl) ?_
  refine SL.nil_then ?_
  refine WC.block ?_
  refine WC.loop (σ := Nat × Nat × Option Addr × Nat × List FRow) (fun s => [(0, 0, .slice ao n cap), (3, 0, .slice s.2.2.1 s.2.1 s.2.2.2.1), (7, 0, .slice ao n cap), (8, 0, .int .i64 n), (9, 0, .int .i64 (s.1 : Nat))]) (fun s => [.own w0.heap.size s.2.2.1 s.2.1 s.2.2.2.1 22 1 (s.2.2.2.2.map FRow.val), .fam w0.heap.size 3 1 s.2.2.2.2]) (fun s => s.1 ≤ n ∧ s.2.1 = s.2.2.2.2.length ∧ Rk l s.1 s.2.2.2.2) (fun s => n - s.1) 2 ((0, 0, none, 0, [])) (⟨Nat.zero_le _, rfl, rfl⟩) ⟨rfl, rfl, rfl, rfl, rfl, rfl, rfl, rfl, rfl, rfl, trivial⟩ rfl ?_
  rintro ⟨k, m, ga, gc, rs⟩ ⟨hk, hm, hI⟩
  dsimp only at hk hm hI ⊢
  refine WC.seq ?_
  refine WC.region ?_
  refine SL.pure rfl rfl rfl (PureOp.lss rfl rfl) ?_
  refine SL.nil_then ?_
  refine WC.seq ?_
  refine WC.cond rfl (fun h1 => ?_) (fun h1 => ?_)
  · try simp only [Bool.and_eq_true, Bool.or_eq_true, Bool.not_eq_true', Bool.not_eq_false', Bool.and_eq_false_iff, Bool.or_eq_false_iff, decide_eq_true_eq, decide_eq_false_iff_not, Int.not_lt, Int.not_le, ne_eq, Decidable.not_not] at h1
    refine WC.skip ?_
    refine QX.then_ ?_
    refine WC.seq ?_
    refine WC.block ?_
    refine WC.seq ?_
    refine WC.region ?_
    refine SL.pure rfl rfl rfl (PureOp.move rfl) ?_
    refine SL.pure rfl rfl rfl (PureOp.indexAddrN Try.underlying22 sz3 rfl rfl (AoOk.in_ hz) (fun _ => by (have q1 := hI.len; have q2 := gi_le l k; first | omega | (simp; omega) | (have q5 := (gi_inv l k).pos (by omega); first | omega | (simp; omega)) | (have q5 := (gi_inv l k).pos (by omega); have q3 := (hI.at_ (i := ((m : Int) - 1).toNat) (by omega)).1; have q4 := (gi_inv l k).le (i := ((m : Int) - 1).toNat) (by omega); omega)))) ?_
    refine SL.pure rfl rfl rfl (PureOp.load Try.underlying3 rfl rfl (fun _ => (CellIs.in_ hz _ 0 (by omega) (by omega)))) ?_
    refine SL.pure rfl rfl rfl (PureOp.assign rfl) ?_
    refine SL.pure rfl rfl rfl (PureOp.assign rfl) ?_
    refine SL.nil_then ?_
    refine WC.seq ?_
    refine WC.seq ?_
    refine WC.region ?_
    refine SL.pure rfl rfl rfl (PureOp.move rfl) ?_
    refine SL.pure rfl rfl rfl (PureOp.gtr rfl rfl) ?_
    refine SL.pure rfl rfl rfl (PureOp.move rfl) ?_
    refine SL.newg 16 true rfl ?_
    refine SL.gpure (c := 1) rfl rfl rfl rfl rfl rfl rfl (PureOp.move rfl) ?_
    refine SL.gpure (c := 1) rfl rfl rfl rfl rfl rfl rfl (PureOp.gtr rfl rfl) ?_
    refine SL.pure rfl rfl rfl (PureOp.and_ rfl rfl rfl rfl) ?_
    refine SL.pure rfl rfl rfl (PureOp.move rfl) ?_
    refine SL.newg 20 true rfl ?_
    refine SL.gpure (c := 2) rfl rfl rfl rfl rfl rfl rfl (PureOp.move rfl) ?_
    refine SL.gpure (c := 2) rfl rfl rfl rfl rfl rfl rfl (PureOp.move rfl) ?_
    refine SL.gpure (c := 2) rfl rfl rfl rfl rfl rfl rfl (PureOp.sub rfl rfl (by intro hg; simp [gval] at hg; omega)) ?_
    refine SL.gpure (c := 2) rfl rfl rfl rfl rfl rfl rfl (PureOp.indexAddr Try.underlying22 sz3 rfl rfl (AoOk.in_ hz) (by intro hg; simp [gval] at hg; omega)) ?_
    refine SL.gpure (c := 2) rfl rfl rfl rfl rfl rfl rfl (PureOp.load Try.underlying3 rfl rfl (by intro hg; simp [gval] at hg; exact (CellIs.in_ hz ((k : Int) - 1).toNat 0 (by omega) (by omega)))) ?_
    refine SL.gpure (c := 2) rfl rfl rfl rfl rfl rfl rfl (PureOp.move rfl) ?_
    refine SL.gpure (c := 2) rfl rfl rfl rfl rfl rfl rfl (PureOp.eql rfl rfl) ?_
    refine SL.pure rfl rfl rfl (PureOp.and_ rfl rfl rfl rfl) ?_
    refine SL.nil_then ?_
    refine WC.cond rfl (fun h2 => ?_) (fun h2 => ?_)
    · try simp only [Bool.and_eq_true, Bool.or_eq_true, Bool.not_eq_true', Bool.not_eq_false', Bool.and_eq_false_iff, Bool.or_eq_false_iff, decide_eq_true_eq, decide_eq_false_iff_not, Int.not_lt, Int.not_le, ne_eq, Decidable.not_not] at h2
      refine WC.seq ?_
      refine WC.region ?_
      refine SL.pure rfl rfl rfl (PureOp.move rfl) ?_
      refine SL.pure rfl rfl rfl (PureOp.len rfl Try.underlying24) ?_
      refine SL.pure rfl rfl rfl (PureOp.sub rfl rfl (fun _ => by (have q1 := hI.len; have q2 := gi_le l k; first | omega | (simp; omega) | (have q5 := (gi_inv l k).pos (by omega); first | omega | (simp; omega)) | (have q5 := (gi_inv l k).pos (by omega); have q3 := (hI.at_ (i := ((m : Int) - 1).toNat) (by omega)).1; have q4 := (gi_inv l k).le (i := ((m : Int) - 1).toNat) (by omega); omega)))) ?_
      refine SL.pure rfl rfl rfl (PureOp.assign rfl) ?_
      refine SL.nil_then ?_
      refine WC.seq ?_
      refine WC.region ?_
      refine SL.pure rfl rfl rfl (PureOp.move rfl) ?_
      refine SL.pure rfl rfl rfl (PureOp.move rfl) ?_
      refine SL.pure rfl rfl rfl (PureOp.move rfl) ?_
      refine SL.pure rfl rfl rfl (PureOp.move rfl) ?_
      refine SL.pure rfl rfl rfl (PureOp.indexAddr Try.underlying24 sz22 rfl rfl (AoOk.own 0 rfl) (fun _ => by (have q1 := hI.len; have q2 := gi_le l k; first | omega | (simp; omega) | (have q5 := (gi_inv l k).pos (by omega); first | omega | (simp; omega)) | (have q5 := (gi_inv l k).pos (by omega); have q3 := (hI.at_ (i := ((m : Int) - 1).toNat) (by omega)).1; have q4 := (gi_inv l k).le (i := ((m : Int) - 1).toNat) (by omega); omega)))) ?_
      refine SL.pure rfl rfl rfl (PureOp.load Try.underlying22 rfl rfl (fun _ => (CellIs.ownc 0 rfl ((m : Int) - 1).toNat 0 (by have q1 := hI.len; have q5 := (gi_inv l k).pos (by omega); exact vals_get (by omega))))) ?_
      refine SL.pure rfl rfl rfl (PureOp.move rfl) ?_
      refine SL.heap (fun w hw => HeapOk.famTake hw 1 (((m : Int) - 1).toNat) rfl rfl (by have q1 := hI.len; have q5 := (gi_inv l k).pos (by omega); omega)) ?_
      refine SL.buildSlice rfl rfl Try.underlying22 elem3 rfl rfl rfl rfl (fun b1 hb1 => ?_)
      refine SL.append 2 rfl rfl Try.underlying22 elem3 rfl rfl rfl rfl (SrcIs.own 3 rfl) (by rfl) (by (have q1 := hI.len; have q2 := gi_le l k; first | omega | (simp; omega) | (have q5 := (gi_inv l k).pos (by omega); first | omega | (simp; omega)) | (have q5 := (gi_inv l k).pos (by omega); have q3 := (hI.at_ (i := ((m : Int) - 1).toNat) (by omega)).1; have q4 := (gi_inv l k).le (i := ((m : Int) - 1).toNat) (by omega); omega))) (by (have q1 := hI.len; have q2 := gi_le l k; first | omega | (simp; omega) | (have q5 := (gi_inv l k).pos (by omega); first | omega | (simp; omega)) | (have q5 := (gi_inv l k).pos (by omega); have q3 := (hI.at_ (i := ((m : Int) - 1).toNat) (by omega)).1; have q4 := (gi_inv l k).le (i := ((m : Int) - 1).toNat) (by omega); omega))) (fun ao1_ cap1_ => ?_)
      refine SL.pure rfl rfl rfl (PureOp.indexAddr Try.underlying24 sz22 rfl rfl (AoOk.own 0 rfl) (fun _ => by (have q1 := hI.len; have q2 := gi_le l k; first | omega | (simp; omega) | (have q5 := (gi_inv l k).pos (by omega); first | omega | (simp; omega)) | (have q5 := (gi_inv l k).pos (by omega); have q3 := (hI.at_ (i := ((m : Int) - 1).toNat) (by omega)).1; have q4 := (gi_inv l k).le (i := ((m : Int) - 1).toNat) (by omega); omega)))) ?_
      refine SL.storeown (k := ((m : Int) - 1).toNat) (j := 0) 0 rfl rfl rfl rfl sz22 (by (have q1 := hI.len; have q2 := gi_le l k; first | omega | (simp; omega) | (have q5 := (gi_inv l k).pos (by omega); first | omega | (simp; omega)) | (have q5 := (gi_inv l k).pos (by omega); have q3 := (hI.at_ (i := ((m : Int) - 1).toNat) (by omega)).1; have q4 := (gi_inv l k).le (i := ((m : Int) - 1).toNat) (by omega); omega))) rfl ?_
      refine SL.nil_then ?_
      refine WC.exit ?_
      refine QX.exit_then ?_
      refine QX.exit_hit ?_
      refine QX.then_ ?_
      refine WC.region ?_
      refine SL.pure rfl rfl rfl (PureOp.add rfl rfl (fun _ => by (have q1 := hI.len; have q2 := gi_le l k; first | omega | (simp; omega) | (have q5 := (gi_inv l k).pos (by omega); first | omega | (simp; omega)) | (have q5 := (gi_inv l k).pos (by omega); have q3 := (hI.at_ (i := ((m : Int) - 1).toNat) (by omega)).1; have q4 := (gi_inv l k).le (i := ((m : Int) - 1).toNat) (by omega); omega)))) ?_
      refine SL.pure rfl rfl rfl (PureOp.move rfl) ?_
      refine SL.nil ?_
      refine QX.heap (fun w hw => HeapOk.famPut hw 1 2 (((m : Int) - 1).toNat) rfl rfl rfl) ?_
      have hj : joinB l k = true := by simp only [joinB, Bool.and_eq_true, decide_eq_true_eq]; refine ⟨⟨by omega, by omega⟩, ?_⟩; have q := h2.2; rw [show ((k : Int) - 1).toNat = k - 1 from by omega] at q; exact q
      have hq : ((m : Int) - 1).toNat = rs.length - 1 := by omega
      refine QX.round (s := (k, m, ga, gc, rs)) (μ := fun s => n - s.1) 2 (k + 1, m, ga, gc, rs.set (rs.length - 1) ⟨ao1_, (nth rs (rs.length - 1)).n + 1, cap1_, (nth rs (rs.length - 1)).xs ++ [.int .i64 (k : Int)]⟩) ⟨⟨by show k + 1 ≤ n; omega, by show m = (rs.set _ _).length; rw [List.length_set]; exact hm, hI.join hj⟩, by show n - (k + 1) < n - k; omega⟩ ⟨rfl, rfl, rfl, rfl, rfl, rfl, rfl, rfl, rfl, rfl, trivial⟩ ?_
      show [Item.own _ _ _ _ _ _ _, Item.fam _ _ _ _] = [Item.own _ _ _ _ _ _ _, Item.fam _ _ _ _]
      rw [hq, List.map_set, List.set_set]
      simp [FRow.val]
      rfl
    · try simp only [Bool.and_eq_true, Bool.or_eq_true, Bool.not_eq_true', Bool.not_eq_false', Bool.and_eq_false_iff, Bool.or_eq_false_iff, decide_eq_true_eq, decide_eq_false_iff_not, Int.not_lt, Int.not_le, ne_eq, Decidable.not_not] at h2
      refine WC.skip ?_
      refine QX.then_ ?_
      refine WC.region ?_
      refine SL.pure rfl rfl rfl (PureOp.move rfl) ?_
      refine SL.pure rfl rfl rfl (PureOp.move rfl) ?_
      refine SL.buildSlice rfl rfl Try.underlying22 elem3 rfl rfl rfl rfl (fun b2 hb2 => ?_)
      refine SL.buildSlice rfl rfl Try.underlying24 elem22 rfl rfl rfl rfl (fun b3 hb3 => ?_)
      refine SL.append 0 rfl rfl Try.underlying24 elem22 rfl rfl rfl rfl (SrcIs.own 3 rfl) (by rfl) (by (have q1 := hI.len; have q2 := gi_le l k; first | omega | (simp; omega) | (have q5 := (gi_inv l k).pos (by omega); first | omega | (simp; omega)) | (have q5 := (gi_inv l k).pos (by omega); have q3 := (hI.at_ (i := ((m : Int) - 1).toNat) (by omega)).1; have q4 := (gi_inv l k).le (i := ((m : Int) - 1).toNat) (by omega); omega))) (by (have q1 := hI.len; have q2 := gi_le l k; first | omega | (simp; omega) | (have q5 := (gi_inv l k).pos (by omega); first | omega | (simp; omega)) | (have q5 := (gi_inv l k).pos (by omega); have q3 := (hI.at_ (i := ((m : Int) - 1).toNat) (by omega)).1; have q4 := (gi_inv l k).le (i := ((m : Int) - 1).toNat) (by omega); omega))) (fun ao2_ cap2_ => ?_)
      refine SL.pure rfl rfl rfl (PureOp.assign rfl) ?_
      refine SL.nil ?_
      refine QX.normal_in ?_
      refine QX.then_ ?_
      refine WC.region ?_
      refine SL.pure rfl rfl rfl (PureOp.add rfl rfl (fun _ => by (have q1 := hI.len; have q2 := gi_le l k; first | omega | (simp; omega) | (have q5 := (gi_inv l k).pos (by omega); first | omega | (simp; omega)) | (have q5 := (gi_inv l k).pos (by omega); have q3 := (hI.at_ (i := ((m : Int) - 1).toNat) (by omega)).1; have q4 := (gi_inv l k).le (i := ((m : Int) - 1).toNat) (by omega); omega)))) ?_
      refine SL.pure rfl rfl rfl (PureOp.move rfl) ?_
      refine SL.nil ?_
      refine QX.heap (fun w hw => HeapOk.famAdd hw 1 2 rfl rfl rfl) ?_
      have hj : joinB l k = false := by
        simp only [joinB, Bool.and_eq_false_iff, decide_eq_false_iff_not]
        rcases h2 with (q | q) | q
        · left; left; omega
        · left; right; exact fun q2 => absurd q2 (by omega)
        · by_cases z : 0 < k
          · right; rw [show ((k : Int) - 1).toNat = k - 1 from by omega] at q; exact q
          · left; left; exact z
      refine QX.round (s := (k, m, ga, gc, rs)) (μ := fun s => n - s.1) 2 (k + 1, m + 1, ao2_, cap2_, rs ++ [⟨some ⟨b2, 0, none⟩, 1, 1, [.int .i64 (k : Int)]⟩]) ⟨⟨by show k + 1 ≤ n; omega, by show m + 1 = (rs ++ _).length; simp [hm], hI.snoc hj⟩, by show n - (k + 1) < n - k; omega⟩ ⟨rfl, rfl, rfl, rfl, rfl, rfl, rfl, rfl, rfl, rfl, trivial⟩ ?_
      show [Item.own _ _ _ _ _ _ _, Item.fam _ _ _ _] = [Item.own _ _ _ _ _ _ _, Item.fam _ _ _ _]
      rw [List.map_append]
      rfl
  · try simp only [Bool.and_eq_true, Bool.or_eq_true, Bool.not_eq_true', Bool.not_eq_false', Bool.and_eq_false_iff, Bool.or_eq_false_iff, decide_eq_true_eq, decide_eq_false_iff_not, Int.not_lt, Int.not_le, ne_eq, Decidable.not_not] at h1
    refine WC.exit ?_
    refine QX.exit_then ?_
    refine QX.exit_then ?_
    refine QX.exit_hit ?_
    refine QX.then_ ?_
    refine WC.seq ?_
    refine WC.region ?_
    refine SL.pure rfl rfl rfl (PureOp.move rfl) ?_
    refine SL.pure rfl rfl rfl (PureOp.assign rfl) ?_
    refine SL.nil_then ?_
    refine WC.ret ?_
    refine QX.ret1 rfl rfl ?_
    intro w hw
    obtain rfl : k = n := by omega
    subst hm
    subst hn
    exact ⟨ga, gc, rs, rfl, hI, FamOut.of hw 0 1 rfl rfl rfl rfl⟩

end Go.Proofs.Ytdiegelbpdknaaa
