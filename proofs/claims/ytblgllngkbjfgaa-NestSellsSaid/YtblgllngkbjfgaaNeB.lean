import Derived.Test.YtblgllngkbjfgaaNeA
namespace Go.Proofs.Ytblgllngkbjfgaa
open Go Go.RowKit Eng
set_option linter.unusedVariables false
set_option linter.unusedSimpArgs false

set_option maxHeartbeats 4000000 in
set_option maxRecDepth 100000 in
theorem limits_ok (nm : ByteArray) (se ov : Int) (cl : List Cl) (ac : Option Addr) (nc cc : Nat) (hnc : nc = cl.length) (hcb : nc ≤ 30) (w0 : World) (hc : SliceIn w0 2 ac nc cc (rowsF enc47 cl)) (hR : Rt se ov cl) : FnC Try.prog 36 [.agg #[.string nm, .int .i64 se, .int .i64 ov, .slice ac nc cc]] w0 fun v w' => ∃ a c, v = .slice a (tab nc (lim (se + ov) cl)).length c ∧ w'.ownsRow w0.heap.size 3 1 (.slice a (tab nc (lim (se + ov) cl)).length c) (tab nc (lim (se + ov) cl)).length (cellsOf encI (tab nc (lim (se + ov) cl))) := by
  refine fnc (N := 36) Try.func36 rfl rfl rfl ?_
  refine WC.seq ?_
  refine WC.region ?_
  refine SL.box rfl rfl rfl (fun b1 hb1 => ?_)
  refine SL.pure rfl rfl rfl (PureOp.assign rfl) ?_
  refine SL.nil_then ?_
  refine WC.seq ?_
  refine WC.region ?_
  refine SL.pure rfl rfl rfl (PureOp.fieldAddrT 3 Try.underlying24 rfl sz22 rfl rfl) ?_
  refine SL.pure rfl rfl rfl (PureOp.load (v := .slice ac nc cc) Try.underlying22 rfl rfl (fun _ => (CellIs.cells 0 rfl rfl))) ?_
  refine SL.pure rfl rfl rfl (PureOp.len rfl Try.underlying22) ?_
  refine SL.make rfl rfl Try.underlying25 elem3 rfl rfl (by (have q1 := hR.s1; have q2 := hR.o1; first | omega | (have q3 := hR.pr ((k : Int) - 1).toNat (by omega); omega) | (simp only [tab_len, cellsOf_length encI_len]; omega))) (by (have q1 := hR.s1; have q2 := hR.o1; first | omega | (have q3 := hR.pr ((k : Int) - 1).toNat (by omega); omega) | (simp only [tab_len, cellsOf_length encI_len]; omega))) (fun b2 hb2 => ?_)
  refine SL.itemxs 1 rfl (show _ = cellsOf encI (tab nc (fun j => if j < 0 then lim (se + ov) cl j else 0)) from by rw [rep_tab]; rfl) ?_
  refine SL.pure rfl rfl rfl (PureOp.assign rfl) ?_
  refine SL.nil_then ?_
  refine WC.seq ?_
  refine WC.seq ?_
  refine WC.region ?_
  refine SL.pure rfl rfl rfl (PureOp.move rfl) ?_
  refine SL.pure rfl rfl rfl (PureOp.len rfl Try.underlying25) ?_
  refine SL.pure rfl rfl rfl (PureOp.move rfl) ?_
  refine SL.nil_then ?_
  refine WC.block ?_
  refine WC.loop (σ := Nat) (fun q_ => [(0, 0, .agg #[.string nm, .int .i64 se, .int .i64 ov, .slice ac nc cc]), (1, 0, .pointer (some ⟨b1, 0, none⟩)), (2, 0, .slice none 0 0), (3, 0, .slice (some ⟨b2, 0, none⟩) nc nc), (5, 0, .pointer (some ⟨b1, 3, none⟩)), (6, 0, .slice ac nc cc), (7, 0, .int .i64 ((nc : Nat) : Int)), (8, 0, .slice (some ⟨b2, 0, none⟩) nc nc), (9, 0, .slice (some ⟨b2, 0, none⟩) nc nc), (10, 0, .int .i64 ((nc : Nat) : Int)), (11, 0, .int .i64 ((q_ : Nat) : Int))]) (fun q_ => [Item.cells b1 [.string nm, .int .i64 se, .int .i64 ov, .slice ac nc cc] 24, Item.own w0.heap.size (some ⟨b2, 0, none⟩) nc nc 3 1 (cellsOf encI (tab nc (fun j => if j < q_ then lim (se + ov) cl j else 0)))]) (fun q_ => q_ ≤ nc) (fun q_ => nc - q_) 2 (0) (Nat.zero_le _) ⟨rfl, rfl, rfl, rfl, rfl, rfl, rfl, rfl, rfl, rfl, rfl, rfl, rfl, rfl, rfl, rfl, rfl, rfl, rfl, rfl, rfl, rfl, trivial⟩ rfl ?_
  rintro k hk
  refine WC.seq ?_
  refine WC.region ?_
  refine SL.pure rfl rfl rfl (PureOp.lss rfl rfl) ?_
  refine SL.nil_then ?_
  refine WC.seq ?_
  refine WC.cond rfl (fun h1 => ?_) (fun h1 => ?_)
  · try simp only [Bool.and_eq_true, Bool.or_eq_true, Bool.not_eq_true', Bool.not_eq_false', Bool.and_eq_false_iff, Bool.or_eq_false_iff, decide_eq_true_eq, decide_eq_false_iff_not, Int.not_lt, Int.not_le, ne_eq, Decidable.not_not] at h1
    refine WC.skip ?_
    refine QX.then_ ?_
    refine WC.seq ?_
    refine WC.block ?_
    refine WC.seq ?_
    refine WC.region ?_
    refine SL.pure rfl rfl rfl (PureOp.move rfl) ?_
    refine SL.pure rfl rfl rfl (PureOp.assign rfl) ?_
    refine SL.nil_then ?_
    refine WC.seq ?_
    refine WC.region ?_
    refine SL.pure rfl rfl rfl (PureOp.move rfl) ?_
    refine SL.pure rfl rfl rfl (PureOp.move rfl) ?_
    refine SL.pure rfl rfl rfl (PureOp.loads (vs := [.string nm, .int .i64 se, .int .i64 ov, .slice ac nc cc]) Try.underlying24 rfl rfl (fun _ => (RowIs.cells 0 0 4 rfl rfl)) sz24) ?_
    refine SL.calle rfl rfl rfl rfl rfl rfl callable44 (fun w hw => auth_ok nm se ov cl ac nc cc hnc hcb w hR) ?_
    refine SL.pure rfl rfl rfl (PureOp.indexAddrN Try.underlying25 sz3 rfl rfl AoOk.lit (fun _ => by (have q1 := hR.s1; have q2 := hR.o1; first | omega | (have q3 := hR.pr ((k : Int) - 1).toNat (by omega); omega) | (simp only [tab_len, cellsOf_length encI_len]; omega)))) ?_
    refine SL.storeown (k := k) (j := 0) 1 rfl rfl rfl rfl sz3 (by (rw [cellsOf_length encI_len, tab_len]; omega)) rfl ?_
    refine SL.itemxs 1 rfl (show _ = cellsOf encI (tab nc (fun j => if j = k then se + ov else if j < k then lim (se + ov) cl j else 0)) from by rw [encI_set (by rw [tab_len]; omega), tab_set]) ?_
    refine SL.nil_then ?_
    refine WC.seq ?_
    refine WC.region ?_
    refine SL.pure rfl rfl rfl (PureOp.move rfl) ?_
    refine SL.pure rfl rfl rfl (PureOp.gtr rfl rfl) ?_
    refine SL.nil_then ?_
    refine WC.cond rfl (fun h2 => ?_) (fun h2 => ?_)
    · try simp only [Bool.and_eq_true, Bool.or_eq_true, Bool.not_eq_true', Bool.not_eq_false', Bool.and_eq_false_iff, Bool.or_eq_false_iff, decide_eq_true_eq, decide_eq_false_iff_not, Int.not_lt, Int.not_le, ne_eq, Decidable.not_not] at h2
      refine WC.drawh ([Item.cells b1 [.string nm, .int .i64 se, .int .i64 ov, .slice ac nc cc] 24, Item.triv]) 14 [false, false, false, false, false, false, false, false, false, false, false, false, false, false] rfl rfl rfl ?_
      refine SD.take 0 [true, false, false, false, false, false, false, false, false, false, false, false, false, false] rfl (by kernel_rfl) rfl (fun _ h => (HeapOk.settriv h (i := 1) rfl)) rfl rfl rfl (PureOp.move rfl) ?_
      refine SD.take 1 [true, true, false, false, false, false, false, false, false, false, false, false, false, false] rfl (by kernel_rfl) rfl (fun _ h => (HeapOk.settriv h (i := 1) rfl)) rfl rfl rfl (PureOp.move rfl) ?_
      refine SD.take 2 [true, true, true, false, false, false, false, false, false, false, false, false, false, false] rfl (by kernel_rfl) rfl (fun _ h => (HeapOk.settriv h (i := 1) rfl)) rfl rfl rfl (PureOp.indexAddrN Try.underlying25 sz3 rfl rfl AoOk.lit (fun _ => by (have q1 := hR.s1; have q2 := hR.o1; first | omega | (have q3 := hR.pr ((k : Int) - 1).toNat (by omega); omega) | (simp only [tab_len, cellsOf_length encI_len]; omega)))) ?_
      refine SD.take 4 [true, true, true, false, true, false, false, false, false, false, false, false, false, false] rfl (by kernel_rfl) rfl (fun _ h => (HeapOk.settriv h (i := 1) rfl)) rfl rfl rfl (PureOp.fieldAddrT 3 Try.underlying24 rfl sz22 rfl rfl) ?_
      refine SD.take 5 [true, true, true, false, true, true, false, false, false, false, false, false, false, false] rfl (by kernel_rfl) rfl (fun _ h => (HeapOk.settriv h (i := 1) rfl)) rfl rfl rfl (PureOp.load (v := .slice ac nc cc) Try.underlying22 rfl rfl (fun _ => (CellIs.cells 0 rfl rfl))) ?_
      refine SD.take 6 [true, true, true, false, true, true, true, false, false, false, false, false, false, false] rfl (by kernel_rfl) rfl (fun _ h => (HeapOk.settriv h (i := 1) rfl)) rfl rfl rfl (PureOp.move rfl) ?_
      refine SD.take 7 [true, true, true, false, true, true, true, true, false, false, false, false, false, false] rfl (by kernel_rfl) rfl (fun _ h => (HeapOk.settriv h (i := 1) rfl)) rfl rfl rfl (PureOp.sub rfl rfl (fun _ => by (have q1 := hR.s1; have q2 := hR.o1; first | omega | (have q3 := hR.pr ((k : Int) - 1).toNat (by omega); omega) | (simp only [tab_len, cellsOf_length encI_len]; omega)))) ?_
      refine SD.take 8 [true, true, true, false, true, true, true, true, true, false, false, false, false, false] rfl (by kernel_rfl) rfl (fun _ h => (HeapOk.settriv h (i := 1) rfl)) rfl rfl rfl (PureOp.indexAddr Try.underlying22 sz47 rfl rfl (AoOk.in_ hc) (fun _ => by (have q1 := hR.s1; have q2 := hR.o1; first | omega | (have q3 := hR.pr ((k : Int) - 1).toNat (by omega); omega) | (simp only [tab_len, cellsOf_length encI_len]; omega)))) ?_
      refine SD.take 9 [true, true, true, false, true, true, true, true, true, true, false, false, false, false] rfl (by kernel_rfl) rfl (fun _ h => (HeapOk.settriv h (i := 1) rfl)) rfl rfl rfl (PureOp.fieldAddr 1 Try.underlying47 rfl rfl sz3 rfl) ?_
      refine SD.take 10 [true, true, true, false, true, true, true, true, true, true, true, false, false, false] rfl (by kernel_rfl) rfl (fun _ h => (HeapOk.settriv h (i := 1) rfl)) rfl rfl rfl (PureOp.load (v := .int .i64 ((nth cl ((((k : Nat) : Int) - 1).toNat)).2)) Try.underlying3 rfl rfl (fun _ => (CellIs.in_ hc (((k : Nat) : Int) - 1).toNat 1 (by (have q1 := hR.s1; have q2 := hR.o1; first | omega | (have q3 := hR.pr ((k : Int) - 1).toNat (by omega); omega) | (simp only [tab_len, cellsOf_length encI_len]; omega))) (by omega)))) ?_
      refine SD.one 3 [true, true, true, true, true, true, true, true, true, true, true, false, false, false] (by kernel_rfl) rfl rfl ?_
      refine SL.pure rfl rfl rfl (PureOp.load (v := .int .i64 (se + ov)) Try.underlying3 rfl rfl (fun _ => (CellIs.ownc 1 rfl k 0 (by exact (encI_get (by rw [tab_len]; omega)).trans (by rw [tab_nth _ _ (by omega), if_pos rfl]))))) ?_
      refine SD.back (fun _ h => (HeapOk.settriv h (i := 1) rfl)) ?_
      refine SD.take 11 [true, true, true, true, true, true, true, true, true, true, true, true, false, false] rfl (by kernel_rfl) rfl (fun _ h => (HeapOk.settriv h (i := 1) rfl)) rfl rfl rfl (PureOp.sub rfl rfl (fun _ => by (have q1 := hR.s1; have q2 := hR.o1; first | omega | (have q3 := hR.pr ((k : Int) - 1).toNat (by omega); omega) | (simp only [tab_len, cellsOf_length encI_len]; omega)))) ?_
      refine SD.take 12 [true, true, true, true, true, true, true, true, true, true, true, true, true, false] rfl (by kernel_rfl) rfl (fun _ h => (HeapOk.settriv h (i := 1) rfl)) rfl rfl rfl (PureOp.indexAddrN Try.underlying25 sz3 rfl rfl AoOk.lit (fun _ => by (have q1 := hR.s1; have q2 := hR.o1; first | omega | (have q3 := hR.pr ((k : Int) - 1).toNat (by omega); omega) | (simp only [tab_len, cellsOf_length encI_len]; omega)))) ?_
      refine SD.one 13 [true, true, true, true, true, true, true, true, true, true, true, true, true, true] (by kernel_rfl) rfl rfl ?_
      refine SL.storeown (k := k) (j := 0) 1 rfl rfl rfl rfl sz3 (by (rw [cellsOf_length encI_len, tab_len]; omega)) rfl ?_
      refine SL.itemxs 1 rfl (show _ = cellsOf encI (tab nc (fun j => if j = k then se + ov - (nth cl ((k : Int) - 1).toNat).2 else if j < k then lim (se + ov) cl j else 0)) from by rw [encI_set (by rw [tab_len]; omega), tab_set]; refine congrArg (cellsOf encI) (tab_congr fun j hj => ?_); split <;> rfl) ?_
      refine SD.back (fun _ h => (HeapOk.settriv h (i := 1) rfl)) ?_
      refine SD.done (by kernel_rfl) ?_
      refine QX.ofK ?_
      refine QX.normal_in ?_
      refine QX.then_ ?_
      refine WC.region ?_
      refine SL.pure rfl rfl rfl (PureOp.addN (k := 1) rfl rfl (fun _ => by (have q1 := hR.s1; have q2 := hR.o1; first | omega | (have q3 := hR.pr ((k : Int) - 1).toNat (by omega); omega) | (simp only [tab_len, cellsOf_length encI_len]; omega)))) ?_
      refine SL.pure rfl rfl rfl (PureOp.move rfl) ?_
      refine SL.nil ?_
      refine QX.round 2 (k + 1) ⟨by omega, by first | omega | (dsimp only; omega)⟩ ⟨rfl, rfl, rfl, rfl, rfl, rfl, rfl, rfl, rfl, rfl, rfl, rfl, rfl, rfl, rfl, rfl, rfl, rfl, rfl, rfl, rfl, rfl, trivial⟩ (by show [_, Item.own _ _ _ _ _ _ _] = [_, Item.own _ _ _ _ _ _ _]; congr 3; refine congrArg (cellsOf encI) (tab_congr fun j hj => ?_); rcases Nat.lt_trichotomy j k with q | q | q; (rw [if_neg (by omega), if_pos q, if_pos (by omega)]); (subst q; rw [if_pos rfl, if_pos (by omega), lim]; rw [if_neg (by omega), show ((j : Int) - 1).toNat = j - 1 from by omega]); (rw [if_neg (by omega), if_neg (by omega), if_neg (by omega)]))
    · try simp only [Bool.and_eq_true, Bool.or_eq_true, Bool.not_eq_true', Bool.not_eq_false', Bool.and_eq_false_iff, Bool.or_eq_false_iff, decide_eq_true_eq, decide_eq_false_iff_not, Int.not_lt, Int.not_le, ne_eq, Decidable.not_not] at h2
      refine WC.skip ?_
      refine QX.normal_in ?_
      refine QX.then_ ?_
      refine WC.region ?_
      refine SL.pure rfl rfl rfl (PureOp.addN (k := 1) rfl rfl (fun _ => by (have q1 := hR.s1; have q2 := hR.o1; first | omega | (have q3 := hR.pr ((k : Int) - 1).toNat (by omega); omega) | (simp only [tab_len, cellsOf_length encI_len]; omega)))) ?_
      refine SL.pure rfl rfl rfl (PureOp.move rfl) ?_
      refine SL.nil ?_
      refine QX.round 2 (k + 1) ⟨by omega, by first | omega | (dsimp only; omega)⟩ ⟨rfl, rfl, rfl, rfl, rfl, rfl, rfl, rfl, rfl, rfl, rfl, rfl, rfl, rfl, rfl, rfl, rfl, rfl, rfl, rfl, rfl, rfl, trivial⟩ (by show [_, Item.own _ _ _ _ _ _ _] = [_, Item.own _ _ _ _ _ _ _]; congr 3; refine congrArg (cellsOf encI) (tab_congr fun j hj => ?_); rcases Nat.lt_trichotomy j k with q | q | q; (rw [if_neg (by omega), if_pos q, if_pos (by omega)]); (subst q; rw [if_pos rfl, if_pos (by omega), lim]; rw [if_pos (by omega)]); (rw [if_neg (by omega), if_neg (by omega), if_neg (by omega)]))
  · try simp only [Bool.and_eq_true, Bool.or_eq_true, Bool.not_eq_true', Bool.not_eq_false', Bool.and_eq_false_iff, Bool.or_eq_false_iff, decide_eq_true_eq, decide_eq_false_iff_not, Int.not_lt, Int.not_le, ne_eq, Decidable.not_not] at h1
    refine WC.exit ?_
    refine QX.exit_then ?_
    refine QX.exit_then ?_
    refine QX.exit_hit ?_
    refine QX.then_ ?_
    refine WC.seq ?_
    refine WC.region ?_
    refine SL.pure rfl rfl rfl (PureOp.move rfl) ?_
    refine SL.pure rfl rfl rfl (PureOp.assign rfl) ?_
    refine SL.nil_then ?_
    refine WC.ret ?_
    refine QX.ret1 rfl rfl ?_
    intro w hw
    obtain rfl : k = nc := by omega
    have h := hw.mem (i := 1) rfl
    rw [show (tab k fun j => if j < k then lim (se + ov) cl j else 0) = tab k (lim (se + ov) cl) from tab_congr fun j hj => by rw [if_pos hj]] at h
    rw [tab_len]
    exact ⟨_, _, rfl, h⟩

theorem limits_n (nm : ByteArray) (se ov : Int) (cl : List Cl) (ac : Option Addr) (nc cc : Nat) (hnc : nc = cl.length) (hcb : nc ≤ 30) (w0 : World) (hc : SliceIn w0 2 ac nc cc (rowsF enc47 cl)) (hR : Rt se ov cl) : FnC Try.prog 36 [.agg #[.string nm, .int .i64 se, .int .i64 ov, .slice ac nc cc]] w0 fun v w' => ∃ a c, v = .slice a nc c ∧ w'.ownsRow w0.heap.size 3 1 (.slice a nc c) nc (cellsOf encI (tab nc (lim (se + ov) cl))) := by
  have h := limits_ok nm se ov cl ac nc cc hnc hcb w0 hc hR
  rw [tab_len] at h
  exact h
set_option maxHeartbeats 4000000 in
set_option maxRecDepth 100000 in
theorem rlimits_ok (nm : ByteArray) (se ov : Int) (cl : List Cl) (ac : Option Addr) (nc cc : Nat) (hnc : nc = cl.length) (hcb : nc ≤ 30) (w0 : World) (hc : SliceIn w0 2 ac nc cc (rowsF enc47 cl)) (hR : Rt se ov cl) : FnC Try.prog 37 [.agg #[.string nm, .int .i64 se, .int .i64 ov, .slice ac nc cc]] w0 fun v w' => ∃ a c, v = .slice a nc c ∧ w'.ownsRow w0.heap.size 3 1 (.slice a nc c) nc (cellsOf encI (tab nc (lim (se + ov) cl))) := by
  refine fnc (N := 31) Try.func37 rfl rfl rfl ?_
  refine WC.seq ?_
  refine WC.region ?_
  refine SL.box rfl rfl rfl (fun b1 hb1 => ?_)
  refine SL.pure rfl rfl rfl (PureOp.assign rfl) ?_
  refine SL.nil_then ?_
  refine WC.seq ?_
  refine WC.region ?_
  refine SL.addnil 3 1 ?_
  refine SL.pure rfl rfl rfl (PureOp.assign rfl) ?_
  refine SL.nil_then ?_
  refine WC.seq ?_
  refine WC.seq ?_
  refine WC.region ?_
  refine SL.pure rfl rfl rfl (PureOp.assign rfl) ?_
  refine SL.nil_then ?_
  refine WC.block ?_
  refine WC.loop (σ := Nat × Option Addr × Nat) (fun q_ => [(0, 0, .agg #[.string nm, .int .i64 se, .int .i64 ov, .slice ac nc cc]), (1, 0, .pointer (some ⟨b1, 0, none⟩)), (2, 0, .slice none 0 0), (4, 0, .int .i64 ((q_.1 : Nat) : Int)), (3, 0, .slice q_.2.1 q_.1 q_.2.2)]) (fun q_ => [Item.cells b1 [.string nm, .int .i64 se, .int .i64 ov, .slice ac nc cc] 24, Item.own w0.heap.size q_.2.1 q_.1 q_.2.2 3 1 (cellsOf encI (tab q_.1 (lim (se + ov) cl)))]) (fun q_ => q_.1 ≤ nc) (fun q_ => nc - q_.1) 2 ((0, none, 0)) (Nat.zero_le _) ⟨rfl, rfl, rfl, rfl, rfl, rfl, rfl, rfl, rfl, rfl, trivial⟩ rfl ?_
  rintro ⟨k, a, c⟩ hk
  try dsimp only at *
  refine WC.seq ?_
  refine WC.seq ?_
  refine WC.region ?_
  refine SL.pure rfl rfl rfl (PureOp.move rfl) ?_
  refine SL.pure rfl rfl rfl (PureOp.fieldAddrT 3 Try.underlying24 rfl sz22 rfl rfl) ?_
  refine SL.pure rfl rfl rfl (PureOp.load (v := .slice ac nc cc) Try.underlying22 rfl rfl (fun _ => (CellIs.cells 0 rfl rfl))) ?_
  refine SL.pure rfl rfl rfl (PureOp.len rfl Try.underlying22) ?_
  refine SL.pure rfl rfl rfl (PureOp.lss rfl rfl) ?_
  refine SL.nil_then ?_
  refine WC.cond rfl (fun h1 => ?_) (fun h1 => ?_)
  · try simp only [Bool.and_eq_true, Bool.or_eq_true, Bool.not_eq_true', Bool.not_eq_false', Bool.and_eq_false_iff, Bool.or_eq_false_iff, decide_eq_true_eq, decide_eq_false_iff_not, Int.not_lt, Int.not_le, ne_eq, Decidable.not_not] at h1
    refine WC.skip ?_
    refine QX.then_ ?_
    refine WC.seq ?_
    refine WC.block ?_
    refine WC.seq ?_
    refine WC.region ?_
    refine SL.pure rfl rfl rfl (PureOp.loads (vs := [.string nm, .int .i64 se, .int .i64 ov, .slice ac nc cc]) Try.underlying24 rfl rfl (fun _ => (RowIs.cells 0 0 4 rfl rfl)) sz24) ?_
    refine SL.calle rfl rfl rfl rfl rfl rfl callable21 (fun w hw => rauth_ok nm se ov cl ac nc cc hnc hcb w hR) ?_
    refine SL.pure rfl rfl rfl (PureOp.assign rfl) ?_
    refine SL.nil_then ?_
    refine WC.seq ?_
    refine WC.seq ?_
    refine WC.region ?_
    refine SL.pure rfl rfl rfl (PureOp.move rfl) ?_
    refine SL.pure rfl rfl rfl (PureOp.gtr rfl rfl) ?_
    refine SL.nil_then ?_
    refine WC.cond rfl (fun h2 => ?_) (fun h2 => ?_)
    · try simp only [Bool.and_eq_true, Bool.or_eq_true, Bool.not_eq_true', Bool.not_eq_false', Bool.and_eq_false_iff, Bool.or_eq_false_iff, decide_eq_true_eq, decide_eq_false_iff_not, Int.not_lt, Int.not_le, ne_eq, Decidable.not_not] at h2
      refine WC.region ?_
      refine SL.pure rfl rfl rfl (PureOp.move rfl) ?_
      refine SL.pure rfl rfl rfl (PureOp.fieldAddrT 3 Try.underlying24 rfl sz22 rfl rfl) ?_
      refine SL.pure rfl rfl rfl (PureOp.load (v := .slice ac nc cc) Try.underlying22 rfl rfl (fun _ => (CellIs.cells 0 rfl rfl))) ?_
      refine SL.pure rfl rfl rfl (PureOp.move rfl) ?_
      refine SL.pure rfl rfl rfl (PureOp.sub rfl rfl (fun _ => by (have q1 := hR.s1; have q2 := hR.o1; first | omega | (have q3 := hR.pr ((k : Int) - 1).toNat (by omega); omega) | (simp only [tab_len, cellsOf_length encI_len]; omega)))) ?_
      refine SL.pure rfl rfl rfl (PureOp.indexAddr Try.underlying22 sz47 rfl rfl (AoOk.in_ hc) (fun _ => by (have q1 := hR.s1; have q2 := hR.o1; first | omega | (have q3 := hR.pr ((k : Int) - 1).toNat (by omega); omega) | (simp only [tab_len, cellsOf_length encI_len]; omega)))) ?_
      refine SL.pure rfl rfl rfl (PureOp.fieldAddr 1 Try.underlying47 rfl rfl sz3 rfl) ?_
      refine SL.pure rfl rfl rfl (PureOp.load (v := .int .i64 ((nth cl ((((k : Nat) : Int) - 1).toNat)).2)) Try.underlying3 rfl rfl (fun _ => (CellIs.in_ hc (((k : Nat) : Int) - 1).toNat 1 (by (have q1 := hR.s1; have q2 := hR.o1; first | omega | (have q3 := hR.pr ((k : Int) - 1).toNat (by omega); omega) | (simp only [tab_len, cellsOf_length encI_len]; omega))) (by omega)))) ?_
      refine SL.pure rfl rfl rfl (PureOp.sub rfl rfl (fun _ => by (have q1 := hR.s1; have q2 := hR.o1; first | omega | (have q3 := hR.pr ((k : Int) - 1).toNat (by omega); omega) | (simp only [tab_len, cellsOf_length encI_len]; omega)))) ?_
      refine SL.pure rfl rfl rfl (PureOp.assign rfl) ?_
      refine SL.nil_then ?_
      refine WC.region ?_
      refine SL.pure rfl rfl rfl (PureOp.move rfl) ?_
      refine SL.pure rfl rfl rfl (PureOp.move rfl) ?_
      refine SL.buildSlice rfl rfl Try.underlying25 elem3 rfl rfl rfl rfl (fun b2 hb2 => ?_)
      refine SL.append 1 rfl rfl Try.underlying25 elem3 rfl rfl rfl rfl (SrcIs.own 2 rfl) (by rfl) (by (have q1 := hR.s1; have q2 := hR.o1; first | omega | (have q3 := hR.pr ((k : Int) - 1).toNat (by omega); omega) | (simp only [tab_len, cellsOf_length encI_len]; omega))) (by (have q1 := hR.s1; have q2 := hR.o1; first | omega | (have q3 := hR.pr ((k : Int) - 1).toNat (by omega); omega) | (simp only [tab_len, cellsOf_length encI_len]; omega))) (fun ao1_ cap1_ => ?_)
      refine SL.itemxs 1 rfl (show _ = cellsOf encI (tab (k + 1) (lim (se + ov) cl)) from by rw [tab_succ, cellsOf_append, cellsOf_one]; congr 2; rw [lim]; rw [if_neg (by omega), show ((k : Int) - 1).toNat = k - 1 from by omega]; rfl) ?_
      refine SL.pure rfl rfl rfl (PureOp.assign rfl) ?_
      refine SL.nil ?_
      refine QX.normal_in ?_
      refine QX.then_ ?_
      refine WC.region ?_
      refine SL.pure rfl rfl rfl (PureOp.move rfl) ?_
      refine SL.pure rfl rfl rfl (PureOp.addN (k := 1) rfl rfl (fun _ => by (have q1 := hR.s1; have q2 := hR.o1; first | omega | (have q3 := hR.pr ((k : Int) - 1).toNat (by omega); omega) | (simp only [tab_len, cellsOf_length encI_len]; omega)))) ?_
      refine SL.pure rfl rfl rfl (PureOp.assign rfl) ?_
      refine SL.nil ?_
      refine QX.round (σ := Nat × Option Addr × Nat) (Ef := fun q_ => [(0, 0, .agg #[.string nm, .int .i64 se, .int .i64 ov, .slice ac nc cc]), (1, 0, .pointer (some ⟨b1, 0, none⟩)), (2, 0, .slice none 0 0), (4, 0, .int .i64 ((q_.1 : Nat) : Int)), (3, 0, .slice q_.2.1 q_.1 q_.2.2)]) (Hf := fun q_ => [Item.cells b1 [.string nm, .int .i64 se, .int .i64 ov, .slice ac nc cc] 24, Item.own w0.heap.size q_.2.1 q_.1 q_.2.2 3 1 (cellsOf encI (tab q_.1 (lim (se + ov) cl)))]) (I := fun q_ => q_.1 ≤ nc) (μ := fun q_ => nc - q_.1) (s := (k, a, c)) 2 ((k + 1, ao1_, cap1_)) ⟨(by first | omega | (dsimp only; omega)), by first | omega | (dsimp only; omega)⟩ ⟨rfl, rfl, rfl, rfl, rfl, rfl, rfl, rfl, rfl, rfl, trivial⟩ rfl
    · try simp only [Bool.and_eq_true, Bool.or_eq_true, Bool.not_eq_true', Bool.not_eq_false', Bool.and_eq_false_iff, Bool.or_eq_false_iff, decide_eq_true_eq, decide_eq_false_iff_not, Int.not_lt, Int.not_le, ne_eq, Decidable.not_not] at h2
      refine WC.skip ?_
      refine QX.then_ ?_
      refine WC.region ?_
      refine SL.pure rfl rfl rfl (PureOp.move rfl) ?_
      refine SL.pure rfl rfl rfl (PureOp.move rfl) ?_
      refine SL.buildSlice rfl rfl Try.underlying25 elem3 rfl rfl rfl rfl (fun b3 hb3 => ?_)
      refine SL.append 1 rfl rfl Try.underlying25 elem3 rfl rfl rfl rfl (SrcIs.own 2 rfl) (by rfl) (by (have q1 := hR.s1; have q2 := hR.o1; first | omega | (have q3 := hR.pr ((k : Int) - 1).toNat (by omega); omega) | (simp only [tab_len, cellsOf_length encI_len]; omega))) (by (have q1 := hR.s1; have q2 := hR.o1; first | omega | (have q3 := hR.pr ((k : Int) - 1).toNat (by omega); omega) | (simp only [tab_len, cellsOf_length encI_len]; omega))) (fun ao2_ cap2_ => ?_)
      refine SL.itemxs 1 rfl (show _ = cellsOf encI (tab (k + 1) (lim (se + ov) cl)) from by rw [tab_succ, cellsOf_append, cellsOf_one]; congr 2; rw [lim]; rw [if_pos (by omega)]; rfl) ?_
      refine SL.pure rfl rfl rfl (PureOp.assign rfl) ?_
      refine SL.nil ?_
      refine QX.normal_in ?_
      refine QX.then_ ?_
      refine WC.region ?_
      refine SL.pure rfl rfl rfl (PureOp.move rfl) ?_
      refine SL.pure rfl rfl rfl (PureOp.addN (k := 1) rfl rfl (fun _ => by (have q1 := hR.s1; have q2 := hR.o1; first | omega | (have q3 := hR.pr ((k : Int) - 1).toNat (by omega); omega) | (simp only [tab_len, cellsOf_length encI_len]; omega)))) ?_
      refine SL.pure rfl rfl rfl (PureOp.assign rfl) ?_
      refine SL.nil ?_
      refine QX.round (σ := Nat × Option Addr × Nat) (Ef := fun q_ => [(0, 0, .agg #[.string nm, .int .i64 se, .int .i64 ov, .slice ac nc cc]), (1, 0, .pointer (some ⟨b1, 0, none⟩)), (2, 0, .slice none 0 0), (4, 0, .int .i64 ((q_.1 : Nat) : Int)), (3, 0, .slice q_.2.1 q_.1 q_.2.2)]) (Hf := fun q_ => [Item.cells b1 [.string nm, .int .i64 se, .int .i64 ov, .slice ac nc cc] 24, Item.own w0.heap.size q_.2.1 q_.1 q_.2.2 3 1 (cellsOf encI (tab q_.1 (lim (se + ov) cl)))]) (I := fun q_ => q_.1 ≤ nc) (μ := fun q_ => nc - q_.1) (s := (k, a, c)) 2 ((k + 1, ao2_, cap2_)) ⟨(by first | omega | (dsimp only; omega)), by first | omega | (dsimp only; omega)⟩ ⟨rfl, rfl, rfl, rfl, rfl, rfl, rfl, rfl, rfl, rfl, trivial⟩ rfl
  · try simp only [Bool.and_eq_true, Bool.or_eq_true, Bool.not_eq_true', Bool.not_eq_false', Bool.and_eq_false_iff, Bool.or_eq_false_iff, decide_eq_true_eq, decide_eq_false_iff_not, Int.not_lt, Int.not_le, ne_eq, Decidable.not_not] at h1
    refine WC.exit ?_
    refine QX.exit_then ?_
    refine QX.exit_then ?_
    refine QX.exit_hit ?_
    refine QX.then_ ?_
    refine WC.seq ?_
    refine WC.region ?_
    refine SL.pure rfl rfl rfl (PureOp.move rfl) ?_
    refine SL.pure rfl rfl rfl (PureOp.assign rfl) ?_
    refine SL.nil_then ?_
    refine WC.ret ?_
    refine QX.ret1 rfl rfl ?_
    intro w hw
    obtain rfl : k = nc := by omega
    exact ⟨_, _, rfl, hw.mem (i := 1) rfl⟩

end Go.Proofs.Ytblgllngkbjfgaa
