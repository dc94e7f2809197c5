import Derived.Test.YtngkbnaehkailaaRsA
namespace Go.Proofs.Ytngkbnaehkailaa
open Go Go.RowKit Eng
set_option linter.unusedVariables false
set_option linter.unusedSimpArgs false

set_option maxHeartbeats 4000000 in
set_option maxRecDepth 100000 in
theorem pvalid52_ok (w0 : World) (l : List Pa) (la : Option Addr) (m lc : Nat) (hm : m = l.length) (hI : ∀ i, i < m → SliceIn w0 2 (nth l i).2.2.ao (nth l i).2.2.l.length (nth l i).2.2.cap (rowsF enc77 (nth l i).2.2.l)) (sL : SliceIn w0 3 la m lc (rowsF enc55 l)) (c : List Int) (ca : Option Addr) (q cc : Nat) (hq : q = c.length) (sC : SliceIn w0 1 ca q cc (rowsF encI c)) (P : List (SliceV Int)) (pa : Option Addr) (u pc : Nat) (hu : u = P.length) (hJ : ∀ i, i < u → SliceIn w0 1 (nth P i).ao (nth P i).l.length (nth P i).cap (rowsF encI (nth P i).l)) (sP : SliceIn w0 1 pa u pc (rowsF encSl P)) (hPb : ∀ i, i < u → (nth P i).l.length ≤ 2000) : FnC Try.prog 27 [.slice la m lc, .slice ca q cc, .slice pa u pc] w0 fun v w' => v = .tuple #[.int .i64 (rval l c P).1, .int .i64 (rval l c P).2.1, .int .i64 (rval l c P).2.2] := by
  have hmB : (m : Int) ≤ 9223372036854775807 := by
    have h1 := sL.le; have h2 := sL.max; simp only [maxLen] at h2; omega
  refine fnc (N := 110) Try.func27 rfl rfl rfl ?_
  refine WC.seq ?_
  refine WC.region ?_
  refine SL.pure rfl rfl rfl (PureOp.assign rfl) ?_
  refine SL.pure rfl rfl rfl (PureOp.assign rfl) ?_
  refine SL.pure rfl rfl rfl (PureOp.assign rfl) ?_
  refine SL.nil_then ?_
  refine WC.seq ?_
  refine WC.seq ?_
  refine WC.region ?_
  refine SL.pure rfl rfl rfl (PureOp.move rfl) ?_
  refine SL.pure rfl rfl rfl (PureOp.move rfl) ?_
  refine SL.calle rfl rfl rfl rfl rfl rfl callable29 (fun w hw => pcheck52_ok w l la m lc hm (fun i hi => (hI i hi).below hw.below) (sL.below hw.below) c ca q cc hq (sC.below hw.below)) ?_
  refine SL.norm [] rfl ?_
  refine SL.pure rfl rfl rfl (PureOp.assign rfl) ?_
  refine SL.nil_then ?_
  refine WC.seq ?_
  refine WC.region ?_
  refine SL.pure rfl rfl rfl (PureOp.move rfl) ?_
  refine SL.pure rfl rfl rfl (PureOp.neq rfl rfl) ?_
  refine SL.nil_then ?_
  refine WC.cond rfl (fun h1 => ?_) (fun h1 => ?_)
  · try simp only [Bool.and_eq_true, Bool.or_eq_true, Bool.not_eq_true', Bool.not_eq_false', Bool.and_eq_false_iff, Bool.or_eq_false_iff, decide_eq_true_eq, decide_eq_false_iff_not, Int.not_lt, Int.not_le, ne_eq, Decidable.not_not] at h1
    refine WC.seq ?_
    refine WC.region ?_
    refine SL.pure rfl rfl rfl (PureOp.move rfl) ?_
    refine SL.pure rfl rfl rfl (PureOp.assign rfl) ?_
    refine SL.pure rfl rfl rfl (PureOp.assign rfl) ?_
    refine SL.pure rfl rfl rfl (PureOp.assign rfl) ?_
    refine SL.nil_then ?_
    refine WC.ret ?_
    refine QX.ret_then ?_
    refine QX.ret3 rfl rfl rfl rfl ?_
    intro w hw
    rw [rval, if_pos h1]
  · try simp only [Bool.and_eq_true, Bool.or_eq_true, Bool.not_eq_true', Bool.not_eq_false', Bool.and_eq_false_iff, Bool.or_eq_false_iff, decide_eq_true_eq, decide_eq_false_iff_not, Int.not_lt, Int.not_le, ne_eq, Decidable.not_not] at h1
    have hOk := PaOk.of (by assumption : rchk l c = 0)
    have hqn : q ≤ 60 := by have := hOk.nc; omega
    refine WC.skip ?_
    refine QX.then_ ?_
    refine WC.seq ?_
    refine WC.seq ?_
    refine WC.region ?_
    refine SL.pure rfl rfl rfl (PureOp.move rfl) ?_
    refine SL.pure rfl rfl rfl (PureOp.move rfl) ?_
    refine SL.calle rfl rfl rfl rfl rfl rfl callable48 (fun w hw => pshaped_ok w l la m lc hm (fun i hi => (hI i hi).below hw.below) (sL.below hw.below) P pa u pc hu (fun i hi => (hJ i hi).below hw.below) (sP.below hw.below)) ?_
    refine SL.norm [] rfl ?_
    refine SL.pure rfl rfl rfl (PureOp.not rfl) ?_
    refine SL.nil_then ?_
    refine WC.cond rfl (fun h2 => ?_) (fun h2 => ?_)
    · try simp only [Bool.and_eq_true, Bool.or_eq_true, Bool.not_eq_true', Bool.not_eq_false', Bool.and_eq_false_iff, Bool.or_eq_false_iff, decide_eq_true_eq, decide_eq_false_iff_not, Int.not_lt, Int.not_le, ne_eq, Decidable.not_not] at h2
      refine WC.seq ?_
      refine WC.region ?_
      refine SL.pure rfl rfl rfl (PureOp.assign rfl) ?_
      refine SL.pure rfl rfl rfl (PureOp.assign rfl) ?_
      refine SL.pure rfl rfl rfl (PureOp.assign rfl) ?_
      refine SL.nil_then ?_
      refine WC.ret ?_
      refine QX.ret_then ?_
      refine QX.ret3 rfl rfl rfl rfl ?_
      intro w hw
      rw [rval, if_neg (by simp [h1]), if_pos h2]
    · try simp only [Bool.and_eq_true, Bool.or_eq_true, Bool.not_eq_true', Bool.not_eq_false', Bool.and_eq_false_iff, Bool.or_eq_false_iff, decide_eq_true_eq, decide_eq_false_iff_not, Int.not_lt, Int.not_le, ne_eq, Decidable.not_not] at h2
      have hSh := shp_ok (by assumption : shpB l P = true)
      refine WC.skip ?_
      refine QX.then_ ?_
      refine WC.seq ?_
      refine WC.region ?_
      refine SL.pure rfl rfl rfl (PureOp.move rfl) ?_
      refine SL.pure rfl rfl rfl (PureOp.len rfl Try.underlying29) ?_
      refine SL.make rfl rfl Try.underlying29 elem3 rfl rfl (by omega) (by omega) (fun b1 hb1 => ?_)
      refine SL.itemxs 0 rfl (show _ = cellsOf encI (useO q l P 0) from by rw [rep_int]; rfl) ?_
      refine SL.norm [_] rfl ?_
      refine SL.pure rfl rfl rfl (PureOp.assign rfl) ?_
      refine SL.nil_then ?_
      refine WC.seq ?_
      refine WC.region ?_
      refine SL.pure rfl rfl rfl (PureOp.assign rfl) ?_
      refine SL.pure rfl rfl rfl (PureOp.assign rfl) ?_
      refine SL.pure rfl rfl rfl (PureOp.assign rfl) ?_
      refine SL.nil_then ?_
      refine WC.seq ?_
      refine WC.seq ?_
      refine WC.region ?_
      refine SL.pure rfl rfl rfl (PureOp.move rfl) ?_
      refine SL.pure rfl rfl rfl (PureOp.len rfl Try.underlying43) ?_
      refine SL.pure rfl rfl rfl (PureOp.move rfl) ?_
      refine SL.nil_then ?_
      refine WC.block ?_
      refine WC.loop (σ := Nat) (fun q_ => [(0, 0, .slice la m lc), (1, 0, .slice ca q cc), (2, 0, .slice pa u pc), (6, 0, .int .i64 0), (7, 0, .int .i64 0), (8, 0, .int .i64 0), (9, 0, .int .i64 (rchk l c)), (10, 0, .slice (some ⟨b1, 0, none⟩) q q), (22, 0, .slice la m lc), (23, 0, .slice ca q cc), (24, 0, .int .i64 (rchk l c)), (25, 0, .int .i64 (rchk l c)), (26, 0, .bool (decide (rchk l c ≠ 0))), (28, 0, .slice la m lc), (29, 0, .slice pa u pc), (30, 0, .bool (shpB l P)), (31, 0, .bool (!(shpB l P))), (32, 0, .slice ca q cc), (33, 0, .int .i64 ((q : Nat) : Int)), (34, 0, .slice (some ⟨b1, 0, none⟩) q q), (35, 0, .slice la m lc), (36, 0, .int .i64 ((m : Nat) : Int)), (37, 0, .int .i64 ((q_ : Nat) : Int)), (11, 0, .int .i64 (sumO l P q_)), (12, 0, .int .i64 (dlyO l P q_)), (13, 0, .bool (crwO l P q_))]) (fun q_ => [Item.own w0.heap.size (some ⟨b1, 0, none⟩) q q 3 1 (cellsOf encI (useO q l P q_))]) (fun q_ => q_ ≤ m) (fun q_ => m - q_) 1 (0) (Nat.zero_le _) ⟨rfl, rfl, rfl, rfl, rfl, rfl, rfl, rfl, rfl, rfl, rfl, rfl, rfl, rfl, rfl, rfl, rfl, rfl, rfl, rfl, rfl, rfl, rfl, rfl, rfl, rfl, rfl, rfl, rfl, rfl, rfl, rfl, rfl, rfl, rfl, rfl, rfl, rfl, rfl, rfl, rfl, rfl, rfl, rfl, rfl, rfl, rfl, rfl, rfl, rfl, rfl, rfl, trivial⟩ rfl ?_
      rintro i hi
      refine WC.seq ?_
      refine WC.region ?_
      refine SL.pure rfl rfl rfl (PureOp.lss rfl rfl) ?_
      refine SL.nil_then ?_
      refine WC.seq ?_
      refine WC.cond rfl (fun h3 => ?_) (fun h3 => ?_)
      · try simp only [Bool.and_eq_true, Bool.or_eq_true, Bool.not_eq_true', Bool.not_eq_false', Bool.and_eq_false_iff, Bool.or_eq_false_iff, decide_eq_true_eq, decide_eq_false_iff_not, Int.not_lt, Int.not_le, ne_eq, Decidable.not_not] at h3
        have hc1 := hOk.cnt i (by omega)
        have hwt := hOk.wt i (by omega)
        have hPi := hPb i (by omega)
        have hSi := hSh.2 i (by omega)
        have hall : ∀ k, k < i → (1 ≤ (nth l k).1 ∧ (nth l k).1 ≤ 99) ∧ (0 ≤ (nth l k).2.1 ∧ (nth l k).2.1 ≤ 1000) ∧ (∀ j, j < (nth l k).2.2.l.length → 0 ≤ nth (nth P k).l j) ∧ (∀ j, j < (nth l k).2.2.l.length → 0 ≤ (nth (nth l k).2.2.l j).2 ∧ (nth (nth l k).2.2.l j).2 ≤ 10000) ∧ ((nth l k).2.2.l.length : Int) ≤ 2000 := fun k hk => ⟨hOk.cnt k (by omega), hOk.wt k (by omega), fun j hj => (hSh.2 k (by omega)).2 j (by have := (hSh.2 k (by omega)).1; omega), fun j hj => (hOk.way k (by omega) j hj).2, by have := (hSh.2 k (by omega)).1; have := hPb k (by omega); omega⟩
        have hsO := sumO_bd (b := 2000) (by omega) i (fun k hk => ⟨(hall k hk).1, (hall k hk).2.2.1, (hall k hk).2.2.2.2⟩)
        have hdO := dlyO_bd (b := 2000) (by omega) i hall
        have huO := useO_bd (n := q) (b := 2000) (by omega) i (fun k hk => ⟨(hall k hk).1, (hall k hk).2.2.1, fun j hj => by have := (hOk.way k (by omega) j hj).1; omega, (hall k hk).2.2.2.2⟩)
        have hRe := sumR_eq (l := l) (P := P) i
        have hmi : (i : Int) * (2000 * 100) ≤ 12000000 := by have := hOk.nl; omega
        refine WC.skip ?_
        refine QX.then_ ?_
        refine WC.seq ?_
        refine WC.block ?_
        refine WC.seq ?_
        refine WC.region ?_
        refine SL.pure rfl rfl rfl (PureOp.move rfl) ?_
        refine SL.pure rfl rfl rfl (PureOp.indexAddrN Try.underlying43 sz55 rfl rfl (AoOk.in_ sL) (fun _ => by omega)) ?_
        refine SL.pure rfl rfl rfl (PureOp.loads (vs := [.int .i64 ((nth l i).1), .int .i64 ((nth l i).2.1), .slice ((nth l i).2.2.ao) ((nth l i).2.2.l.length) ((nth l i).2.2.cap)]) Try.underlying55 rfl rfl (fun _ => (RowIs.in_ sL i 0 3 (by omega) (by omega))) sz55) ?_
        refine SL.alloc rfl rfl zero55 (fun b2 hb2 => ?_)
        refine SL.norm [_, _] rfl ?_
        refine SL.pure rfl rfl rfl (PureOp.assign rfl) ?_
        refine SL.store 1 rfl rfl rfl rfl sz55 rfl rfl ?_
        refine SL.norm [_, _] rfl ?_
        refine SL.nil_then ?_
        refine WC.seq ?_
        refine WC.region ?_
        refine SL.pure rfl rfl rfl (PureOp.assign rfl) ?_
        refine SL.nil_then ?_
        refine WC.seq ?_
        refine WC.seq ?_
        refine WC.region ?_
        refine SL.pure rfl rfl rfl (PureOp.fieldAddrT 2 Try.underlying55 rfl sz53 rfl rfl) ?_
        refine SL.pure rfl rfl rfl (PureOp.load (v := .slice ((nth l i).2.2.ao) ((nth l i).2.2.l.length) ((nth l i).2.2.cap)) Try.underlying53 rfl rfl (fun _ => (CellIs.cells 1 rfl rfl))) ?_
        refine SL.pure rfl rfl rfl (PureOp.len rfl Try.underlying53) ?_
        refine SL.pure rfl rfl rfl (PureOp.move rfl) ?_
        refine SL.nil_then ?_
        refine WC.block ?_
        refine WC.loop (σ := Nat) (fun q_ => [(0, 0, .slice la m lc), (1, 0, .slice ca q cc), (2, 0, .slice pa u pc), (6, 0, .int .i64 0), (7, 0, .int .i64 0), (8, 0, .int .i64 0), (9, 0, .int .i64 (rchk l c)), (10, 0, .slice (some ⟨b1, 0, none⟩) q q), (11, 0, .int .i64 (sumO l P i)), (13, 0, .bool (crwO l P i)), (14, 0, .int .i64 ((i : Nat) : Int)), (15, 0, .pointer (some ⟨b2, 0, none⟩)), (22, 0, .slice la m lc), (23, 0, .slice ca q cc), (24, 0, .int .i64 (rchk l c)), (25, 0, .int .i64 (rchk l c)), (26, 0, .bool (decide (rchk l c ≠ 0))), (28, 0, .slice la m lc), (29, 0, .slice pa u pc), (30, 0, .bool (shpB l P)), (31, 0, .bool (!(shpB l P))), (32, 0, .slice ca q cc), (33, 0, .int .i64 ((q : Nat) : Int)), (34, 0, .slice (some ⟨b1, 0, none⟩) q q), (35, 0, .slice la m lc), (36, 0, .int .i64 ((m : Nat) : Int)), (37, 0, .int .i64 ((i : Nat) : Int)), (38, 0, .bool (decide (((i : Nat) : Int) < ((m : Nat) : Int)))), (39, 0, .int .i64 ((i : Nat) : Int)), (40, 0, .pointer (some ⟨blk la, off la + i * 3, none⟩)), (41, 0, .agg #[.int .i64 ((nth l i).1), .int .i64 ((nth l i).2.1), .slice ((nth l i).2.2.ao) ((nth l i).2.2.l.length) ((nth l i).2.2.cap)]), (42, 0, .pointer (some ⟨b2, 2, none⟩)), (43, 0, .slice ((nth l i).2.2.ao) ((nth l i).2.2.l.length) ((nth l i).2.2.cap)), (44, 0, .int .i64 (((nth l i).2.2.l.length : Nat) : Int)), (45, 0, .int .i64 ((q_ : Nat) : Int)), (16, 0, .int .i64 (sumIn (nth l i) (nth P i).l q_)), (12, 0, .int .i64 (dlyIn (nth l i) (nth P i).l (dlyO l P i) q_))]) (fun q_ => [Item.own w0.heap.size (some ⟨b1, 0, none⟩) q q 3 1 (cellsOf encI (useIn (nth l i) (nth P i).l (useO q l P i) q_)), Item.cells b2 [.int .i64 ((nth l i).1), .int .i64 ((nth l i).2.1), .slice ((nth l i).2.2.ao) ((nth l i).2.2.l.length) ((nth l i).2.2.cap)] 55]) (fun q_ => q_ ≤ (nth l i).2.2.l.length) (fun q_ => (nth l i).2.2.l.length - q_) 2 (0) (Nat.zero_le _) ⟨rfl, rfl, rfl, rfl, rfl, rfl, rfl, rfl, rfl, rfl, rfl, rfl, rfl, rfl, rfl, rfl, rfl, rfl, rfl, rfl, rfl, rfl, rfl, rfl, rfl, rfl, rfl, rfl, rfl, rfl, rfl, rfl, rfl, rfl, rfl, rfl, rfl, rfl, rfl, rfl, rfl, rfl, rfl, rfl, rfl, rfl, rfl, rfl, rfl, rfl, rfl, rfl, rfl, rfl, rfl, rfl, rfl, rfl, rfl, rfl, rfl, rfl, rfl, rfl, rfl, rfl, rfl, rfl, rfl, rfl, rfl, rfl, rfl, rfl, trivial⟩ rfl ?_
        rintro j hj
        refine WC.seq ?_
        refine WC.region ?_
        refine SL.pure rfl rfl rfl (PureOp.lss rfl rfl) ?_
        refine SL.nil_then ?_
        refine WC.seq ?_
        refine WC.cond rfl (fun h4 => ?_) (fun h4 => ?_)
        · try simp only [Bool.and_eq_true, Bool.or_eq_true, Bool.not_eq_true', Bool.not_eq_false', Bool.and_eq_false_iff, Bool.or_eq_false_iff, decide_eq_true_eq, decide_eq_false_iff_not, Int.not_lt, Int.not_le, ne_eq, Decidable.not_not] at h4
          have hway := hOk.way i (by omega) j (by omega)
          have hpj := hSi.2 j (by omega)
          have hpn := pn_bd (x := nth l i) (p := (nth P i).l) (j := j) hc1 hpj
          have hsI := sumIn_bd (x := nth l i) (p := (nth P i).l) hc1 j (fun t ht => hSi.2 t (by omega))
          have hdI := dlyIn_bd (x := nth l i) (p := (nth P i).l) hc1 hwt hdO.1 j (fun t ht => hSi.2 t (by omega)) (fun t ht => (hOk.way i (by omega) t (by omega)).2)
          have huI := useIn_bd (x := nth l i) (p := (nth P i).l) (u := useO q l P i) (B := (i : Int) * (2000 * 100)) hc1 (fun t ht => huO t (by rw [useO_len] at ht; exact ht)) j (fun t ht => hSi.2 t (by omega)) (fun t ht => by rw [useO_len]; have := (hOk.way i (by omega) t (by omega)).1; omega) (nth (nth l i).2.2.l j).1.toNat (by rw [useO_len]; omega)
          have hAe := sumA_eq (x := nth l i) (p := (nth P i).l) (d := sumR l P i) j
          have hm1 := mul_bd hpn.1 hpn.2 hwt.1 hwt.2
          have hm2 := mul_bd hm1.1 hm1.2 hway.2.1 hway.2.2
          have hpe : pn (nth l i) (nth P i).l j = min (nth (nth P i).l j) ((nth l i).1 + 1) := rfl
          rw [hpe] at hpn hm1 hm2
          refine WC.skip ?_
          refine QX.then_ ?_
          refine WC.seq ?_
          refine WC.block ?_
          refine WC.seq ?_
          refine WC.region ?_
          refine SL.pure rfl rfl rfl (PureOp.move rfl) ?_
          refine SL.pure rfl rfl rfl (PureOp.indexAddrN Try.underlying53 sz77 rfl rfl (AoOk.any (fun w hw => (hI i (by omega)).below hw.below)) (fun _ => by omega)) ?_
          refine SL.pure rfl rfl rfl (PureOp.loads (vs := [.int .i64 ((nth ((nth l i).2.2.l) j).1), .int .i64 ((nth ((nth l i).2.2.l) j).2)]) Try.underlying77 rfl rfl (fun _ => (RowIs.any (fun w hw => (hI i (by omega)).below hw.below) j 0 2 (by omega) (by omega))) sz77) ?_
          refine SL.alloc rfl rfl zero77 (fun b3 hb3 => ?_)
          refine SL.norm [_, _, _] rfl ?_
          refine SL.pure rfl rfl rfl (PureOp.assign rfl) ?_
          refine SL.store 2 rfl rfl rfl rfl sz77 rfl rfl ?_
          refine SL.norm [_, _, _] rfl ?_
          refine SL.nil_then ?_
          refine WC.seq ?_
          refine WC.quiet rfl (by kernel_rfl) ?_
          refine SQ.pure rfl rfl rfl (PureOp.move rfl) ?_
          refine SQ.pure rfl rfl rfl (PureOp.move rfl) ?_
          refine SQ.pure rfl rfl rfl (PureOp.indexAddrN Try.underlying44 sz29 rfl rfl (AoOk.in_ sP) (fun _ => by omega)) ?_
          refine SQ.pure rfl rfl rfl (PureOp.load (v := .slice ((nth P i).ao) ((nth P i).l.length) ((nth P i).cap)) Try.underlying29 rfl rfl (fun _ => (CellIs.in_ sP i 0 (by omega) (by omega)))) ?_
          refine SQ.pure rfl rfl rfl (PureOp.move rfl) ?_
          refine SQ.pure rfl rfl rfl (PureOp.indexAddrN Try.underlying29 sz3 rfl rfl (AoOk.any (fun w hw => (hJ i (by omega)).below hw.below)) (fun _ => by omega)) ?_
          refine SQ.pure rfl rfl rfl (PureOp.load (v := .int .i64 (nth ((nth P i).l) j)) Try.underlying3 rfl rfl (fun _ => (CellIs.any (fun w hw => (hJ i (by omega)).below hw.below) j 0 (by omega) (by omega)))) ?_
          refine SQ.pure rfl rfl rfl (PureOp.fieldAddrT 0 Try.underlying55 rfl sz3 rfl rfl) ?_
          refine SQ.pure rfl rfl rfl (PureOp.load (v := .int .i64 ((nth l i).1)) Try.underlying3 rfl rfl (fun _ => (CellIs.cells 1 rfl rfl))) ?_
          refine SQ.pure rfl rfl rfl (PureOp.add rfl rfl (fun _ => by omega)) ?_
          refine SQ.pure rfl rfl rfl (PureOp.min_ rfl rfl) ?_
          refine SQ.pure rfl rfl rfl (PureOp.assign rfl) ?_
          refine SQ.nil_then ?_
          refine WC.seq ?_
          refine WC.region ?_
          refine SL.pure rfl rfl rfl (PureOp.move rfl) ?_
          refine SL.pure rfl rfl rfl (PureOp.move rfl) ?_
          refine SL.pure rfl rfl rfl (PureOp.add rfl rfl (fun _ => by omega)) ?_
          refine SL.pure rfl rfl rfl (PureOp.assign rfl) ?_
          refine SL.nil_then ?_
          refine WC.seq ?_
          refine WC.region ?_
          refine SL.pure rfl rfl rfl (PureOp.move rfl) ?_
          refine SL.pure rfl rfl rfl (PureOp.fieldAddrT 0 Try.underlying77 rfl sz3 rfl rfl) ?_
          refine SL.pure rfl rfl rfl (PureOp.load (v := .int .i64 ((nth ((nth l i).2.2.l) j).1)) Try.underlying3 rfl rfl (fun _ => (CellIs.cells 2 rfl rfl))) ?_
          refine SL.pure rfl rfl rfl (PureOp.indexAddr Try.underlying29 sz3 rfl rfl AoOk.lit (fun _ => by omega)) ?_
          refine SL.pure rfl rfl rfl (PureOp.load (v := .int .i64 (nth (useIn (nth l i) (nth P i).l (useO q l P i) j) (nth (nth l i).2.2.l j).1.toNat)) Try.underlying3 rfl rfl (fun _ => (CellIs.ownc 0 rfl (((nth ((nth l i).2.2.l) j).1).toNat) 0 (by first | exact encI_get (by rw [useO_len]; omega) | exact encI_get (by rw [useIn_len, useO_len]; omega))))) ?_
          refine SL.pure rfl rfl rfl (PureOp.move rfl) ?_
          refine SL.pure rfl rfl rfl (PureOp.add rfl rfl (fun _ => by omega)) ?_
          refine SL.pure rfl rfl rfl (PureOp.indexAddr Try.underlying29 sz3 rfl rfl AoOk.lit (fun _ => by omega)) ?_
          refine SL.storeown (k := (((nth ((nth l i).2.2.l) j).1).toNat)) (j := 0) 0 rfl rfl rfl rfl sz3 (by rw [cellsOf_length encI_len, useIn_len, useO_len]; omega) rfl ?_
          refine SL.itemxs 0 rfl (show _ = cellsOf encI (useIn (nth l i) (nth P i).l (useO q l P i) (j + 1)) from encI_set (by rw [useIn_len, useO_len]; omega)) ?_
          refine SL.norm [_, _, _] rfl ?_
          refine SL.nil_then ?_
          refine WC.region ?_
          refine SL.pure rfl rfl rfl (PureOp.move rfl) ?_
          refine SL.pure rfl rfl rfl (PureOp.move rfl) ?_
          refine SL.pure rfl rfl rfl (PureOp.fieldAddrT 1 Try.underlying55 rfl sz3 rfl rfl) ?_
          refine SL.pure rfl rfl rfl (PureOp.load (v := .int .i64 ((nth l i).2.1)) Try.underlying3 rfl rfl (fun _ => (CellIs.cells 1 rfl rfl))) ?_
          refine SL.pure rfl rfl rfl (PureOp.mul rfl rfl (fun _ => by omega)) ?_
          refine SL.pure rfl rfl rfl (PureOp.fieldAddrT 1 Try.underlying77 rfl sz3 rfl rfl) ?_
          refine SL.pure rfl rfl rfl (PureOp.load (v := .int .i64 ((nth ((nth l i).2.2.l) j).2)) Try.underlying3 rfl rfl (fun _ => (CellIs.cells 2 rfl rfl))) ?_
          refine SL.pure rfl rfl rfl (PureOp.mul rfl rfl (fun _ => by omega)) ?_
          refine SL.pure rfl rfl rfl (PureOp.add rfl rfl (fun _ => by omega)) ?_
          refine SL.pure rfl rfl rfl (PureOp.assign rfl) ?_
          refine SL.nil ?_
          refine QX.normal_in ?_
          refine QX.then_ ?_
          refine WC.region ?_
          refine SL.pure rfl rfl rfl (PureOp.addN (k := 1) rfl rfl (fun _ => by omega)) ?_
          refine SL.pure rfl rfl rfl (PureOp.move rfl) ?_
          refine SL.nil ?_
          refine QX.round 2 (j + 1) ⟨(by first | omega | (dsimp only; omega)), by first | omega | (dsimp only; omega)⟩ ⟨rfl, rfl, rfl, rfl, rfl, rfl, rfl, rfl, rfl, rfl, rfl, rfl, rfl, rfl, rfl, rfl, rfl, rfl, rfl, rfl, rfl, rfl, rfl, rfl, rfl, rfl, rfl, rfl, rfl, rfl, rfl, rfl, rfl, rfl, rfl, rfl, rfl, rfl, rfl, rfl, rfl, rfl, rfl, rfl, rfl, rfl, rfl, rfl, rfl, rfl, rfl, rfl, rfl, rfl, rfl, rfl, rfl, rfl, rfl, rfl, rfl, rfl, rfl, rfl, rfl, rfl, rfl, rfl, rfl, rfl, rfl, rfl, rfl, rfl, trivial⟩ rfl
        · try simp only [Bool.and_eq_true, Bool.or_eq_true, Bool.not_eq_true', Bool.not_eq_false', Bool.and_eq_false_iff, Bool.or_eq_false_iff, decide_eq_true_eq, decide_eq_false_iff_not, Int.not_lt, Int.not_le, ne_eq, Decidable.not_not] at h4
          have e_ : j = (nth l i).2.2.l.length := by omega
          subst e_
          have hsI := sumIn_bd (x := nth l i) (p := (nth P i).l) hc1 (nth l i).2.2.l.length (fun t ht => hSi.2 t (by omega))
          refine WC.exit ?_
          refine QX.exit_then ?_
          refine QX.exit_then ?_
          refine QX.exit_hit ?_
          refine QX.then_ ?_
          refine WC.seq ?_
          refine WC.region ?_
          refine SL.pure rfl rfl rfl (PureOp.move rfl) ?_
          refine SL.pure rfl rfl rfl (PureOp.move rfl) ?_
          refine SL.newg 83 false rfl ?_
          refine SL.gpure (c := 1) rfl rfl rfl rfl rfl rfl rfl (PureOp.move rfl) ?_
          refine SL.gpure (c := 1) rfl rfl rfl rfl rfl rfl rfl (PureOp.fieldAddrT 0 Try.underlying55 rfl sz3 rfl rfl) ?_
          refine SL.gpure (c := 1) rfl rfl rfl rfl rfl rfl rfl (PureOp.load (v := .int .i64 ((nth l i).1)) Try.underlying3 rfl rfl (fun _ => (CellIs.cells 1 rfl rfl))) ?_
          refine SL.gpure (c := 1) rfl rfl rfl rfl rfl rfl rfl (PureOp.gtr rfl rfl) ?_
          refine SL.pure rfl rfl rfl (PureOp.or_ rfl rfl rfl rfl) ?_
          refine SL.pure rfl rfl rfl (PureOp.assign rfl) ?_
          refine SL.nil_then ?_
          refine WC.region ?_
          refine SL.pure rfl rfl rfl (PureOp.move rfl) ?_
          refine SL.pure rfl rfl rfl (PureOp.move rfl) ?_
          refine SL.pure rfl rfl rfl (PureOp.add rfl rfl (fun _ => by omega)) ?_
          refine SL.pure rfl rfl rfl (PureOp.assign rfl) ?_
          refine SL.nil ?_
          refine QX.normal_in ?_
          refine QX.then_ ?_
          refine WC.region ?_
          refine SL.pure rfl rfl rfl (PureOp.addN (k := 1) rfl rfl (fun _ => by omega)) ?_
          refine SL.pure rfl rfl rfl (PureOp.move rfl) ?_
          refine SL.nil ?_
          refine QX.round 1 (i + 1) ⟨(by first | omega | (dsimp only; omega)), by first | omega | (dsimp only; omega)⟩ ⟨rfl, rfl, rfl, rfl, rfl, rfl, rfl, rfl, rfl, rfl, rfl, rfl, rfl, rfl, rfl, rfl, rfl, rfl, rfl, rfl, rfl, rfl, rfl, rfl, rfl, rfl, rfl, rfl, rfl, rfl, rfl, rfl, rfl, rfl, rfl, rfl, rfl, rfl, rfl, rfl, rfl, rfl, rfl, rfl, rfl, rfl, rfl, rfl, rfl, rfl, rfl, rfl, trivial⟩ rfl
      · try simp only [Bool.and_eq_true, Bool.or_eq_true, Bool.not_eq_true', Bool.not_eq_false', Bool.and_eq_false_iff, Bool.or_eq_false_iff, decide_eq_true_eq, decide_eq_false_iff_not, Int.not_lt, Int.not_le, ne_eq, Decidable.not_not] at h3
        have e_ : i = l.length := by omega
        subst e_
        refine WC.exit ?_
        refine QX.exit_then ?_
        refine QX.exit_then ?_
        refine QX.exit_hit ?_
        refine QX.then_ ?_
        refine WC.seq ?_
        refine WC.seq ?_
        refine WC.region ?_
        refine SL.pure rfl rfl rfl (PureOp.move rfl) ?_
        refine SL.nil_then ?_
        refine WC.cond rfl (fun h5 => ?_) (fun h5 => ?_)
        · try simp only [Bool.and_eq_true, Bool.or_eq_true, Bool.not_eq_true', Bool.not_eq_false', Bool.and_eq_false_iff, Bool.or_eq_false_iff, decide_eq_true_eq, decide_eq_false_iff_not, Int.not_lt, Int.not_le, ne_eq, Decidable.not_not] at h5
          refine WC.seq ?_
          refine WC.region ?_
          refine SL.pure rfl rfl rfl (PureOp.assign rfl) ?_
          refine SL.pure rfl rfl rfl (PureOp.assign rfl) ?_
          refine SL.pure rfl rfl rfl (PureOp.assign rfl) ?_
          refine SL.nil_then ?_
          refine WC.ret ?_
          refine QX.ret_then ?_
          refine QX.ret3 rfl rfl rfl rfl ?_
          intro w hw
          rw [rval, if_neg (by simp [h1]), if_neg (by simp [h2]), if_pos h5]
        · try simp only [Bool.and_eq_true, Bool.or_eq_true, Bool.not_eq_true', Bool.not_eq_false', Bool.and_eq_false_iff, Bool.or_eq_false_iff, decide_eq_true_eq, decide_eq_false_iff_not, Int.not_lt, Int.not_le, ne_eq, Decidable.not_not] at h5
          refine WC.skip ?_
          refine QX.then_ ?_
          refine WC.seq ?_
          refine WC.seq ?_
          refine WC.region ?_
          refine SL.pure rfl rfl rfl (PureOp.move rfl) ?_
          refine SL.pure rfl rfl rfl (PureOp.len rfl Try.underlying29) ?_
          refine SL.pure rfl rfl rfl (PureOp.move rfl) ?_
          refine SL.nil_then ?_
          refine WC.block ?_
          refine WC.loop (σ := Nat) (fun q_ => [(0, 0, .slice la m lc), (1, 0, .slice ca q cc), (2, 0, .slice pa u pc), (9, 0, .int .i64 (rchk l c)), (10, 0, .slice (some ⟨b1, 0, none⟩) q q), (11, 0, .int .i64 (sumO l P l.length)), (12, 0, .int .i64 (dlyO l P l.length)), (13, 0, .bool (crwO l P l.length)), (22, 0, .slice la m lc), (23, 0, .slice ca q cc), (24, 0, .int .i64 (rchk l c)), (25, 0, .int .i64 (rchk l c)), (26, 0, .bool (decide (rchk l c ≠ 0))), (28, 0, .slice la m lc), (29, 0, .slice pa u pc), (30, 0, .bool (shpB l P)), (31, 0, .bool (!(shpB l P))), (32, 0, .slice ca q cc), (33, 0, .int .i64 ((q : Nat) : Int)), (34, 0, .slice (some ⟨b1, 0, none⟩) q q), (35, 0, .slice la m lc), (36, 0, .int .i64 ((m : Nat) : Int)), (37, 0, .int .i64 ((l.length : Nat) : Int)), (38, 0, .bool (decide (((l.length : Nat) : Int) < ((m : Nat) : Int)))), (93, 0, .bool (crwO l P l.length)), (94, 0, .slice (some ⟨b1, 0, none⟩) q q), (95, 0, .int .i64 ((q : Nat) : Int)), (96, 0, .int .i64 ((q_ : Nat) : Int))]) (fun q_ => [Item.own w0.heap.size (some ⟨b1, 0, none⟩) q q 3 1 (cellsOf encI (useO q l P l.length))]) (fun q_ => q_ ≤ q ∧ allK (fitB c (useO q l P l.length)) q_ = true) (fun q_ => q - q_) 1 (0) (⟨Nat.zero_le _, rfl⟩) ⟨rfl, rfl, rfl, rfl, rfl, rfl, rfl, rfl, rfl, rfl, rfl, rfl, rfl, rfl, rfl, rfl, rfl, rfl, rfl, rfl, rfl, rfl, rfl, rfl, rfl, rfl, rfl, rfl, rfl, rfl, rfl, rfl, rfl, rfl, rfl, rfl, rfl, rfl, rfl, rfl, rfl, rfl, rfl, rfl, rfl, rfl, rfl, rfl, rfl, rfl, rfl, rfl, rfl, rfl, rfl, rfl, trivial⟩ rfl ?_
          rintro k ⟨hk, hz⟩
          refine WC.seq ?_
          refine WC.region ?_
          refine SL.pure rfl rfl rfl (PureOp.lss rfl rfl) ?_
          refine SL.nil_then ?_
          refine WC.seq ?_
          refine WC.cond rfl (fun h6 => ?_) (fun h6 => ?_)
          · try simp only [Bool.and_eq_true, Bool.or_eq_true, Bool.not_eq_true', Bool.not_eq_false', Bool.and_eq_false_iff, Bool.or_eq_false_iff, decide_eq_true_eq, decide_eq_false_iff_not, Int.not_lt, Int.not_le, ne_eq, Decidable.not_not] at h6
            refine WC.skip ?_
            refine QX.then_ ?_
            refine WC.seq ?_
            refine WC.block ?_
            refine WC.seq ?_
            refine WC.region ?_
            refine SL.pure rfl rfl rfl (PureOp.move rfl) ?_
            refine SL.pure rfl rfl rfl (PureOp.indexAddrN Try.underlying29 sz3 rfl rfl AoOk.lit (fun _ => by omega)) ?_
            refine SL.pure rfl rfl rfl (PureOp.load (v := .int .i64 (nth (useO q l P l.length) k)) Try.underlying3 rfl rfl (fun _ => (CellIs.ownc 0 rfl k 0 (by first | exact encI_get (by rw [useO_len]; omega) | exact encI_get (by rw [useIn_len, useO_len]; omega))))) ?_
            refine SL.pure rfl rfl rfl (PureOp.assign rfl) ?_
            refine SL.pure rfl rfl rfl (PureOp.assign rfl) ?_
            refine SL.nil_then ?_
            refine WC.seq ?_
            refine WC.region ?_
            refine SL.pure rfl rfl rfl (PureOp.move rfl) ?_
            refine SL.pure rfl rfl rfl (PureOp.move rfl) ?_
            refine SL.pure rfl rfl rfl (PureOp.move rfl) ?_
            refine SL.pure rfl rfl rfl (PureOp.indexAddrN Try.underlying29 sz3 rfl rfl (AoOk.in_ sC) (fun _ => by omega)) ?_
            refine SL.pure rfl rfl rfl (PureOp.load (v := .int .i64 (nth c k)) Try.underlying3 rfl rfl (fun _ => (CellIs.in_ sC k 0 (by omega) (by omega)))) ?_
            refine SL.pure rfl rfl rfl (PureOp.gtr rfl rfl) ?_
            refine SL.nil_then ?_
            refine WC.cond rfl (fun h7 => ?_) (fun h7 => ?_)
            · try simp only [Bool.and_eq_true, Bool.or_eq_true, Bool.not_eq_true', Bool.not_eq_false', Bool.and_eq_false_iff, Bool.or_eq_false_iff, decide_eq_true_eq, decide_eq_false_iff_not, Int.not_lt, Int.not_le, ne_eq, Decidable.not_not] at h7
              refine WC.seq ?_
              refine WC.region ?_
              refine SL.pure rfl rfl rfl (PureOp.assign rfl) ?_
              refine SL.pure rfl rfl rfl (PureOp.assign rfl) ?_
              refine SL.pure rfl rfl rfl (PureOp.assign rfl) ?_
              refine SL.nil_then ?_
              refine WC.ret ?_
              refine QX.ret_in ?_
              refine QX.ret_then ?_
              refine QX.ret_then ?_
              refine QX.ret_in ?_
              refine QX.ret_then ?_
              refine QX.ret3 rfl rfl rfl rfl ?_
              intro w hw
              rw [rval, ← hq, if_neg (by simp [h1]), if_neg (by simp [h2]), if_neg (by simp [h5]), if_pos (allK_not (k := k) (by omega) (decide_eq_false (by omega)))]
            · try simp only [Bool.and_eq_true, Bool.or_eq_true, Bool.not_eq_true', Bool.not_eq_false', Bool.and_eq_false_iff, Bool.or_eq_false_iff, decide_eq_true_eq, decide_eq_false_iff_not, Int.not_lt, Int.not_le, ne_eq, Decidable.not_not] at h7
              refine WC.skip ?_
              refine QX.normal_in ?_
              refine QX.then_ ?_
              refine WC.region ?_
              refine SL.pure rfl rfl rfl (PureOp.addN (k := 1) rfl rfl (fun _ => by omega)) ?_
              refine SL.pure rfl rfl rfl (PureOp.move rfl) ?_
              refine SL.nil ?_
              refine QX.round 1 (k + 1) ⟨⟨(by first | omega | (dsimp only; omega)), allK_next hz (decide_eq_true (by omega))⟩, by first | omega | (dsimp only; omega)⟩ ⟨rfl, rfl, rfl, rfl, rfl, rfl, rfl, rfl, rfl, rfl, rfl, rfl, rfl, rfl, rfl, rfl, rfl, rfl, rfl, rfl, rfl, rfl, rfl, rfl, rfl, rfl, rfl, rfl, rfl, rfl, rfl, rfl, rfl, rfl, rfl, rfl, rfl, rfl, rfl, rfl, rfl, rfl, rfl, rfl, rfl, rfl, rfl, rfl, rfl, rfl, rfl, rfl, rfl, rfl, rfl, rfl, trivial⟩ rfl
          · try simp only [Bool.and_eq_true, Bool.or_eq_true, Bool.not_eq_true', Bool.not_eq_false', Bool.and_eq_false_iff, Bool.or_eq_false_iff, decide_eq_true_eq, decide_eq_false_iff_not, Int.not_lt, Int.not_le, ne_eq, Decidable.not_not] at h6
            refine WC.exit ?_
            refine QX.exit_then ?_
            refine QX.exit_then ?_
            refine QX.exit_hit ?_
            refine QX.then_ ?_
            refine WC.seq ?_
            refine WC.region ?_
            refine SL.pure rfl rfl rfl (PureOp.move rfl) ?_
            refine SL.pure rfl rfl rfl (PureOp.move rfl) ?_
            refine SL.pure rfl rfl rfl (PureOp.assign rfl) ?_
            refine SL.pure rfl rfl rfl (PureOp.assign rfl) ?_
            refine SL.pure rfl rfl rfl (PureOp.assign rfl) ?_
            refine SL.nil_then ?_
            refine WC.ret ?_
            refine QX.ret3 rfl rfl rfl rfl ?_
            intro w hw
            have ek : q = k := by omega
            rw [rval, ← hq, if_neg (by simp [h1]), if_neg (by simp [h2]), if_neg (by simp [h5]), if_neg (by rw [(congrArg (allK (fitB c (useO q l P l.length))) ek).trans hz]; decide)]

set_option maxHeartbeats 4000000 in
set_option maxRecDepth 100000 in
theorem rvalid52_ok (w0 : World) (l : List Pa) (la : Option Addr) (m lc : Nat) (hm : m = l.length) (hI : ∀ i, i < m → SliceIn w0 2 (nth l i).2.2.ao (nth l i).2.2.l.length (nth l i).2.2.cap (rowsF enc77 (nth l i).2.2.l)) (sL : SliceIn w0 3 la m lc (rowsF enc55 l)) (c : List Int) (ca : Option Addr) (q cc : Nat) (hq : q = c.length) (sC : SliceIn w0 1 ca q cc (rowsF encI c)) (P : List (SliceV Int)) (pa : Option Addr) (u pc : Nat) (hu : u = P.length) (hJ : ∀ i, i < u → SliceIn w0 1 (nth P i).ao (nth P i).l.length (nth P i).cap (rowsF encI (nth P i).l)) (sP : SliceIn w0 1 pa u pc (rowsF encSl P)) (hPb : ∀ i, i < u → (nth P i).l.length ≤ 2000) : FnC Try.prog 28 [.slice la m lc, .slice ca q cc, .slice pa u pc] w0 fun v w' => v = .tuple #[.int .i64 (rval l c P).1, .int .i64 (rval l c P).2.1, .int .i64 (rval l c P).2.2] := by
  have hmB : (m : Int) ≤ 9223372036854775807 := by
    have h1 := sL.le; have h2 := sL.max; simp only [maxLen] at h2; omega
  refine fnc (N := 122) Try.func28 rfl rfl rfl ?_
  refine WC.seq ?_
  refine WC.region ?_
  refine SL.pure rfl rfl rfl (PureOp.assign rfl) ?_
  refine SL.pure rfl rfl rfl (PureOp.assign rfl) ?_
  refine SL.pure rfl rfl rfl (PureOp.assign rfl) ?_
  refine SL.nil_then ?_
  refine WC.seq ?_
  refine WC.seq ?_
  refine WC.region ?_
  refine SL.pure rfl rfl rfl (PureOp.move rfl) ?_
  refine SL.pure rfl rfl rfl (PureOp.move rfl) ?_
  refine SL.calle rfl rfl rfl rfl rfl rfl callable30 (fun w hw => rcheck52_ok w l la m lc hm (fun i hi => (hI i hi).below hw.below) (sL.below hw.below) c ca q cc hq (sC.below hw.below)) ?_
  refine SL.norm [] rfl ?_
  refine SL.pure rfl rfl rfl (PureOp.neq rfl rfl) ?_
  refine SL.nil_then ?_
  refine WC.cond rfl (fun h1 => ?_) (fun h1 => ?_)
  · try simp only [Bool.and_eq_true, Bool.or_eq_true, Bool.not_eq_true', Bool.not_eq_false', Bool.and_eq_false_iff, Bool.or_eq_false_iff, decide_eq_true_eq, decide_eq_false_iff_not, Int.not_lt, Int.not_le, ne_eq, Decidable.not_not] at h1
    refine WC.seq ?_
    refine WC.region ?_
    refine SL.pure rfl rfl rfl (PureOp.move rfl) ?_
    refine SL.pure rfl rfl rfl (PureOp.move rfl) ?_
    refine SL.calle rfl rfl rfl rfl rfl rfl callable30 (fun w hw => rcheck52_ok w l la m lc hm (fun i hi => (hI i hi).below hw.below) (sL.below hw.below) c ca q cc hq (sC.below hw.below)) ?_
    refine SL.norm [] rfl ?_
    refine SL.pure rfl rfl rfl (PureOp.assign rfl) ?_
    refine SL.pure rfl rfl rfl (PureOp.assign rfl) ?_
    refine SL.pure rfl rfl rfl (PureOp.assign rfl) ?_
    refine SL.nil_then ?_
    refine WC.ret ?_
    refine QX.ret_then ?_
    refine QX.ret3 rfl rfl rfl rfl ?_
    intro w hw
    rw [rval, if_pos h1]
  · try simp only [Bool.and_eq_true, Bool.or_eq_true, Bool.not_eq_true', Bool.not_eq_false', Bool.and_eq_false_iff, Bool.or_eq_false_iff, decide_eq_true_eq, decide_eq_false_iff_not, Int.not_lt, Int.not_le, ne_eq, Decidable.not_not] at h1
    have hOk := PaOk.of (by assumption : rchk l c = 0)
    have hqn : q ≤ 60 := by have := hOk.nc; omega
    refine WC.skip ?_
    refine QX.then_ ?_
    refine WC.seq ?_
    refine WC.seq ?_
    refine WC.region ?_
    refine SL.pure rfl rfl rfl (PureOp.move rfl) ?_
    refine SL.pure rfl rfl rfl (PureOp.move rfl) ?_
    refine SL.calle rfl rfl rfl rfl rfl rfl callable49 (fun w hw => rshaped_ok w l la m lc hm (fun i hi => (hI i hi).below hw.below) (sL.below hw.below) P pa u pc hu (fun i hi => (hJ i hi).below hw.below) (sP.below hw.below)) ?_
    refine SL.norm [] rfl ?_
    refine SL.pure rfl rfl rfl (PureOp.not rfl) ?_
    refine SL.nil_then ?_
    refine WC.cond rfl (fun h2 => ?_) (fun h2 => ?_)
    · try simp only [Bool.and_eq_true, Bool.or_eq_true, Bool.not_eq_true', Bool.not_eq_false', Bool.and_eq_false_iff, Bool.or_eq_false_iff, decide_eq_true_eq, decide_eq_false_iff_not, Int.not_lt, Int.not_le, ne_eq, Decidable.not_not] at h2
      refine WC.seq ?_
      refine WC.region ?_
      refine SL.pure rfl rfl rfl (PureOp.assign rfl) ?_
      refine SL.pure rfl rfl rfl (PureOp.assign rfl) ?_
      refine SL.pure rfl rfl rfl (PureOp.assign rfl) ?_
      refine SL.nil_then ?_
      refine WC.ret ?_
      refine QX.ret_then ?_
      refine QX.ret3 rfl rfl rfl rfl ?_
      intro w hw
      rw [rval, if_neg (by simp [h1]), if_pos h2]
    · try simp only [Bool.and_eq_true, Bool.or_eq_true, Bool.not_eq_true', Bool.not_eq_false', Bool.and_eq_false_iff, Bool.or_eq_false_iff, decide_eq_true_eq, decide_eq_false_iff_not, Int.not_lt, Int.not_le, ne_eq, Decidable.not_not] at h2
      have hSh := shp_ok (by assumption : shpB l P = true)
      refine WC.skip ?_
      refine QX.then_ ?_
      refine WC.seq ?_
      refine WC.region ?_
      refine SL.pure rfl rfl rfl (PureOp.move rfl) ?_
      refine SL.pure rfl rfl rfl (PureOp.len rfl Try.underlying29) ?_
      refine SL.make rfl rfl Try.underlying29 elem3 rfl rfl (by omega) (by omega) (fun b1 hb1 => ?_)
      refine SL.itemxs 0 rfl (show _ = cellsOf encI (useO q l P 0) from by rw [rep_int]; rfl) ?_
      refine SL.norm [_] rfl ?_
      refine SL.pure rfl rfl rfl (PureOp.assign rfl) ?_
      refine SL.nil_then ?_
      refine WC.seq ?_
      refine WC.region ?_
      refine SL.pure rfl rfl rfl (PureOp.assign rfl) ?_
      refine SL.pure rfl rfl rfl (PureOp.assign rfl) ?_
      refine SL.nil_then ?_
      refine WC.seq ?_
      refine WC.seq ?_
      refine WC.region ?_
      refine SL.pure rfl rfl rfl (PureOp.assign rfl) ?_
      refine SL.nil_then ?_
      refine WC.block ?_
      refine WC.loop (σ := Nat) (fun q_ => [(0, 0, .slice la m lc), (1, 0, .slice ca q cc), (2, 0, .slice pa u pc), (9, 0, .slice (some ⟨b1, 0, none⟩) q q), (18, 0, .slice la m lc), (19, 0, .slice ca q cc), (20, 0, .int .i64 (rchk l c)), (21, 0, .bool (decide (rchk l c ≠ 0))), (25, 0, .slice la m lc), (26, 0, .slice pa u pc), (27, 0, .bool (shpB l P)), (28, 0, .bool (!(shpB l P))), (29, 0, .slice ca q cc), (30, 0, .int .i64 ((q : Nat) : Int)), (31, 0, .slice (some ⟨b1, 0, none⟩) q q), (12, 0, .int .i64 ((q_ : Nat) : Int)), (10, 0, .int .i64 (sumR l P q_)), (11, 0, .int .i64 (dlyO l P q_))]) (fun q_ => [Item.own w0.heap.size (some ⟨b1, 0, none⟩) q q 3 1 (cellsOf encI (useO q l P q_))]) (fun q_ => q_ ≤ m ∧ crwO l P q_ = false) (fun q_ => m - q_) 1 (0) (⟨Nat.zero_le _, rfl⟩) ⟨rfl, rfl, rfl, rfl, rfl, rfl, rfl, rfl, rfl, rfl, rfl, rfl, rfl, rfl, rfl, rfl, rfl, rfl, rfl, rfl, rfl, rfl, rfl, rfl, rfl, rfl, rfl, rfl, rfl, rfl, rfl, rfl, rfl, rfl, rfl, rfl, trivial⟩ rfl ?_
      rintro i ⟨hi, hcr⟩
      refine WC.seq ?_
      refine WC.seq ?_
      refine WC.region ?_
      refine SL.pure rfl rfl rfl (PureOp.move rfl) ?_
      refine SL.pure rfl rfl rfl (PureOp.move rfl) ?_
      refine SL.pure rfl rfl rfl (PureOp.len rfl Try.underlying43) ?_
      refine SL.pure rfl rfl rfl (PureOp.lss rfl rfl) ?_
      refine SL.nil_then ?_
      refine WC.cond rfl (fun h3 => ?_) (fun h3 => ?_)
      · try simp only [Bool.and_eq_true, Bool.or_eq_true, Bool.not_eq_true', Bool.not_eq_false', Bool.and_eq_false_iff, Bool.or_eq_false_iff, decide_eq_true_eq, decide_eq_false_iff_not, Int.not_lt, Int.not_le, ne_eq, Decidable.not_not] at h3
        have hc1 := hOk.cnt i (by omega)
        have hwt := hOk.wt i (by omega)
        have hPi := hPb i (by omega)
        have hSi := hSh.2 i (by omega)
        have hall : ∀ k, k < i → (1 ≤ (nth l k).1 ∧ (nth l k).1 ≤ 99) ∧ (0 ≤ (nth l k).2.1 ∧ (nth l k).2.1 ≤ 1000) ∧ (∀ j, j < (nth l k).2.2.l.length → 0 ≤ nth (nth P k).l j) ∧ (∀ j, j < (nth l k).2.2.l.length → 0 ≤ (nth (nth l k).2.2.l j).2 ∧ (nth (nth l k).2.2.l j).2 ≤ 10000) ∧ ((nth l k).2.2.l.length : Int) ≤ 2000 := fun k hk => ⟨hOk.cnt k (by omega), hOk.wt k (by omega), fun j hj => (hSh.2 k (by omega)).2 j (by have := (hSh.2 k (by omega)).1; omega), fun j hj => (hOk.way k (by omega) j hj).2, by have := (hSh.2 k (by omega)).1; have := hPb k (by omega); omega⟩
        have hsO := sumO_bd (b := 2000) (by omega) i (fun k hk => ⟨(hall k hk).1, (hall k hk).2.2.1, (hall k hk).2.2.2.2⟩)
        have hdO := dlyO_bd (b := 2000) (by omega) i hall
        have huO := useO_bd (n := q) (b := 2000) (by omega) i (fun k hk => ⟨(hall k hk).1, (hall k hk).2.2.1, fun j hj => by have := (hOk.way k (by omega) j hj).1; omega, (hall k hk).2.2.2.2⟩)
        have hRe := sumR_eq (l := l) (P := P) i
        have hmi : (i : Int) * (2000 * 100) ≤ 12000000 := by have := hOk.nl; omega
        refine WC.skip ?_
        refine QX.then_ ?_
        refine WC.seq ?_
        refine WC.block ?_
        refine WC.seq ?_
        refine WC.region ?_
        refine SL.pure rfl rfl rfl (PureOp.assign rfl) ?_
        refine SL.nil_then ?_
        refine WC.seq ?_
        refine WC.seq ?_
        refine WC.region ?_
        refine SL.pure rfl rfl rfl (PureOp.assign rfl) ?_
        refine SL.nil_then ?_
        refine WC.block ?_
        refine WC.loop (σ := Nat) (fun q_ => [(0, 0, .slice la m lc), (1, 0, .slice ca q cc), (2, 0, .slice pa u pc), (9, 0, .slice (some ⟨b1, 0, none⟩) q q), (12, 0, .int .i64 ((i : Nat) : Int)), (18, 0, .slice la m lc), (19, 0, .slice ca q cc), (20, 0, .int .i64 (rchk l c)), (21, 0, .bool (decide (rchk l c ≠ 0))), (25, 0, .slice la m lc), (26, 0, .slice pa u pc), (27, 0, .bool (shpB l P)), (28, 0, .bool (!(shpB l P))), (29, 0, .slice ca q cc), (30, 0, .int .i64 ((q : Nat) : Int)), (31, 0, .slice (some ⟨b1, 0, none⟩) q q), (32, 0, .int .i64 ((i : Nat) : Int)), (33, 0, .slice la m lc), (34, 0, .int .i64 ((m : Nat) : Int)), (35, 0, .bool (decide (((i : Nat) : Int) < ((m : Nat) : Int)))), (14, 0, .int .i64 ((q_ : Nat) : Int)), (13, 0, .int .i64 (sumIn (nth l i) (nth P i).l q_)), (11, 0, .int .i64 (dlyIn (nth l i) (nth P i).l (dlyO l P i) q_)), (10, 0, .int .i64 (sumA (nth l i) (nth P i).l (sumR l P i) q_))]) (fun q_ => [Item.own w0.heap.size (some ⟨b1, 0, none⟩) q q 3 1 (cellsOf encI (useIn (nth l i) (nth P i).l (useO q l P i) q_))]) (fun q_ => q_ ≤ (nth l i).2.2.l.length) (fun q_ => (nth l i).2.2.l.length - q_) 1 (0) (Nat.zero_le _) ⟨rfl, rfl, rfl, rfl, rfl, rfl, rfl, rfl, rfl, rfl, rfl, rfl, rfl, rfl, rfl, rfl, rfl, rfl, rfl, rfl, rfl, rfl, rfl, rfl, rfl, rfl, rfl, rfl, rfl, rfl, rfl, rfl, rfl, rfl, rfl, rfl, rfl, rfl, rfl, rfl, rfl, rfl, rfl, rfl, rfl, rfl, rfl, rfl, trivial⟩ rfl ?_
        rintro j hj
        refine WC.seq ?_
        refine WC.seq ?_
        refine WC.region ?_
        refine SL.pure rfl rfl rfl (PureOp.move rfl) ?_
        refine SL.pure rfl rfl rfl (PureOp.move rfl) ?_
        refine SL.pure rfl rfl rfl (PureOp.move rfl) ?_
        refine SL.pure rfl rfl rfl (PureOp.indexAddrN Try.underlying44 sz29 rfl rfl (AoOk.in_ sP) (fun _ => by omega)) ?_
        refine SL.pure rfl rfl rfl (PureOp.load (v := .slice ((nth P i).ao) ((nth P i).l.length) ((nth P i).cap)) Try.underlying29 rfl rfl (fun _ => (CellIs.in_ sP i 0 (by omega) (by omega)))) ?_
        refine SL.pure rfl rfl rfl (PureOp.len rfl Try.underlying29) ?_
        refine SL.pure rfl rfl rfl (PureOp.lss rfl rfl) ?_
        refine SL.nil_then ?_
        refine WC.cond rfl (fun h4 => ?_) (fun h4 => ?_)
        · try simp only [Bool.and_eq_true, Bool.or_eq_true, Bool.not_eq_true', Bool.not_eq_false', Bool.and_eq_false_iff, Bool.or_eq_false_iff, decide_eq_true_eq, decide_eq_false_iff_not, Int.not_lt, Int.not_le, ne_eq, Decidable.not_not] at h4
          have hway := hOk.way i (by omega) j (by omega)
          have hpj := hSi.2 j (by omega)
          have hpn := pn_bd (x := nth l i) (p := (nth P i).l) (j := j) hc1 hpj
          have hsI := sumIn_bd (x := nth l i) (p := (nth P i).l) hc1 j (fun t ht => hSi.2 t (by omega))
          have hdI := dlyIn_bd (x := nth l i) (p := (nth P i).l) hc1 hwt hdO.1 j (fun t ht => hSi.2 t (by omega)) (fun t ht => (hOk.way i (by omega) t (by omega)).2)
          have huI := useIn_bd (x := nth l i) (p := (nth P i).l) (u := useO q l P i) (B := (i : Int) * (2000 * 100)) hc1 (fun t ht => huO t (by rw [useO_len] at ht; exact ht)) j (fun t ht => hSi.2 t (by omega)) (fun t ht => by rw [useO_len]; have := (hOk.way i (by omega) t (by omega)).1; omega) (nth (nth l i).2.2.l j).1.toNat (by rw [useO_len]; omega)
          have hAe := sumA_eq (x := nth l i) (p := (nth P i).l) (d := sumR l P i) j
          have hm1 := mul_bd hpn.1 hpn.2 hwt.1 hwt.2
          have hm2 := mul_bd hm1.1 hm1.2 hway.2.1 hway.2.2
          have hpe : pn (nth l i) (nth P i).l j = min (nth (nth P i).l j) ((nth l i).1 + 1) := rfl
          rw [hpe] at hpn hm1 hm2
          refine WC.skip ?_
          refine QX.then_ ?_
          refine WC.seq ?_
          refine WC.block ?_
          refine WC.seq ?_
          refine WC.quiet rfl (by kernel_rfl) ?_
          refine SQ.pure rfl rfl rfl (PureOp.move rfl) ?_
          refine SQ.pure rfl rfl rfl (PureOp.move rfl) ?_
          refine SQ.pure rfl rfl rfl (PureOp.indexAddrN Try.underlying44 sz29 rfl rfl (AoOk.in_ sP) (fun _ => by omega)) ?_
          refine SQ.pure rfl rfl rfl (PureOp.load (v := .slice ((nth P i).ao) ((nth P i).l.length) ((nth P i).cap)) Try.underlying29 rfl rfl (fun _ => (CellIs.in_ sP i 0 (by omega) (by omega)))) ?_
          refine SQ.pure rfl rfl rfl (PureOp.move rfl) ?_
          refine SQ.pure rfl rfl rfl (PureOp.indexAddrN Try.underlying29 sz3 rfl rfl (AoOk.any (fun w hw => (hJ i (by omega)).below hw.below)) (fun _ => by omega)) ?_
          refine SQ.pure rfl rfl rfl (PureOp.load (v := .int .i64 (nth ((nth P i).l) j)) Try.underlying3 rfl rfl (fun _ => (CellIs.any (fun w hw => (hJ i (by omega)).below hw.below) j 0 (by omega) (by omega)))) ?_
          refine SQ.pure rfl rfl rfl (PureOp.move rfl) ?_
          refine SQ.pure rfl rfl rfl (PureOp.move rfl) ?_
          refine SQ.pure rfl rfl rfl (PureOp.indexAddrN Try.underlying43 sz55 rfl rfl (AoOk.in_ sL) (fun _ => by omega)) ?_
          refine SQ.pure rfl rfl rfl (PureOp.fieldAddr 0 Try.underlying55 rfl rfl sz3 rfl) ?_
          refine SQ.pure rfl rfl rfl (PureOp.load (v := .int .i64 ((nth l i).1)) Try.underlying3 rfl rfl (fun _ => (CellIs.in_ sL i 0 (by omega) (by omega)))) ?_
          refine SQ.pure rfl rfl rfl (PureOp.add rfl rfl (fun _ => by omega)) ?_
          refine SQ.pure rfl rfl rfl (PureOp.min_ rfl rfl) ?_
          refine SQ.pure rfl rfl rfl (PureOp.assign rfl) ?_
          refine SQ.nil_then ?_
          refine WC.seq ?_
          refine WC.region ?_
          refine SL.pure rfl rfl rfl (PureOp.move rfl) ?_
          refine SL.pure rfl rfl rfl (PureOp.move rfl) ?_
          refine SL.pure rfl rfl rfl (PureOp.indexAddrN Try.underlying43 sz55 rfl rfl (AoOk.in_ sL) (fun _ => by omega)) ?_
          refine SL.pure rfl rfl rfl (PureOp.fieldAddr 2 Try.underlying55 rfl rfl sz53 rfl) ?_
          refine SL.pure rfl rfl rfl (PureOp.load (v := .slice ((nth l i).2.2.ao) ((nth l i).2.2.l.length) ((nth l i).2.2.cap)) Try.underlying53 rfl rfl (fun _ => (CellIs.in_ sL i 2 (by omega) (by omega)))) ?_
          refine SL.pure rfl rfl rfl (PureOp.move rfl) ?_
          refine SL.pure rfl rfl rfl (PureOp.indexAddrN Try.underlying53 sz77 rfl rfl (AoOk.any (fun w hw => (hI i (by omega)).below hw.below)) (fun _ => by omega)) ?_
          refine SL.pure rfl rfl rfl (PureOp.loads (vs := [.int .i64 ((nth ((nth l i).2.2.l) j).1), .int .i64 ((nth ((nth l i).2.2.l) j).2)]) Try.underlying77 rfl rfl (fun _ => (RowIs.any (fun w hw => (hI i (by omega)).below hw.below) j 0 2 (by omega) (by omega))) sz77) ?_
          refine SL.alloc rfl rfl zero77 (fun b2 hb2 => ?_)
          refine SL.norm [_, _] rfl ?_
          refine SL.store 1 rfl rfl rfl rfl sz77 rfl rfl ?_
          refine SL.norm [_, _] rfl ?_
          refine SL.nil_then ?_
          refine WC.seq ?_
          refine WC.region ?_
          refine SL.pure rfl rfl rfl (PureOp.move rfl) ?_
          refine SL.pure rfl rfl rfl (PureOp.move rfl) ?_
          refine SL.pure rfl rfl rfl (PureOp.add rfl rfl (fun _ => by omega)) ?_
          refine SL.pure rfl rfl rfl (PureOp.move rfl) ?_
          refine SL.pure rfl rfl rfl (PureOp.move rfl) ?_
          refine SL.pure rfl rfl rfl (PureOp.add rfl rfl (fun _ => by omega)) ?_
          refine SL.pure rfl rfl rfl (PureOp.assign rfl) ?_
          refine SL.pure rfl rfl rfl (PureOp.assign rfl) ?_
          refine SL.nil_then ?_
          refine WC.seq ?_
          refine WC.drawh ([Item.triv, Item.cells b2 [.int .i64 ((nth ((nth l i).2.2.l) j).1), .int .i64 ((nth ((nth l i).2.2.l) j).2)] 77]) 12 [false, false, false, false, false, false, false, false, false, false, false, false] rfl rfl rfl ?_
          refine SD.take 0 [true, false, false, false, false, false, false, false, false, false, false, false] rfl (by kernel_rfl) rfl (fun _ h => (HeapOk.settriv h (i := 0) rfl)) rfl rfl rfl (PureOp.move rfl) ?_
          refine SD.take 1 [true, true, false, false, false, false, false, false, false, false, false, false] rfl (by kernel_rfl) rfl (fun _ h => (HeapOk.settriv h (i := 0) rfl)) rfl rfl rfl (PureOp.fieldAddrT 0 Try.underlying77 rfl sz3 rfl rfl) ?_
          refine SD.take 2 [true, true, true, false, false, false, false, false, false, false, false, false] rfl (by kernel_rfl) rfl (fun _ h => (HeapOk.settriv h (i := 0) rfl)) rfl rfl rfl (PureOp.load (v := .int .i64 ((nth ((nth l i).2.2.l) j).1)) Try.underlying3 rfl rfl (fun _ => (CellIs.cells 1 rfl rfl))) ?_
          refine SD.take 3 [true, true, true, true, false, false, false, false, false, false, false, false] rfl (by kernel_rfl) rfl (fun _ h => (HeapOk.settriv h (i := 0) rfl)) rfl rfl rfl (PureOp.move rfl) ?_
          refine SD.take 4 [true, true, true, true, true, false, false, false, false, false, false, false] rfl (by kernel_rfl) rfl (fun _ h => (HeapOk.settriv h (i := 0) rfl)) rfl rfl rfl (PureOp.fieldAddrT 0 Try.underlying77 rfl sz3 rfl rfl) ?_
          refine SD.take 5 [true, true, true, true, true, true, false, false, false, false, false, false] rfl (by kernel_rfl) rfl (fun _ h => (HeapOk.settriv h (i := 0) rfl)) rfl rfl rfl (PureOp.load (v := .int .i64 ((nth ((nth l i).2.2.l) j).1)) Try.underlying3 rfl rfl (fun _ => (CellIs.cells 1 rfl rfl))) ?_
          refine SD.take 6 [true, true, true, true, true, true, true, false, false, false, false, false] rfl (by kernel_rfl) rfl (fun _ h => (HeapOk.settriv h (i := 0) rfl)) rfl rfl rfl (PureOp.indexAddr Try.underlying29 sz3 rfl rfl AoOk.lit (fun _ => by omega)) ?_
          refine SD.take 8 [true, true, true, true, true, true, true, false, true, false, false, false] rfl (by kernel_rfl) rfl (fun _ h => (HeapOk.settriv h (i := 0) rfl)) rfl rfl rfl (PureOp.move rfl) ?_
          refine SD.one 7 [true, true, true, true, true, true, true, true, true, false, false, false] (by kernel_rfl) rfl rfl ?_
          refine SL.pure rfl rfl rfl (PureOp.load (v := .int .i64 (nth (useIn (nth l i) (nth P i).l (useO q l P i) j) (nth (nth l i).2.2.l j).1.toNat)) Try.underlying3 rfl rfl (fun _ => (CellIs.ownc 0 rfl (((nth ((nth l i).2.2.l) j).1).toNat) 0 (by first | exact encI_get (by rw [useO_len]; omega) | exact encI_get (by rw [useIn_len, useO_len]; omega))))) ?_
          refine SD.back (fun _ h => (HeapOk.settriv h (i := 0) rfl)) ?_
          refine SD.take 9 [true, true, true, true, true, true, true, true, true, true, false, false] rfl (by kernel_rfl) rfl (fun _ h => (HeapOk.settriv h (i := 0) rfl)) rfl rfl rfl (PureOp.add rfl rfl (fun _ => by omega)) ?_
          refine SD.take 10 [true, true, true, true, true, true, true, true, true, true, true, false] rfl (by kernel_rfl) rfl (fun _ h => (HeapOk.settriv h (i := 0) rfl)) rfl rfl rfl (PureOp.indexAddr Try.underlying29 sz3 rfl rfl AoOk.lit (fun _ => by omega)) ?_
          refine SD.one 11 [true, true, true, true, true, true, true, true, true, true, true, true] (by kernel_rfl) rfl rfl ?_
          refine SL.storeown (k := (((nth ((nth l i).2.2.l) j).1).toNat)) (j := 0) 0 rfl rfl rfl rfl sz3 (by rw [cellsOf_length encI_len, useIn_len, useO_len]; omega) rfl ?_
          refine SL.itemxs 0 rfl (show _ = cellsOf encI (useIn (nth l i) (nth P i).l (useO q l P i) (j + 1)) from encI_set (by rw [useIn_len, useO_len]; omega)) ?_
          refine SL.norm [_, _] rfl ?_
          refine SD.back (fun _ h => (HeapOk.settriv h (i := 0) rfl)) ?_
          refine SD.done (by kernel_rfl) ?_
          refine QX.ofK ?_
          refine QX.then_ ?_
          refine WC.quiet rfl (by kernel_rfl) ?_
          refine SQ.pure rfl rfl rfl (PureOp.move rfl) ?_
          refine SQ.pure rfl rfl rfl (PureOp.move rfl) ?_
          refine SQ.pure rfl rfl rfl (PureOp.move rfl) ?_
          refine SQ.pure rfl rfl rfl (PureOp.move rfl) ?_
          refine SQ.pure rfl rfl rfl (PureOp.indexAddrN Try.underlying43 sz55 rfl rfl (AoOk.in_ sL) (fun _ => by omega)) ?_
          refine SQ.pure rfl rfl rfl (PureOp.fieldAddr 1 Try.underlying55 rfl rfl sz3 rfl) ?_
          refine SQ.pure rfl rfl rfl (PureOp.load (v := .int .i64 ((nth l i).2.1)) Try.underlying3 rfl rfl (fun _ => (CellIs.in_ sL i 1 (by omega) (by omega)))) ?_
          refine SQ.pure rfl rfl rfl (PureOp.mul rfl rfl (fun _ => by omega)) ?_
          refine SQ.pure rfl rfl rfl (PureOp.fieldAddrT 1 Try.underlying77 rfl sz3 rfl rfl) ?_
          refine SQ.pure rfl rfl rfl (PureOp.load (v := .int .i64 ((nth ((nth l i).2.2.l) j).2)) Try.underlying3 rfl rfl (fun _ => (CellIs.cells 1 rfl rfl))) ?_
          refine SQ.pure rfl rfl rfl (PureOp.mul rfl rfl (fun _ => by omega)) ?_
          refine SQ.pure rfl rfl rfl (PureOp.add rfl rfl (fun _ => by omega)) ?_
          refine SQ.pure rfl rfl rfl (PureOp.assign rfl) ?_
          refine SQ.nil ?_
          refine QX.normal_in ?_
          refine QX.then_ ?_
          refine WC.region ?_
          refine SL.pure rfl rfl rfl (PureOp.move rfl) ?_
          refine SL.pure rfl rfl rfl (PureOp.addN (k := 1) rfl rfl (fun _ => by omega)) ?_
          refine SL.pure rfl rfl rfl (PureOp.assign rfl) ?_
          refine SL.nil ?_
          refine QX.round 1 (j + 1) ⟨(by first | omega | (dsimp only; omega)), by first | omega | (dsimp only; omega)⟩ ⟨rfl, rfl, rfl, rfl, rfl, rfl, rfl, rfl, rfl, rfl, rfl, rfl, rfl, rfl, rfl, rfl, rfl, rfl, rfl, rfl, rfl, rfl, rfl, rfl, rfl, rfl, rfl, rfl, rfl, rfl, rfl, rfl, rfl, rfl, rfl, rfl, rfl, rfl, rfl, rfl, rfl, rfl, rfl, rfl, rfl, rfl, rfl, rfl, trivial⟩ rfl
        · try simp only [Bool.and_eq_true, Bool.or_eq_true, Bool.not_eq_true', Bool.not_eq_false', Bool.and_eq_false_iff, Bool.or_eq_false_iff, decide_eq_true_eq, decide_eq_false_iff_not, Int.not_lt, Int.not_le, ne_eq, Decidable.not_not] at h4
          have e_ : j = (nth l i).2.2.l.length := by omega
          subst e_
          have hsI := sumIn_bd (x := nth l i) (p := (nth P i).l) hc1 (nth l i).2.2.l.length (fun t ht => hSi.2 t (by omega))
          refine WC.exit ?_
          refine QX.exit_then ?_
          refine QX.exit_then ?_
          refine QX.exit_hit ?_
          refine QX.then_ ?_
          refine WC.seq ?_
          refine WC.region ?_
          refine SL.pure rfl rfl rfl (PureOp.move rfl) ?_
          refine SL.pure rfl rfl rfl (PureOp.move rfl) ?_
          refine SL.pure rfl rfl rfl (PureOp.move rfl) ?_
          refine SL.pure rfl rfl rfl (PureOp.indexAddrN Try.underlying43 sz55 rfl rfl (AoOk.in_ sL) (fun _ => by omega)) ?_
          refine SL.pure rfl rfl rfl (PureOp.fieldAddr 0 Try.underlying55 rfl rfl sz3 rfl) ?_
          refine SL.pure rfl rfl rfl (PureOp.load (v := .int .i64 ((nth l i).1)) Try.underlying3 rfl rfl (fun _ => (CellIs.in_ sL i 0 (by omega) (by omega)))) ?_
          refine SL.pure rfl rfl rfl (PureOp.gtr rfl rfl) ?_
          refine SL.nil_then ?_
          refine WC.cond rfl (fun h5 => ?_) (fun h5 => ?_)
          · try simp only [Bool.and_eq_true, Bool.or_eq_true, Bool.not_eq_true', Bool.not_eq_false', Bool.and_eq_false_iff, Bool.or_eq_false_iff, decide_eq_true_eq, decide_eq_false_iff_not, Int.not_lt, Int.not_le, ne_eq, Decidable.not_not] at h5
            refine WC.seq ?_
            refine WC.region ?_
            refine SL.pure rfl rfl rfl (PureOp.assign rfl) ?_
            refine SL.pure rfl rfl rfl (PureOp.assign rfl) ?_
            refine SL.pure rfl rfl rfl (PureOp.assign rfl) ?_
            refine SL.nil_then ?_
            refine WC.ret ?_
            refine QX.ret_in ?_
            refine QX.ret_then ?_
            refine QX.ret_then ?_
            refine QX.ret_in ?_
            refine QX.ret_then ?_
            refine QX.ret3 rfl rfl rfl rfl ?_
            intro w hw
            rw [rval, if_neg (by simp [h1]), if_neg (by simp [h2]), if_pos (crwO_of (i := i) (decide_eq_true (by omega)) _ (by omega))]
          · try simp only [Bool.and_eq_true, Bool.or_eq_true, Bool.not_eq_true', Bool.not_eq_false', Bool.and_eq_false_iff, Bool.or_eq_false_iff, decide_eq_true_eq, decide_eq_false_iff_not, Int.not_lt, Int.not_le, ne_eq, Decidable.not_not] at h5
            refine WC.skip ?_
            refine QX.normal_in ?_
            refine QX.then_ ?_
            refine WC.region ?_
            refine SL.pure rfl rfl rfl (PureOp.move rfl) ?_
            refine SL.pure rfl rfl rfl (PureOp.addN (k := 1) rfl rfl (fun _ => by omega)) ?_
            refine SL.pure rfl rfl rfl (PureOp.assign rfl) ?_
            refine SL.nil ?_
            refine QX.round 1 (i + 1) ⟨⟨(by first | omega | (dsimp only; omega)), by rw [crwO, hcr, crw, decide_eq_false (by omega)]; rfl⟩, by first | omega | (dsimp only; omega)⟩ ⟨rfl, rfl, rfl, rfl, rfl, rfl, rfl, rfl, rfl, rfl, rfl, rfl, rfl, rfl, rfl, rfl, rfl, rfl, rfl, rfl, rfl, rfl, rfl, rfl, rfl, rfl, rfl, rfl, rfl, rfl, rfl, rfl, rfl, rfl, rfl, rfl, trivial⟩ rfl
      · try simp only [Bool.and_eq_true, Bool.or_eq_true, Bool.not_eq_true', Bool.not_eq_false', Bool.and_eq_false_iff, Bool.or_eq_false_iff, decide_eq_true_eq, decide_eq_false_iff_not, Int.not_lt, Int.not_le, ne_eq, Decidable.not_not] at h3
        have e_ : i = l.length := by omega
        subst e_
        refine WC.exit ?_
        refine QX.exit_then ?_
        refine QX.exit_then ?_
        refine QX.exit_hit ?_
        refine QX.then_ ?_
        refine WC.seq ?_
        refine WC.seq ?_
        refine WC.region ?_
        refine SL.pure rfl rfl rfl (PureOp.assign rfl) ?_
        refine SL.nil_then ?_
        refine WC.block ?_
        refine WC.loop (σ := Nat) (fun q_ => [(0, 0, .slice la m lc), (1, 0, .slice ca q cc), (2, 0, .slice pa u pc), (9, 0, .slice (some ⟨b1, 0, none⟩) q q), (10, 0, .int .i64 (sumR l P l.length)), (11, 0, .int .i64 (dlyO l P l.length)), (12, 0, .int .i64 ((l.length : Nat) : Int)), (18, 0, .slice la m lc), (19, 0, .slice ca q cc), (20, 0, .int .i64 (rchk l c)), (21, 0, .bool (decide (rchk l c ≠ 0))), (25, 0, .slice la m lc), (26, 0, .slice pa u pc), (27, 0, .bool (shpB l P)), (28, 0, .bool (!(shpB l P))), (29, 0, .slice ca q cc), (30, 0, .int .i64 ((q : Nat) : Int)), (31, 0, .slice (some ⟨b1, 0, none⟩) q q), (32, 0, .int .i64 ((l.length : Nat) : Int)), (33, 0, .slice la m lc), (34, 0, .int .i64 ((m : Nat) : Int)), (35, 0, .bool (decide (((l.length : Nat) : Int) < ((m : Nat) : Int)))), (17, 0, .int .i64 ((q_ : Nat) : Int))]) (fun q_ => [Item.own w0.heap.size (some ⟨b1, 0, none⟩) q q 3 1 (cellsOf encI (useO q l P l.length))]) (fun q_ => q_ ≤ q ∧ allK (fitB c (useO q l P l.length)) q_ = true) (fun q_ => q - q_) 1 (0) (⟨Nat.zero_le _, rfl⟩) ⟨rfl, rfl, rfl, rfl, rfl, rfl, rfl, rfl, rfl, rfl, rfl, rfl, rfl, rfl, rfl, rfl, rfl, rfl, rfl, rfl, rfl, rfl, rfl, rfl, rfl, rfl, rfl, rfl, rfl, rfl, rfl, rfl, rfl, rfl, rfl, rfl, rfl, rfl, rfl, rfl, rfl, rfl, rfl, rfl, rfl, rfl, trivial⟩ rfl ?_
        rintro k ⟨hk, hz⟩
        refine WC.seq ?_
        refine WC.seq ?_
        refine WC.region ?_
        refine SL.pure rfl rfl rfl (PureOp.move rfl) ?_
        refine SL.pure rfl rfl rfl (PureOp.move rfl) ?_
        refine SL.pure rfl rfl rfl (PureOp.len rfl Try.underlying29) ?_
        refine SL.pure rfl rfl rfl (PureOp.lss rfl rfl) ?_
        refine SL.nil_then ?_
        refine WC.cond rfl (fun h6 => ?_) (fun h6 => ?_)
        · try simp only [Bool.and_eq_true, Bool.or_eq_true, Bool.not_eq_true', Bool.not_eq_false', Bool.and_eq_false_iff, Bool.or_eq_false_iff, decide_eq_true_eq, decide_eq_false_iff_not, Int.not_lt, Int.not_le, ne_eq, Decidable.not_not] at h6
          refine WC.skip ?_
          refine QX.then_ ?_
          refine WC.seq ?_
          refine WC.block ?_
          refine WC.seq ?_
          refine WC.quiet rfl (by kernel_rfl) ?_
          refine SQ.pure rfl rfl rfl (PureOp.move rfl) ?_
          refine SQ.pure rfl rfl rfl (PureOp.move rfl) ?_
          refine SQ.pure rfl rfl rfl (PureOp.indexAddrN Try.underlying29 sz3 rfl rfl AoOk.lit (fun _ => by omega)) ?_
          refine SQ.pure rfl rfl rfl (PureOp.load (v := .int .i64 (nth (useO q l P l.length) k)) Try.underlying3 rfl rfl (fun _ => (CellIs.ownc 0 rfl k 0 (by first | exact encI_get (by rw [useO_len]; omega) | exact encI_get (by rw [useIn_len, useO_len]; omega))))) ?_
          refine SQ.pure rfl rfl rfl (PureOp.move rfl) ?_
          refine SQ.pure rfl rfl rfl (PureOp.move rfl) ?_
          refine SQ.pure rfl rfl rfl (PureOp.indexAddrN Try.underlying29 sz3 rfl rfl (AoOk.in_ sC) (fun _ => by omega)) ?_
          refine SQ.pure rfl rfl rfl (PureOp.load (v := .int .i64 (nth c k)) Try.underlying3 rfl rfl (fun _ => (CellIs.in_ sC k 0 (by omega) (by omega)))) ?_
          refine SQ.pure rfl rfl rfl (PureOp.gtr rfl rfl) ?_
          refine SQ.nil_then ?_
          refine WC.cond rfl (fun h7 => ?_) (fun h7 => ?_)
          · try simp only [Bool.and_eq_true, Bool.or_eq_true, Bool.not_eq_true', Bool.not_eq_false', Bool.and_eq_false_iff, Bool.or_eq_false_iff, decide_eq_true_eq, decide_eq_false_iff_not, Int.not_lt, Int.not_le, ne_eq, Decidable.not_not] at h7
            refine WC.seq ?_
            refine WC.region ?_
            refine SL.pure rfl rfl rfl (PureOp.assign rfl) ?_
            refine SL.pure rfl rfl rfl (PureOp.assign rfl) ?_
            refine SL.pure rfl rfl rfl (PureOp.assign rfl) ?_
            refine SL.nil_then ?_
            refine WC.ret ?_
            refine QX.ret_in ?_
            refine QX.ret_then ?_
            refine QX.ret_then ?_
            refine QX.ret_in ?_
            refine QX.ret_then ?_
            refine QX.ret3 rfl rfl rfl rfl ?_
            intro w hw
            rw [rval, ← hq, if_neg (by simp [h1]), if_neg (by simp [h2]), if_neg (by simp [hcr]), if_pos (allK_not (k := k) (by omega) (decide_eq_false (by omega)))]
          · try simp only [Bool.and_eq_true, Bool.or_eq_true, Bool.not_eq_true', Bool.not_eq_false', Bool.and_eq_false_iff, Bool.or_eq_false_iff, decide_eq_true_eq, decide_eq_false_iff_not, Int.not_lt, Int.not_le, ne_eq, Decidable.not_not] at h7
            refine WC.skip ?_
            refine QX.normal_in ?_
            refine QX.then_ ?_
            refine WC.region ?_
            refine SL.pure rfl rfl rfl (PureOp.move rfl) ?_
            refine SL.pure rfl rfl rfl (PureOp.addN (k := 1) rfl rfl (fun _ => by omega)) ?_
            refine SL.pure rfl rfl rfl (PureOp.assign rfl) ?_
            refine SL.nil ?_
            refine QX.round 1 (k + 1) ⟨⟨(by first | omega | (dsimp only; omega)), allK_next hz (decide_eq_true (by omega))⟩, by first | omega | (dsimp only; omega)⟩ ⟨rfl, rfl, rfl, rfl, rfl, rfl, rfl, rfl, rfl, rfl, rfl, rfl, rfl, rfl, rfl, rfl, rfl, rfl, rfl, rfl, rfl, rfl, rfl, rfl, rfl, rfl, rfl, rfl, rfl, rfl, rfl, rfl, rfl, rfl, rfl, rfl, rfl, rfl, rfl, rfl, rfl, rfl, rfl, rfl, rfl, rfl, trivial⟩ rfl
        · try simp only [Bool.and_eq_true, Bool.or_eq_true, Bool.not_eq_true', Bool.not_eq_false', Bool.and_eq_false_iff, Bool.or_eq_false_iff, decide_eq_true_eq, decide_eq_false_iff_not, Int.not_lt, Int.not_le, ne_eq, Decidable.not_not] at h6
          refine WC.exit ?_
          refine QX.exit_then ?_
          refine QX.exit_then ?_
          refine QX.exit_hit ?_
          refine QX.then_ ?_
          refine WC.seq ?_
          refine WC.region ?_
          refine SL.pure rfl rfl rfl (PureOp.move rfl) ?_
          refine SL.pure rfl rfl rfl (PureOp.move rfl) ?_
          refine SL.pure rfl rfl rfl (PureOp.assign rfl) ?_
          refine SL.pure rfl rfl rfl (PureOp.assign rfl) ?_
          refine SL.pure rfl rfl rfl (PureOp.assign rfl) ?_
          refine SL.nil_then ?_
          refine WC.ret ?_
          refine QX.ret3 rfl rfl rfl rfl ?_
          intro w hw
          have ek : q = k := by omega
          rw [sumR_eq]
          rw [rval, ← hq, if_neg (by simp [h1]), if_neg (by simp [h2]), if_neg (by simp [hcr]), if_neg (by rw [(congrArg (allK (fitB c (useO q l P l.length))) ek).trans hz]; decide)]

end Go.Proofs.Ytngkbnaehkailaa
