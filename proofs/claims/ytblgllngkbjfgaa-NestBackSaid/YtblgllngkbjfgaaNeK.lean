import Derived.Test.YtblgllngkbjfgaaNeT
namespace Go.Proofs.Ytblgllngkbjfgaa
open Go Go.RowKit Eng
set_option linter.unusedVariables false
set_option linter.unusedSimpArgs false

theorem inR_bd {se ov : Int} (h : inR se ov = true) : 1 ≤ se ∧ se ≤ 999 ∧ 0 ≤ ov ∧ ov ≤ 999 := by
  simp only [inR, Bool.and_eq_true, decide_eq_true_eq] at h
  exact ⟨h.1.1.1, h.1.1.2, h.1.2, h.2⟩
theorem maxLen_le : maxLen ≤ 9223372036854775807 := by simp [maxLen]
set_option maxHeartbeats 4000000 in
set_option maxRecDepth 100000 in
theorem auth2_ok (nm : ByteArray) (se ov : Int) (cl : List Cl) (ac : Option Addr) (nc cc : Nat) (hnc : nc = cl.length) (hcb : nc ≤ 30) (w0 : World) (hin : inR se ov = true) : FnC Try.prog 21 [.agg #[.string nm, .int .i64 se, .int .i64 ov, .slice ac nc cc]] w0 fun v w' => v = .int .i64 (se + ov) := by
  refine fnc (N := 8) Try.func21 rfl rfl rfl ?_
  refine WC.seq ?_
  refine WC.region ?_
  refine SL.box rfl rfl rfl (fun b1 hb1 => ?_)
  refine SL.pure rfl rfl rfl (PureOp.assign rfl) ?_
  refine SL.nil_then ?_
  refine WC.seq ?_
  refine WC.region ?_
  refine SL.pure rfl rfl rfl (PureOp.fieldAddrT 1 Try.underlying24 rfl sz3 rfl rfl) ?_
  refine SL.pure rfl rfl rfl (PureOp.load (v := .int .i64 se) Try.underlying3 rfl rfl (fun _ => (CellIs.cells 0 rfl rfl))) ?_
  refine SL.pure rfl rfl rfl (PureOp.fieldAddrT 2 Try.underlying24 rfl sz3 rfl rfl) ?_
  refine SL.pure rfl rfl rfl (PureOp.load (v := .int .i64 ov) Try.underlying3 rfl rfl (fun _ => (CellIs.cells 0 rfl rfl))) ?_
  refine SL.pure rfl rfl rfl (PureOp.add rfl rfl (fun _ => by (have q1 := inR_bd hin; omega))) ?_
  refine SL.pure rfl rfl rfl (PureOp.assign rfl) ?_
  refine SL.nil_then ?_
  refine WC.ret ?_
  refine QX.ret1 rfl rfl ?_
  intro w hw
  rfl

set_option maxHeartbeats 4000000 in
set_option maxRecDepth 100000 in
theorem occurs_ok (nm eq : ByteArray) (se ov : Int) (cl : List Cl) (ac az : Option Addr) (cc cz : Nat) (hcb : cl.length ≤ 30) (hnm : nm.size ≤ maxLen) (hcs : ∀ i, i < cl.length → (nth cl i).1.size ≤ maxLen) (x : Nat) (hx : x < cl.length) (w0 : World) (hz : SliceIn w0 4 az 1 cz (rowsF enc24 [(nm, se, ov, (⟨ac, cc, cl⟩ : SliceV Cl))])) (hc : SliceIn w0 2 ac cl.length cc (rowsF enc47 cl)) : FnC Try.prog 47 [.agg #[.string eq, .slice az 1 cz], .int .i64 0, .int .i64 ((x : Nat) : Int)] w0 fun v w' => ∃ b, v = .bool b := by
  refine fnc (N := 54) Try.func47 rfl rfl rfl ?_
  refine WC.seq ?_
  refine WC.region ?_
  refine SL.box rfl rfl rfl (fun b1 hb1 => ?_)
  refine SL.pure rfl rfl rfl (PureOp.assign rfl) ?_
  refine SL.nil_then ?_
  refine WC.seq ?_
  refine WC.seq ?_
  refine WC.region ?_
  refine SL.pure rfl rfl rfl (PureOp.assign rfl) ?_
  refine SL.nil_then ?_
  refine WC.block ?_
  refine WC.loop (σ := Nat) (fun q_ => [(0, 0, .agg #[.string eq, .slice az 1 cz]), (1, 0, .int .i64 0), (2, 0, .int .i64 ((x : Nat) : Int)), (3, 0, .pointer (some ⟨b1, 0, none⟩)), (7, 0, .int .i64 ((q_ : Nat) : Int))]) (fun q_ => [Item.cells b1 [.string eq, .slice az 1 cz] 44]) (fun q_ => q_ ≤ 1) (fun q_ => 1 - q_) 1 (0) (Nat.zero_le _) ⟨rfl, rfl, rfl, rfl, rfl, rfl, rfl, rfl, rfl, rfl, trivial⟩ rfl ?_
  rintro ii hii
  refine WC.seq ?_
  refine WC.seq ?_
  refine WC.region ?_
  refine SL.pure rfl rfl rfl (PureOp.move rfl) ?_
  refine SL.pure rfl rfl rfl (PureOp.move rfl) ?_
  refine SL.pure rfl rfl rfl (PureOp.leq rfl rfl) ?_
  refine SL.nil_then ?_
  refine WC.cond rfl (fun h1 => ?_) (fun h1 => ?_)
  · try simp only [Bool.and_eq_true, Bool.or_eq_true, Bool.not_eq_true', Bool.not_eq_false', Bool.and_eq_false_iff, Bool.or_eq_false_iff, decide_eq_true_eq, decide_eq_false_iff_not, Int.not_lt, Int.not_le, ne_eq, Decidable.not_not] at h1
    obtain rfl : ii = 0 := by omega
    refine WC.skip ?_
    refine QX.then_ ?_
    refine WC.seq ?_
    refine WC.block ?_
    refine WC.seq ?_
    refine WC.region ?_
    refine SL.pure rfl rfl rfl (PureOp.assign rfl) ?_
    refine SL.nil_then ?_
    refine WC.block ?_
    refine WC.loop (σ := Nat) (fun q_ => [(0, 0, .agg #[.string eq, .slice az 1 cz]), (1, 0, .int .i64 0), (2, 0, .int .i64 ((x : Nat) : Int)), (3, 0, .pointer (some ⟨b1, 0, none⟩)), (7, 0, .int .i64 0), (9, 0, .int .i64 0), (10, 0, .int .i64 0), (11, 0, .bool (decide (((0 : Nat) : Int) ≤ 0))), (8, 0, .int .i64 ((q_ : Nat) : Int))]) (fun q_ => [Item.cells b1 [.string eq, .slice az 1 cz] 44]) (fun q_ => q_ ≤ cl.length) (fun q_ => cl.length - q_) 1 (0) (Nat.zero_le _) ⟨rfl, rfl, rfl, rfl, rfl, rfl, rfl, rfl, rfl, rfl, rfl, rfl, rfl, rfl, rfl, rfl, rfl, rfl, trivial⟩ rfl ?_
    rintro k hk
    refine WC.seq ?_
    refine WC.seq ?_
    refine WC.region ?_
    refine SL.pure rfl rfl rfl (PureOp.move rfl) ?_
    refine SL.pure rfl rfl rfl (PureOp.fieldAddrT 1 Try.underlying44 rfl sz42 rfl rfl) ?_
    refine SL.pure rfl rfl rfl (PureOp.load (v := .slice az 1 cz) Try.underlying42 rfl rfl (fun _ => (CellIs.cells 0 rfl rfl))) ?_
    refine SL.pure rfl rfl rfl (PureOp.move rfl) ?_
    refine SL.pure rfl rfl rfl (PureOp.indexAddr Try.underlying42 sz24 rfl rfl (AoOk.in_ hz) (fun _ => by omega)) ?_
    refine SL.pure rfl rfl rfl (PureOp.fieldAddr 3 Try.underlying24 rfl rfl sz22 rfl) ?_
    refine SL.pure rfl rfl rfl (PureOp.load (v := .slice ac cl.length cc) Try.underlying22 rfl rfl (fun _ => (CellIs.in_ hz (0 : Int).toNat 3 (by omega) (by omega)))) ?_
    refine SL.pure rfl rfl rfl (PureOp.len rfl Try.underlying22) ?_
    refine SL.pure rfl rfl rfl (PureOp.lss rfl rfl) ?_
    refine SL.nil_then ?_
    refine WC.cond rfl (fun h2 => ?_) (fun h2 => ?_)
    · try simp only [Bool.and_eq_true, Bool.or_eq_true, Bool.not_eq_true', Bool.not_eq_false', Bool.and_eq_false_iff, Bool.or_eq_false_iff, decide_eq_true_eq, decide_eq_false_iff_not, Int.not_lt, Int.not_le, ne_eq, Decidable.not_not] at h2
      refine WC.skip ?_
      refine QX.then_ ?_
      refine WC.seq ?_
      refine WC.block ?_
      refine WC.seq ?_
      refine WC.seq ?_
      refine WC.region ?_
      refine SL.pure rfl rfl rfl (PureOp.move rfl) ?_
      refine SL.pure rfl rfl rfl (PureOp.move rfl) ?_
      refine SL.pure rfl rfl rfl (PureOp.eql rfl rfl) ?_
      refine SL.pure rfl rfl rfl (PureOp.move rfl) ?_
      refine SL.newg 28 true rfl ?_
      refine SL.gpure (c := 1) rfl rfl rfl rfl rfl rfl rfl (PureOp.move rfl) ?_
      refine SL.gpure (c := 1) rfl rfl rfl rfl rfl rfl rfl (PureOp.move rfl) ?_
      refine SL.gpure (c := 1) rfl rfl rfl rfl rfl rfl rfl (PureOp.eql rfl rfl) ?_
      refine SL.pure rfl rfl rfl (PureOp.and_ rfl rfl rfl rfl) ?_
      refine SL.nil_then ?_
      refine WC.cond rfl (fun h3 => ?_) (fun h3 => ?_)
      · try simp only [Bool.and_eq_true, Bool.or_eq_true, Bool.not_eq_true', Bool.not_eq_false', Bool.and_eq_false_iff, Bool.or_eq_false_iff, decide_eq_true_eq, decide_eq_false_iff_not, Int.not_lt, Int.not_le, ne_eq, Decidable.not_not] at h3
        refine WC.seq ?_
        refine WC.region ?_
        refine SL.pure rfl rfl rfl (PureOp.assign rfl) ?_
        refine SL.nil_then ?_
        refine WC.ret ?_
        refine QX.ret_then ?_
        refine QX.ret_in ?_
        refine QX.ret_then ?_
        refine QX.ret_then ?_
        refine QX.ret_in ?_
        refine QX.ret_in ?_
        refine QX.ret_then ?_
        refine QX.ret_then ?_
        refine QX.ret_in ?_
        refine QX.ret_then ?_
        refine QX.ret1 rfl rfl ?_
        intro w hw
        exact ⟨_, rfl⟩
      · try simp only [Bool.and_eq_true, Bool.or_eq_true, Bool.not_eq_true', Bool.not_eq_false', Bool.and_eq_false_iff, Bool.or_eq_false_iff, decide_eq_true_eq, decide_eq_false_iff_not, Int.not_lt, Int.not_le, ne_eq, Decidable.not_not] at h3
        refine WC.skip ?_
        refine QX.then_ ?_
        refine WC.seq ?_
        refine WC.quiet rfl (by kernel_rfl) ?_
        refine SQ.pure rfl rfl rfl (PureOp.fieldAddrT 1 Try.underlying44 rfl sz42 rfl rfl) ?_
        refine SQ.pure rfl rfl rfl (PureOp.load (v := .slice az 1 cz) Try.underlying42 rfl rfl (fun _ => (CellIs.cells 0 rfl rfl))) ?_
        refine SQ.pure rfl rfl rfl (PureOp.move rfl) ?_
        refine SQ.pure rfl rfl rfl (PureOp.indexAddr Try.underlying42 sz24 rfl rfl (AoOk.in_ hz) (fun _ => by omega)) ?_
        refine SQ.pure rfl rfl rfl (PureOp.fieldAddr 3 Try.underlying24 rfl rfl sz22 rfl) ?_
        refine SQ.pure rfl rfl rfl (PureOp.load (v := .slice ac cl.length cc) Try.underlying22 rfl rfl (fun _ => (CellIs.in_ hz (0 : Int).toNat 3 (by omega) (by omega)))) ?_
        refine SQ.pure rfl rfl rfl (PureOp.move rfl) ?_
        refine SQ.pure rfl rfl rfl (PureOp.indexAddrN Try.underlying22 sz47 rfl rfl (AoOk.in_ hc) (fun _ => by omega)) ?_
        refine SQ.pure rfl rfl rfl (PureOp.fieldAddr 0 Try.underlying47 rfl rfl sz9 rfl) ?_
        refine SQ.pure rfl rfl rfl (PureOp.load (v := .string ((nth cl k).1)) Try.underlying9 rfl rfl (fun _ => (CellIs.in_ hc k 0 (by omega) (by omega)))) ?_
        refine SQ.pure rfl rfl rfl (PureOp.fieldAddrT 1 Try.underlying44 rfl sz42 rfl rfl) ?_
        refine SQ.pure rfl rfl rfl (PureOp.load (v := .slice az 1 cz) Try.underlying42 rfl rfl (fun _ => (CellIs.cells 0 rfl rfl))) ?_
        refine SQ.pure rfl rfl rfl (PureOp.move rfl) ?_
        refine SQ.pure rfl rfl rfl (PureOp.indexAddr Try.underlying42 sz24 rfl rfl (AoOk.in_ hz) (fun _ => by omega)) ?_
        refine SQ.pure rfl rfl rfl (PureOp.fieldAddr 3 Try.underlying24 rfl rfl sz22 rfl) ?_
        refine SQ.pure rfl rfl rfl (PureOp.load (v := .slice ac cl.length cc) Try.underlying22 rfl rfl (fun _ => (CellIs.in_ hz (0 : Int).toNat 3 (by omega) (by omega)))) ?_
        refine SQ.pure rfl rfl rfl (PureOp.move rfl) ?_
        refine SQ.pure rfl rfl rfl (PureOp.indexAddrN Try.underlying22 sz47 rfl rfl (AoOk.in_ hc) (fun _ => by omega)) ?_
        refine SQ.pure rfl rfl rfl (PureOp.fieldAddr 0 Try.underlying47 rfl rfl sz9 rfl) ?_
        refine SQ.pure rfl rfl rfl (PureOp.load (v := .string ((nth cl x).1)) Try.underlying9 rfl rfl (fun _ => (CellIs.in_ hc x 0 (by omega) (by omega)))) ?_
        refine SQ.pure rfl rfl rfl (PureOp.eqls rfl rfl) ?_
        refine SQ.nil_then ?_
        refine WC.cond rfl (fun h4 => ?_) (fun h4 => ?_)
        · try simp only [Bool.and_eq_true, Bool.or_eq_true, Bool.not_eq_true', Bool.not_eq_false', Bool.and_eq_false_iff, Bool.or_eq_false_iff, decide_eq_true_eq, decide_eq_false_iff_not, Int.not_lt, Int.not_le, ne_eq, Decidable.not_not] at h4
          refine WC.seq ?_
          refine WC.region ?_
          refine SL.pure rfl rfl rfl (PureOp.assign rfl) ?_
          refine SL.nil_then ?_
          refine WC.ret ?_
          refine QX.ret_in ?_
          refine QX.ret_then ?_
          refine QX.ret_then ?_
          refine QX.ret_in ?_
          refine QX.ret_in ?_
          refine QX.ret_then ?_
          refine QX.ret_then ?_
          refine QX.ret_in ?_
          refine QX.ret_then ?_
          refine QX.ret1 rfl rfl ?_
          intro w hw
          exact ⟨_, rfl⟩
        · try simp only [Bool.and_eq_true, Bool.or_eq_true, Bool.not_eq_true', Bool.not_eq_false', Bool.and_eq_false_iff, Bool.or_eq_false_iff, decide_eq_true_eq, decide_eq_false_iff_not, Int.not_lt, Int.not_le, ne_eq, Decidable.not_not] at h4
          refine WC.skip ?_
          refine QX.normal_in ?_
          refine QX.then_ ?_
          refine WC.region ?_
          refine SL.pure rfl rfl rfl (PureOp.move rfl) ?_
          refine SL.pure rfl rfl rfl (PureOp.addN (k := 1) rfl rfl (fun _ => by omega)) ?_
          refine SL.pure rfl rfl rfl (PureOp.assign rfl) ?_
          refine SL.nil ?_
          refine QX.round 1 (k + 1) ⟨by omega, by first | omega | (dsimp only; omega)⟩ ⟨rfl, rfl, rfl, rfl, rfl, rfl, rfl, rfl, rfl, rfl, rfl, rfl, rfl, rfl, rfl, rfl, rfl, rfl, trivial⟩ rfl
    · try simp only [Bool.and_eq_true, Bool.or_eq_true, Bool.not_eq_true', Bool.not_eq_false', Bool.and_eq_false_iff, Bool.or_eq_false_iff, decide_eq_true_eq, decide_eq_false_iff_not, Int.not_lt, Int.not_le, ne_eq, Decidable.not_not] at h2
      refine WC.exit ?_
      refine QX.exit_then ?_
      refine QX.exit_then ?_
      refine QX.exit_hit ?_
      refine QX.normal_in ?_
      refine QX.then_ ?_
      refine WC.region ?_
      refine SL.pure rfl rfl rfl (PureOp.move rfl) ?_
      refine SL.pure rfl rfl rfl (PureOp.add rfl rfl (fun _ => by omega)) ?_
      refine SL.pure rfl rfl rfl (PureOp.assign rfl) ?_
      refine SL.nil ?_
      refine QX.round 1 (0 + 1) ⟨by omega, by first | omega | (dsimp only; omega)⟩ ⟨rfl, rfl, rfl, rfl, rfl, rfl, rfl, rfl, rfl, rfl, trivial⟩ rfl
  · try simp only [Bool.and_eq_true, Bool.or_eq_true, Bool.not_eq_true', Bool.not_eq_false', Bool.and_eq_false_iff, Bool.or_eq_false_iff, decide_eq_true_eq, decide_eq_false_iff_not, Int.not_lt, Int.not_le, ne_eq, Decidable.not_not] at h1
    refine WC.exit ?_
    refine QX.exit_then ?_
    refine QX.exit_then ?_
    refine QX.exit_hit ?_
    refine QX.then_ ?_
    refine WC.seq ?_
    refine WC.region ?_
    refine SL.pure rfl rfl rfl (PureOp.assign rfl) ?_
    refine SL.nil_then ?_
    refine WC.ret ?_
    refine QX.ret1 rfl rfl ?_
    intro w hw
    exact ⟨_, rfl⟩

theorem cls_step {se ov : Int} {cl : List Cl} {k j : Nat} {fs : List Flt} (hk : k ≤ cl.length) (hI : fs = [] → ∀ j, j < k → (0 ≤ (nth cl j).2 ∧ (0 < j → (nth cl (j - 1)).2 ≤ (nth cl j).2) ∧ (inR se ov = true → (nth cl j).2 ≤ se + ov))) (he : fs = []) (hj : j < k + 1)
    (h8 : (0 ≤ (nth cl k).2 ∧ ((k : Int) ≤ 0 ∨ (nth cl ((k : Int) - 1).toNat).2 ≤ (nth cl k).2)) ∧ (inR se ov = false ∨ (nth cl k).2 ≤ se + ov)) : (0 ≤ (nth cl j).2 ∧ (0 < j → (nth cl (j - 1)).2 ≤ (nth cl j).2) ∧ (inR se ov = true → (nth cl j).2 ≤ se + ov)) := by
  by_cases q : j = k
  · subst q
    refine ⟨h8.1.1, fun h => ?_, fun h => ?_⟩
    · rcases h8.1.2 with q | q
      · omega
      · rw [show ((j : Int) - 1).toNat = j - 1 from by omega] at q; exact q
    · rcases h8.2 with q | q
      · rw [h] at q; cases q
      · exact q
  · exact hI he j (by omega)
set_option maxHeartbeats 4000000 in
set_option maxRecDepth 100000 in
theorem classes_ok (nm eq : ByteArray) (se ov : Int) (cl : List Cl) (ac az : Option Addr) (cc cz : Nat) (hcb : cl.length ≤ 30) (hnm : nm.size ≤ maxLen) (hcs : ∀ i, i < cl.length → (nth cl i).1.size ≤ maxLen) (p : ByteArray) (hp : p.size ≤ 500) (w0 : World) (hz : SliceIn w0 4 az 1 cz (rowsF enc24 [(nm, se, ov, (⟨ac, cc, cl⟩ : SliceV Cl))])) (hc : SliceIn w0 2 ac cl.length cc (rowsF enc47 cl)) : FnC Try.prog 42 [.agg #[.string eq, .slice az 1 cz], .int .i64 0, .string p] w0 fun v w' => ∃ fs a c, v = .slice a fs.length c ∧ w'.ownsRow w0.heap.size 54 2 (.slice a fs.length c) fs.length (cellsOf enc54 fs) ∧ fs.length ≤ 90 ∧ (fs = [] → ∀ j, j < cl.length → (0 ≤ (nth cl j).2 ∧ (0 < j → (nth cl (j - 1)).2 ≤ (nth cl j).2) ∧ (inR se ov = true → (nth cl j).2 ≤ se + ov))) := by
  refine fnc (N := 86) Try.func42 rfl rfl rfl ?_
  refine WC.seq ?_
  refine WC.region ?_
  refine SL.box rfl rfl rfl (fun b1 hb1 => ?_)
  refine SL.pure rfl rfl rfl (PureOp.assign rfl) ?_
  refine SL.nil_then ?_
  refine WC.seq ?_
  refine WC.region ?_
  refine SL.addnil 54 2 ?_
  refine SL.pure rfl rfl rfl (PureOp.assign rfl) ?_
  refine SL.nil_then ?_
  refine WC.seq ?_
  refine WC.region ?_
  refine SL.pure rfl rfl rfl (PureOp.fieldAddrT 1 Try.underlying44 rfl sz42 rfl rfl) ?_
  refine SL.pure rfl rfl rfl (PureOp.load (v := .slice az 1 cz) Try.underlying42 rfl rfl (fun _ => (CellIs.cells 0 rfl rfl))) ?_
  refine SL.pure rfl rfl rfl (PureOp.move rfl) ?_
  refine SL.pure rfl rfl rfl (PureOp.indexAddr Try.underlying42 sz24 rfl rfl (AoOk.in_ hz) (fun _ => by omega)) ?_
  refine SL.pure rfl rfl rfl (PureOp.loads (vs := [.string nm, .int .i64 se, .int .i64 ov, .slice ac cl.length cc]) Try.underlying24 rfl rfl (fun _ => (RowIs.in_ hz (0 : Int).toNat 0 4 (by omega) (by omega))) sz24) ?_
  refine SL.alloc rfl rfl zero24 (fun b2 hb2 => ?_)
  refine SL.store 2 rfl rfl rfl rfl sz24 rfl rfl ?_
  refine SL.nil_then ?_
  refine WC.seq ?_
  refine WC.seq ?_
  refine WC.region ?_
  refine SL.pure rfl rfl rfl (PureOp.assign rfl) ?_
  refine SL.nil_then ?_
  refine WC.block ?_
  refine WC.loop (σ := Nat × Nat × Option Addr × Nat × List Flt) (fun q_ => [(0, 0, .agg #[.string eq, .slice az 1 cz]), (1, 0, .int .i64 0), (2, 0, .string p), (3, 0, .pointer (some ⟨b1, 0, none⟩)), (6, 0, .slice none 0 0), (8, 0, .pointer (some ⟨b2, 0, none⟩)), (12, 0, .pointer (some ⟨b1, 1, none⟩)), (13, 0, .slice az 1 cz), (14, 0, .int .i64 0), (15, 0, .pointer (some ⟨blk az, off az + ((0 : Int).toNat) * 4, none⟩)), (16, 0, .agg #[.string nm, .int .i64 se, .int .i64 ov, .slice ac cl.length cc]), (9, 0, .int .i64 ((q_.1 : Nat) : Int)), (7, 0, .slice q_.2.2.1 q_.2.1 q_.2.2.2.1)]) (fun q_ => [Item.cells b1 [.string eq, .slice az 1 cz] 44, Item.own w0.heap.size q_.2.2.1 q_.2.1 q_.2.2.2.1 54 2 (cellsOf enc54 (q_.2.2.2.2)), Item.cells b2 [.string nm, .int .i64 se, .int .i64 ov, .slice ac cl.length cc] 24]) (fun q_ => q_.1 ≤ cl.length ∧ q_.2.1 = q_.2.2.2.2.length ∧ q_.2.1 ≤ 3 * q_.1 ∧ (q_.2.2.2.2 = [] → ∀ j, j < q_.1 → (0 ≤ (nth cl j).2 ∧ (0 < j → (nth cl (j - 1)).2 ≤ (nth cl j).2) ∧ (inR se ov = true → (nth cl j).2 ≤ se + ov)))) (fun q_ => cl.length - q_.1) 3 ((0, 0, none, 0, [])) (⟨Nat.zero_le _, rfl, Nat.zero_le _, fun _ j hj => absurd hj (by show ¬ j < 0; omega)⟩) ⟨rfl, rfl, rfl, rfl, rfl, rfl, rfl, rfl, rfl, rfl, rfl, rfl, rfl, rfl, rfl, rfl, rfl, rfl, rfl, rfl, rfl, rfl, rfl, rfl, rfl, rfl, trivial⟩ rfl ?_
  rintro ⟨k, m, a, c, fs⟩ ⟨hk, hm, hm3, hI⟩
  try dsimp only at *
  refine WC.seq ?_
  refine WC.seq ?_
  refine WC.region ?_
  refine SL.pure rfl rfl rfl (PureOp.move rfl) ?_
  refine SL.pure rfl rfl rfl (PureOp.fieldAddrT 3 Try.underlying24 rfl sz22 rfl rfl) ?_
  refine SL.pure rfl rfl rfl (PureOp.load (v := .slice ac cl.length cc) Try.underlying22 rfl rfl (fun _ => (CellIs.cells 2 rfl rfl))) ?_
  refine SL.pure rfl rfl rfl (PureOp.len rfl Try.underlying22) ?_
  refine SL.pure rfl rfl rfl (PureOp.lss rfl rfl) ?_
  refine SL.nil_then ?_
  refine WC.cond rfl (fun h1 => ?_) (fun h1 => ?_)
  · try simp only [Bool.and_eq_true, Bool.or_eq_true, Bool.not_eq_true', Bool.not_eq_false', Bool.and_eq_false_iff, Bool.or_eq_false_iff, decide_eq_true_eq, decide_eq_false_iff_not, Int.not_lt, Int.not_le, ne_eq, Decidable.not_not] at h1
    refine WC.skip ?_
    refine QX.then_ ?_
    refine WC.seq ?_
    refine WC.block ?_
    refine WC.cutx (σ := Nat) (fun q_ => [(0, 0, .agg #[.string eq, .slice az 1 cz]), (1, 0, .int .i64 0), (2, 0, .string p), (3, 0, .pointer (some ⟨b1, 0, none⟩)), (6, 0, .slice none 0 0), (7, 0, .slice a m c), (8, 0, .pointer (some ⟨b2, 0, none⟩)), (9, 0, .int .i64 ((k : Nat) : Int)), (12, 0, .pointer (some ⟨b1, 1, none⟩)), (13, 0, .slice az 1 cz), (14, 0, .int .i64 0), (15, 0, .pointer (some ⟨blk az, off az + ((0 : Int).toNat) * 4, none⟩)), (16, 0, .agg #[.string nm, .int .i64 se, .int .i64 ov, .slice ac cl.length cc]), (17, 0, .int .i64 ((k : Nat) : Int)), (18, 0, .pointer (some ⟨b2, 3, none⟩)), (19, 0, .slice ac cl.length cc), (20, 0, .int .i64 ((cl.length : Nat) : Int)), (21, 0, .bool (decide (((k : Nat) : Int) < ((cl.length : Nat) : Int)))), (10, 0, .string (placeS p ⟨#[99, 108, 97, 115, 115]⟩ ((k : Nat) : Int))), (11, 0, .pointer (some ⟨q_, 0, none⟩))]) (fun q_ => [Item.cells b1 [.string eq, .slice az 1 cz] 44, Item.own w0.heap.size a m c 54 2 (cellsOf enc54 (fs)), Item.cells b2 [.string nm, .int .i64 se, .int .i64 ov, .slice ac cl.length cc] 24, Item.cells q_ [.string ((nth cl k).1), .int .i64 ((nth cl k).2)] 47]) (fun q_ => True) ?_ ?_
    · skip
      refine WC.drawH 11 [false, false, false, false, false, false, false, false, false, false, false] rfl rfl rfl ?_
      refine SD.take 0 [true, false, false, false, false, false, false, false, false, false, false] rfl (by kernel_rfl) rfl (fun _ h => h) rfl rfl rfl (PureOp.move rfl) ?_
      refine SD.take 1 [true, true, false, false, false, false, false, false, false, false, false] rfl (by kernel_rfl) rfl (fun _ h => h) rfl rfl rfl (PureOp.move rfl) ?_
      refine SD.take 3 [true, true, false, true, false, false, false, false, false, false, false] rfl (by kernel_rfl) rfl (fun _ h => h) rfl rfl rfl (PureOp.fieldAddrT 3 Try.underlying24 rfl sz22 rfl rfl) ?_
      refine SD.take 4 [true, true, false, true, true, false, false, false, false, false, false] rfl (by kernel_rfl) rfl (fun _ h => h) rfl rfl rfl (PureOp.load (v := .slice ac cl.length cc) Try.underlying22 rfl rfl (fun _ => (CellIs.cells 2 rfl rfl))) ?_
      refine SD.take 5 [true, true, false, true, true, true, false, false, false, false, false] rfl (by kernel_rfl) rfl (fun _ h => h) rfl rfl rfl (PureOp.move rfl) ?_
      refine SD.take 6 [true, true, false, true, true, true, true, false, false, false, false] rfl (by kernel_rfl) rfl (fun _ h => h) rfl rfl rfl (PureOp.indexAddrN Try.underlying22 sz47 rfl rfl (AoOk.in_ hc) (fun _ => by omega)) ?_
      refine SD.take 7 [true, true, false, true, true, true, true, true, false, false, false] rfl (by kernel_rfl) rfl (fun _ h => h) rfl rfl rfl (PureOp.loads (vs := [.string ((nth cl k).1), .int .i64 ((nth cl k).2)]) Try.underlying47 rfl rfl (fun _ => (RowIs.in_ hc k 0 2 (by omega) (by omega))) sz47) ?_
      refine SD.all [2, 8] (by kernel_rfl) (by simp) ⟨⟨_, [true, true, true, true, true, true, true, true, false, false, false], rfl, rfl, ?_⟩, ⟨_, [true, true, false, true, true, true, true, true, true, false, false], rfl, rfl, ?_⟩, trivial⟩
      · skip
        refine SL.calle rfl rfl rfl rfl rfl rfl callable30 (fun w hw => place_ok p (⟨#[99, 108, 97, 115, 115]⟩) (by omega) (by decide) ((k : Nat) : Int) (by omega) w) ?_
        refine SD.back (fun _ h => h) ?_
        refine SD.one 8 [true, true, true, true, true, true, true, true, true, false, false] (by kernel_rfl) rfl rfl ?_
        refine SL.alloc rfl rfl zero47 (fun b3 hb3 => ?_)
        refine SD.back (fun _ h => HeapOk.take h 3) ?_
        refine SD.take 9 [true, true, true, true, true, true, true, true, true, true, false] rfl (by kernel_rfl) rfl (fun _ h => HeapOk.take h 3) rfl rfl rfl (PureOp.assign rfl) ?_
        refine SD.one 10 [true, true, true, true, true, true, true, true, true, true, true] (by kernel_rfl) rfl rfl ?_
        refine SL.store 3 rfl rfl rfl rfl sz47 rfl rfl ?_
        refine SD.back (fun _ h => HeapOk.take h 3) ?_
        refine SD.done (by kernel_rfl) ?_
        refine QX.ofK ?_
        refine QX.cutx 4 (b3) (trivial) ⟨rfl, rfl, rfl, rfl, rfl, rfl, rfl, rfl, rfl, rfl, rfl, rfl, rfl, rfl, rfl, rfl, rfl, rfl, rfl, rfl, rfl, rfl, rfl, rfl, rfl, rfl, rfl, rfl, rfl, rfl, rfl, rfl, rfl, rfl, rfl, rfl, rfl, rfl, rfl, rfl, trivial⟩ rfl
      · skip
        refine SL.alloc rfl rfl zero47 (fun b4 hb4 => ?_)
        refine SD.back (fun _ h => HeapOk.take h 3) ?_
        refine SD.one 2 [true, true, true, true, true, true, true, true, true, false, false] (by kernel_rfl) rfl rfl ?_
        refine SL.calle rfl rfl rfl rfl rfl rfl callable30 (fun w hw => place_ok p (⟨#[99, 108, 97, 115, 115]⟩) (by omega) (by decide) ((k : Nat) : Int) (by omega) w) ?_
        refine SD.back (fun _ h => HeapOk.take h 3) ?_
        refine SD.take 9 [true, true, true, true, true, true, true, true, true, true, false] rfl (by kernel_rfl) rfl (fun _ h => HeapOk.take h 3) rfl rfl rfl (PureOp.assign rfl) ?_
        refine SD.one 10 [true, true, true, true, true, true, true, true, true, true, true] (by kernel_rfl) rfl rfl ?_
        refine SL.store 3 rfl rfl rfl rfl sz47 rfl rfl ?_
        refine SD.back (fun _ h => HeapOk.take h 3) ?_
        refine SD.done (by kernel_rfl) ?_
        refine QX.ofK ?_
        refine QX.cutx 4 (b4) (trivial) ⟨rfl, rfl, rfl, rfl, rfl, rfl, rfl, rfl, rfl, rfl, rfl, rfl, rfl, rfl, rfl, rfl, rfl, rfl, rfl, rfl, rfl, rfl, rfl, rfl, rfl, rfl, rfl, rfl, rfl, rfl, rfl, rfl, rfl, rfl, rfl, rfl, rfl, rfl, rfl, rfl, trivial⟩ rfl
    rintro b _
    refine WC.seq ?_
    refine WC.seq ?_
    refine WC.region ?_
    refine SL.pure rfl rfl rfl (PureOp.fieldAddrT 0 Try.underlying47 rfl sz9 rfl rfl) ?_
    refine SL.pure rfl rfl rfl (PureOp.load (v := .string ((nth cl k).1)) Try.underlying9 rfl rfl (fun _ => (CellIs.cells 3 rfl rfl))) ?_
    refine SL.calle rfl rfl rfl rfl rfl rfl callable46 (fun w hw => class_ok _ (by have q := hcs k (by omega); have q2 := maxLen_le; omega) w) ?_
    refine SL.pure rfl rfl rfl (PureOp.not rfl) ?_
    refine SL.nil_then ?_
    refine WC.cond rfl (fun h2 => ?_) (fun h2 => ?_)
    · try simp only [Bool.and_eq_true, Bool.or_eq_true, Bool.not_eq_true', Bool.not_eq_false', Bool.and_eq_false_iff, Bool.or_eq_false_iff, decide_eq_true_eq, decide_eq_false_iff_not, Int.not_lt, Int.not_le, ne_eq, Decidable.not_not] at h2
      refine WC.region ?_
      refine SL.pure rfl rfl rfl (PureOp.move rfl) ?_
      refine SL.pure rfl rfl rfl (PureOp.move rfl) ?_
      refine SL.pure rfl rfl rfl (PureOp.build bld54 rfl rfl) ?_
      refine SL.buildSlice rfl rfl Try.underlying40 elem54 rfl rfl rfl rfl (fun b5 hb5 => ?_)
      refine SL.append 1 rfl rfl Try.underlying40 elem54 rfl rfl rfl rfl (SrcIs.own 4 rfl) (by rfl) (by omega) (by omega) (fun ao1_ cap1_ => ?_)
      refine SL.itemxs 1 rfl (show _ = cellsOf enc54 (fs ++ [(16, (placeS p ⟨#[99, 108, 97, 115, 115]⟩ ((k : Nat) : Int)))]) from by rw [cellsOf_append (l := fs), cellsOf_one]; rfl) ?_
      refine SL.pure rfl rfl rfl (PureOp.assign rfl) ?_
      refine SL.nil_then ?_
      refine WC.seq ?_
      refine WC.seq ?_
      refine WC.region ?_
      refine SL.pure rfl rfl rfl (PureOp.loads (vs := [.string eq, .slice az 1 cz]) Try.underlying44 rfl rfl (fun _ => (RowIs.cells 0 0 2 rfl rfl)) sz44) ?_
      refine SL.pure rfl rfl rfl (PureOp.move rfl) ?_
      refine SL.pure rfl rfl rfl (PureOp.move rfl) ?_
      refine SL.callv rfl rfl rfl rfl rfl rfl callable47 (fun w hw => occurs_ok nm eq se ov cl ac az cc cz hcb hnm hcs k (by omega) w (hz.below hw.below) (hc.below hw.below)) ?_
      rintro v ⟨ob, rfl⟩
      refine SL.nil_then ?_
      refine WC.cond rfl (fun h3 => ?_) (fun h3 => ?_)
      · try simp only [Bool.and_eq_true, Bool.or_eq_true, Bool.not_eq_true', Bool.not_eq_false', Bool.and_eq_false_iff, Bool.or_eq_false_iff, decide_eq_true_eq, decide_eq_false_iff_not, Int.not_lt, Int.not_le, ne_eq, Decidable.not_not] at h3
        refine WC.region ?_
        refine SL.pure rfl rfl rfl (PureOp.move rfl) ?_
        refine SL.pure rfl rfl rfl (PureOp.move rfl) ?_
        refine SL.pure rfl rfl rfl (PureOp.build bld54 rfl rfl) ?_
        refine SL.buildSlice rfl rfl Try.underlying40 elem54 rfl rfl rfl rfl (fun b6 hb6 => ?_)
        refine SL.append 1 rfl rfl Try.underlying40 elem54 rfl rfl rfl rfl (SrcIs.own 5 rfl) (by rfl) (by omega) (by omega) (fun ao2_ cap2_ => ?_)
        refine SL.itemxs 1 rfl (show _ = cellsOf enc54 ((fs ++ [(16, (placeS p ⟨#[99, 108, 97, 115, 115]⟩ ((k : Nat) : Int)))]) ++ [(6, (placeS p ⟨#[99, 108, 97, 115, 115]⟩ ((k : Nat) : Int)))]) from by rw [cellsOf_append (l := (fs ++ [(16, (placeS p ⟨#[99, 108, 97, 115, 115]⟩ ((k : Nat) : Int)))])), cellsOf_one]; rfl) ?_
        refine SL.pure rfl rfl rfl (PureOp.assign rfl) ?_
        refine SL.nil_then ?_
        refine WC.seq ?_
        refine WC.quiet rfl (by kernel_rfl) ?_
        refine SQ.pure rfl rfl rfl (PureOp.fieldAddrT 1 Try.underlying47 rfl sz3 rfl rfl) ?_
        refine SQ.pure rfl rfl rfl (PureOp.load (v := .int .i64 ((nth cl k).2)) Try.underlying3 rfl rfl (fun _ => (CellIs.cells 3 rfl rfl))) ?_
        refine SQ.pure rfl rfl rfl (PureOp.lss rfl rfl) ?_
        refine SQ.pure rfl rfl rfl (PureOp.move rfl) ?_
        refine SQ.newg 53 false rfl ?_
        refine SQ.gpure (c := 1) rfl rfl rfl rfl rfl rfl rfl (PureOp.move rfl) ?_
        refine SQ.gpure (c := 1) rfl rfl rfl rfl rfl rfl rfl (PureOp.gtr rfl rfl) ?_
        refine SQ.gpure (c := 1) rfl rfl rfl rfl rfl rfl rfl (PureOp.move rfl) ?_
        refine SQ.newg 56 true rfl ?_
        refine SQ.gpure (c := 2) rfl rfl rfl rfl rfl rfl rfl (PureOp.fieldAddrT 1 Try.underlying47 rfl sz3 rfl rfl) ?_
        refine SQ.gpure (c := 2) rfl rfl rfl rfl rfl rfl rfl (PureOp.load (v := .int .i64 ((nth cl k).2)) Try.underlying3 rfl rfl (fun _ => (CellIs.cells 3 rfl rfl))) ?_
        refine SQ.gpure (c := 2) rfl rfl rfl rfl rfl rfl rfl (PureOp.fieldAddrT 3 Try.underlying24 rfl sz22 rfl rfl) ?_
        refine SQ.gpure (c := 2) rfl rfl rfl rfl rfl rfl rfl (PureOp.load (v := .slice ac cl.length cc) Try.underlying22 rfl rfl (fun _ => (CellIs.cells 2 rfl rfl))) ?_
        refine SQ.gpure (c := 2) rfl rfl rfl rfl rfl rfl rfl (PureOp.move rfl) ?_
        refine SQ.gpure (c := 2) rfl rfl rfl rfl rfl rfl rfl (PureOp.sub rfl rfl (by intro hg; simp [gval] at hg; omega)) ?_
        refine SQ.gpure (c := 2) rfl rfl rfl rfl rfl rfl rfl (PureOp.indexAddr Try.underlying22 sz47 rfl rfl (AoOk.in_ hc) (by intro hg; simp [gval] at hg; omega)) ?_
        refine SQ.gpure (c := 2) rfl rfl rfl rfl rfl rfl rfl (PureOp.fieldAddr 1 Try.underlying47 rfl rfl sz3 rfl) ?_
        refine SQ.gpure (c := 2) rfl rfl rfl rfl rfl rfl rfl (PureOp.load (v := .int .i64 ((nth cl ((((k : Nat) : Int) - 1).toNat)).2)) Try.underlying3 rfl rfl (by intro hg; simp [gval] at hg; exact (CellIs.in_ hc (((k : Nat) : Int) - 1).toNat 1 (by omega) (by omega)))) ?_
        refine SQ.gpure (c := 2) rfl rfl rfl rfl rfl rfl rfl (PureOp.lss rfl rfl) ?_
        refine SQ.gpure (c := 1) rfl rfl rfl rfl rfl rfl rfl (PureOp.and_ rfl rfl rfl rfl) ?_
        refine SQ.pure rfl rfl rfl (PureOp.or_ rfl rfl rfl rfl) ?_
        refine SQ.pure rfl rfl rfl (PureOp.move rfl) ?_
        refine SQ.newg 69 false rfl ?_
        refine SQ.gpure (c := 3) rfl rfl rfl rfl rfl rfl rfl (PureOp.loads (vs := [.string nm, .int .i64 se, .int .i64 ov, .slice ac cl.length cc]) Try.underlying24 rfl rfl (fun _ => (RowIs.cells 2 0 4 rfl rfl)) sz24) ?_
        refine SQ.gcalle (c := 3) rfl rfl rfl rfl rfl rfl rfl rfl rfl rfl callable41 (by intro hg; simp [gval] at hg; exact (fun w hw => inrange_ok nm se ov cl ac cl.length cc rfl (by omega) w)) ?_
        refine SQ.gpure (c := 3) rfl rfl rfl rfl rfl rfl rfl (PureOp.move rfl) ?_
        refine SQ.newg 72 true rfl ?_
        refine SQ.gpure (c := 4) rfl rfl rfl rfl rfl rfl rfl (PureOp.fieldAddrT 1 Try.underlying47 rfl sz3 rfl rfl) ?_
        refine SQ.gpure (c := 4) rfl rfl rfl rfl rfl rfl rfl (PureOp.load (v := .int .i64 ((nth cl k).2)) Try.underlying3 rfl rfl (fun _ => (CellIs.cells 3 rfl rfl))) ?_
        refine SQ.gpure (c := 4) rfl rfl rfl rfl rfl rfl rfl (PureOp.loads (vs := [.string nm, .int .i64 se, .int .i64 ov, .slice ac cl.length cc]) Try.underlying24 rfl rfl (fun _ => (RowIs.cells 2 0 4 rfl rfl)) sz24) ?_
        refine SQ.gcalle (c := 4) rfl rfl rfl rfl rfl rfl rfl rfl rfl rfl callable21 (by intro hg; simp [gval] at hg; exact (fun w hw => auth2_ok nm se ov cl ac cl.length cc rfl (by omega) w (by simp only [hg]))) ?_
        refine SQ.gpure (c := 4) rfl rfl rfl rfl rfl rfl rfl (PureOp.gtr rfl rfl) ?_
        refine SQ.gpure (c := 3) rfl rfl rfl rfl rfl rfl rfl (PureOp.and_ rfl rfl rfl rfl) ?_
        refine SQ.pure rfl rfl rfl (PureOp.or_ rfl rfl rfl rfl) ?_
        refine SQ.nil_then ?_
        refine WC.cond rfl (fun h4 => ?_) (fun h4 => ?_)
        · try simp only [Bool.and_eq_true, Bool.or_eq_true, Bool.not_eq_true', Bool.not_eq_false', Bool.and_eq_false_iff, Bool.or_eq_false_iff, decide_eq_true_eq, decide_eq_false_iff_not, Int.not_lt, Int.not_le, ne_eq, Decidable.not_not] at h4
          refine WC.region ?_
          refine SL.pure rfl rfl rfl (PureOp.move rfl) ?_
          refine SL.pure rfl rfl rfl (PureOp.move rfl) ?_
          refine SL.pure rfl rfl rfl (PureOp.build bld54 rfl rfl) ?_
          refine SL.buildSlice rfl rfl Try.underlying40 elem54 rfl rfl rfl rfl (fun b7 hb7 => ?_)
          refine SL.append 1 rfl rfl Try.underlying40 elem54 rfl rfl rfl rfl (SrcIs.own 6 rfl) (by rfl) (by omega) (by omega) (fun ao3_ cap3_ => ?_)
          refine SL.itemxs 1 rfl (show _ = cellsOf enc54 (((fs ++ [(16, (placeS p ⟨#[99, 108, 97, 115, 115]⟩ ((k : Nat) : Int)))]) ++ [(6, (placeS p ⟨#[99, 108, 97, 115, 115]⟩ ((k : Nat) : Int)))]) ++ [(2, (placeS p ⟨#[99, 108, 97, 115, 115]⟩ ((k : Nat) : Int)))]) from by rw [cellsOf_append (l := ((fs ++ [(16, (placeS p ⟨#[99, 108, 97, 115, 115]⟩ ((k : Nat) : Int)))]) ++ [(6, (placeS p ⟨#[99, 108, 97, 115, 115]⟩ ((k : Nat) : Int)))])), cellsOf_one]; rfl) ?_
          refine SL.pure rfl rfl rfl (PureOp.assign rfl) ?_
          refine SL.nil ?_
          refine QX.normal_in ?_
          refine QX.then_ ?_
          refine WC.region ?_
          refine SL.pure rfl rfl rfl (PureOp.move rfl) ?_
          refine SL.pure rfl rfl rfl (PureOp.addN (k := 1) rfl rfl (fun _ => by omega)) ?_
          refine SL.pure rfl rfl rfl (PureOp.assign rfl) ?_
          refine SL.nil ?_
          refine QX.round (σ := Nat × Nat × Option Addr × Nat × List Flt) (Ef := fun q_ => [(0, 0, .agg #[.string eq, .slice az 1 cz]), (1, 0, .int .i64 0), (2, 0, .string p), (3, 0, .pointer (some ⟨b1, 0, none⟩)), (6, 0, .slice none 0 0), (8, 0, .pointer (some ⟨b2, 0, none⟩)), (12, 0, .pointer (some ⟨b1, 1, none⟩)), (13, 0, .slice az 1 cz), (14, 0, .int .i64 0), (15, 0, .pointer (some ⟨blk az, off az + ((0 : Int).toNat) * 4, none⟩)), (16, 0, .agg #[.string nm, .int .i64 se, .int .i64 ov, .slice ac cl.length cc]), (9, 0, .int .i64 ((q_.1 : Nat) : Int)), (7, 0, .slice q_.2.2.1 q_.2.1 q_.2.2.2.1)]) (Hf := fun q_ => [Item.cells b1 [.string eq, .slice az 1 cz] 44, Item.own w0.heap.size q_.2.2.1 q_.2.1 q_.2.2.2.1 54 2 (cellsOf enc54 (q_.2.2.2.2)), Item.cells b2 [.string nm, .int .i64 se, .int .i64 ov, .slice ac cl.length cc] 24]) (I := fun q_ => q_.1 ≤ cl.length ∧ q_.2.1 = q_.2.2.2.2.length ∧ q_.2.1 ≤ 3 * q_.1 ∧ (q_.2.2.2.2 = [] → ∀ j, j < q_.1 → (0 ≤ (nth cl j).2 ∧ (0 < j → (nth cl (j - 1)).2 ≤ (nth cl j).2) ∧ (inR se ov = true → (nth cl j).2 ≤ se + ov)))) (μ := fun q_ => cl.length - q_.1) (s := (k, m, a, c, fs)) 3 ((k + 1, ((m + 1) + 1) + 1, ao3_, cap3_, ((fs ++ [(16, (placeS p ⟨#[99, 108, 97, 115, 115]⟩ ((k : Nat) : Int)))]) ++ [(6, (placeS p ⟨#[99, 108, 97, 115, 115]⟩ ((k : Nat) : Int)))]) ++ [(2, (placeS p ⟨#[99, 108, 97, 115, 115]⟩ ((k : Nat) : Int)))])) ⟨⟨(by first | omega | (dsimp only; omega)), by show _ = (((fs ++ [(16, (placeS p ⟨#[99, 108, 97, 115, 115]⟩ ((k : Nat) : Int)))]) ++ [(6, (placeS p ⟨#[99, 108, 97, 115, 115]⟩ ((k : Nat) : Int)))]) ++ [(2, (placeS p ⟨#[99, 108, 97, 115, 115]⟩ ((k : Nat) : Int)))]).length; simp only [List.length_append, List.length_cons, List.length_nil]; omega, (by first | omega | (dsimp only; omega)), fun he => absurd (show (((fs ++ [(16, (placeS p ⟨#[99, 108, 97, 115, 115]⟩ ((k : Nat) : Int)))]) ++ [(6, (placeS p ⟨#[99, 108, 97, 115, 115]⟩ ((k : Nat) : Int)))]) ++ [(2, (placeS p ⟨#[99, 108, 97, 115, 115]⟩ ((k : Nat) : Int)))]) = [] from he) (by simp)⟩, by first | omega | (dsimp only; omega)⟩ ⟨rfl, rfl, rfl, rfl, rfl, rfl, rfl, rfl, rfl, rfl, rfl, rfl, rfl, rfl, rfl, rfl, rfl, rfl, rfl, rfl, rfl, rfl, rfl, rfl, rfl, rfl, trivial⟩ rfl
        · try simp only [Bool.and_eq_true, Bool.or_eq_true, Bool.not_eq_true', Bool.not_eq_false', Bool.and_eq_false_iff, Bool.or_eq_false_iff, decide_eq_true_eq, decide_eq_false_iff_not, Int.not_lt, Int.not_le, ne_eq, Decidable.not_not] at h4
          refine WC.skip ?_
          refine QX.normal_in ?_
          refine QX.then_ ?_
          refine WC.region ?_
          refine SL.pure rfl rfl rfl (PureOp.move rfl) ?_
          refine SL.pure rfl rfl rfl (PureOp.addN (k := 1) rfl rfl (fun _ => by omega)) ?_
          refine SL.pure rfl rfl rfl (PureOp.assign rfl) ?_
          refine SL.nil ?_
          refine QX.round (σ := Nat × Nat × Option Addr × Nat × List Flt) (Ef := fun q_ => [(0, 0, .agg #[.string eq, .slice az 1 cz]), (1, 0, .int .i64 0), (2, 0, .string p), (3, 0, .pointer (some ⟨b1, 0, none⟩)), (6, 0, .slice none 0 0), (8, 0, .pointer (some ⟨b2, 0, none⟩)), (12, 0, .pointer (some ⟨b1, 1, none⟩)), (13, 0, .slice az 1 cz), (14, 0, .int .i64 0), (15, 0, .pointer (some ⟨blk az, off az + ((0 : Int).toNat) * 4, none⟩)), (16, 0, .agg #[.string nm, .int .i64 se, .int .i64 ov, .slice ac cl.length cc]), (9, 0, .int .i64 ((q_.1 : Nat) : Int)), (7, 0, .slice q_.2.2.1 q_.2.1 q_.2.2.2.1)]) (Hf := fun q_ => [Item.cells b1 [.string eq, .slice az 1 cz] 44, Item.own w0.heap.size q_.2.2.1 q_.2.1 q_.2.2.2.1 54 2 (cellsOf enc54 (q_.2.2.2.2)), Item.cells b2 [.string nm, .int .i64 se, .int .i64 ov, .slice ac cl.length cc] 24]) (I := fun q_ => q_.1 ≤ cl.length ∧ q_.2.1 = q_.2.2.2.2.length ∧ q_.2.1 ≤ 3 * q_.1 ∧ (q_.2.2.2.2 = [] → ∀ j, j < q_.1 → (0 ≤ (nth cl j).2 ∧ (0 < j → (nth cl (j - 1)).2 ≤ (nth cl j).2) ∧ (inR se ov = true → (nth cl j).2 ≤ se + ov)))) (μ := fun q_ => cl.length - q_.1) (s := (k, m, a, c, fs)) 3 ((k + 1, (m + 1) + 1, ao2_, cap2_, (fs ++ [(16, (placeS p ⟨#[99, 108, 97, 115, 115]⟩ ((k : Nat) : Int)))]) ++ [(6, (placeS p ⟨#[99, 108, 97, 115, 115]⟩ ((k : Nat) : Int)))])) ⟨⟨(by first | omega | (dsimp only; omega)), by show _ = ((fs ++ [(16, (placeS p ⟨#[99, 108, 97, 115, 115]⟩ ((k : Nat) : Int)))]) ++ [(6, (placeS p ⟨#[99, 108, 97, 115, 115]⟩ ((k : Nat) : Int)))]).length; simp only [List.length_append, List.length_cons, List.length_nil]; omega, (by first | omega | (dsimp only; omega)), fun he => absurd (show ((fs ++ [(16, (placeS p ⟨#[99, 108, 97, 115, 115]⟩ ((k : Nat) : Int)))]) ++ [(6, (placeS p ⟨#[99, 108, 97, 115, 115]⟩ ((k : Nat) : Int)))]) = [] from he) (by simp)⟩, by first | omega | (dsimp only; omega)⟩ ⟨rfl, rfl, rfl, rfl, rfl, rfl, rfl, rfl, rfl, rfl, rfl, rfl, rfl, rfl, rfl, rfl, rfl, rfl, rfl, rfl, rfl, rfl, rfl, rfl, rfl, rfl, trivial⟩ rfl
      · try simp only [Bool.and_eq_true, Bool.or_eq_true, Bool.not_eq_true', Bool.not_eq_false', Bool.and_eq_false_iff, Bool.or_eq_false_iff, decide_eq_true_eq, decide_eq_false_iff_not, Int.not_lt, Int.not_le, ne_eq, Decidable.not_not] at h3
        refine WC.skip ?_
        refine QX.then_ ?_
        refine WC.seq ?_
        refine WC.quiet rfl (by kernel_rfl) ?_
        refine SQ.pure rfl rfl rfl (PureOp.fieldAddrT 1 Try.underlying47 rfl sz3 rfl rfl) ?_
        refine SQ.pure rfl rfl rfl (PureOp.load (v := .int .i64 ((nth cl k).2)) Try.underlying3 rfl rfl (fun _ => (CellIs.cells 3 rfl rfl))) ?_
        refine SQ.pure rfl rfl rfl (PureOp.lss rfl rfl) ?_
        refine SQ.pure rfl rfl rfl (PureOp.move rfl) ?_
        refine SQ.newg 53 false rfl ?_
        refine SQ.gpure (c := 1) rfl rfl rfl rfl rfl rfl rfl (PureOp.move rfl) ?_
        refine SQ.gpure (c := 1) rfl rfl rfl rfl rfl rfl rfl (PureOp.gtr rfl rfl) ?_
        refine SQ.gpure (c := 1) rfl rfl rfl rfl rfl rfl rfl (PureOp.move rfl) ?_
        refine SQ.newg 56 true rfl ?_
        refine SQ.gpure (c := 2) rfl rfl rfl rfl rfl rfl rfl (PureOp.fieldAddrT 1 Try.underlying47 rfl sz3 rfl rfl) ?_
        refine SQ.gpure (c := 2) rfl rfl rfl rfl rfl rfl rfl (PureOp.load (v := .int .i64 ((nth cl k).2)) Try.underlying3 rfl rfl (fun _ => (CellIs.cells 3 rfl rfl))) ?_
        refine SQ.gpure (c := 2) rfl rfl rfl rfl rfl rfl rfl (PureOp.fieldAddrT 3 Try.underlying24 rfl sz22 rfl rfl) ?_
        refine SQ.gpure (c := 2) rfl rfl rfl rfl rfl rfl rfl (PureOp.load (v := .slice ac cl.length cc) Try.underlying22 rfl rfl (fun _ => (CellIs.cells 2 rfl rfl))) ?_
        refine SQ.gpure (c := 2) rfl rfl rfl rfl rfl rfl rfl (PureOp.move rfl) ?_
        refine SQ.gpure (c := 2) rfl rfl rfl rfl rfl rfl rfl (PureOp.sub rfl rfl (by intro hg; simp [gval] at hg; omega)) ?_
        refine SQ.gpure (c := 2) rfl rfl rfl rfl rfl rfl rfl (PureOp.indexAddr Try.underlying22 sz47 rfl rfl (AoOk.in_ hc) (by intro hg; simp [gval] at hg; omega)) ?_
        refine SQ.gpure (c := 2) rfl rfl rfl rfl rfl rfl rfl (PureOp.fieldAddr 1 Try.underlying47 rfl rfl sz3 rfl) ?_
        refine SQ.gpure (c := 2) rfl rfl rfl rfl rfl rfl rfl (PureOp.load (v := .int .i64 ((nth cl ((((k : Nat) : Int) - 1).toNat)).2)) Try.underlying3 rfl rfl (by intro hg; simp [gval] at hg; exact (CellIs.in_ hc (((k : Nat) : Int) - 1).toNat 1 (by omega) (by omega)))) ?_
        refine SQ.gpure (c := 2) rfl rfl rfl rfl rfl rfl rfl (PureOp.lss rfl rfl) ?_
        refine SQ.gpure (c := 1) rfl rfl rfl rfl rfl rfl rfl (PureOp.and_ rfl rfl rfl rfl) ?_
        refine SQ.pure rfl rfl rfl (PureOp.or_ rfl rfl rfl rfl) ?_
        refine SQ.pure rfl rfl rfl (PureOp.move rfl) ?_
        refine SQ.newg 69 false rfl ?_
        refine SQ.gpure (c := 3) rfl rfl rfl rfl rfl rfl rfl (PureOp.loads (vs := [.string nm, .int .i64 se, .int .i64 ov, .slice ac cl.length cc]) Try.underlying24 rfl rfl (fun _ => (RowIs.cells 2 0 4 rfl rfl)) sz24) ?_
        refine SQ.gcalle (c := 3) rfl rfl rfl rfl rfl rfl rfl rfl rfl rfl callable41 (by intro hg; simp [gval] at hg; exact (fun w hw => inrange_ok nm se ov cl ac cl.length cc rfl (by omega) w)) ?_
        refine SQ.gpure (c := 3) rfl rfl rfl rfl rfl rfl rfl (PureOp.move rfl) ?_
        refine SQ.newg 72 true rfl ?_
        refine SQ.gpure (c := 4) rfl rfl rfl rfl rfl rfl rfl (PureOp.fieldAddrT 1 Try.underlying47 rfl sz3 rfl rfl) ?_
        refine SQ.gpure (c := 4) rfl rfl rfl rfl rfl rfl rfl (PureOp.load (v := .int .i64 ((nth cl k).2)) Try.underlying3 rfl rfl (fun _ => (CellIs.cells 3 rfl rfl))) ?_
        refine SQ.gpure (c := 4) rfl rfl rfl rfl rfl rfl rfl (PureOp.loads (vs := [.string nm, .int .i64 se, .int .i64 ov, .slice ac cl.length cc]) Try.underlying24 rfl rfl (fun _ => (RowIs.cells 2 0 4 rfl rfl)) sz24) ?_
        refine SQ.gcalle (c := 4) rfl rfl rfl rfl rfl rfl rfl rfl rfl rfl callable21 (by intro hg; simp [gval] at hg; exact (fun w hw => auth2_ok nm se ov cl ac cl.length cc rfl (by omega) w (by simp only [hg]))) ?_
        refine SQ.gpure (c := 4) rfl rfl rfl rfl rfl rfl rfl (PureOp.gtr rfl rfl) ?_
        refine SQ.gpure (c := 3) rfl rfl rfl rfl rfl rfl rfl (PureOp.and_ rfl rfl rfl rfl) ?_
        refine SQ.pure rfl rfl rfl (PureOp.or_ rfl rfl rfl rfl) ?_
        refine SQ.nil_then ?_
        refine WC.cond rfl (fun h5 => ?_) (fun h5 => ?_)
        · try simp only [Bool.and_eq_true, Bool.or_eq_true, Bool.not_eq_true', Bool.not_eq_false', Bool.and_eq_false_iff, Bool.or_eq_false_iff, decide_eq_true_eq, decide_eq_false_iff_not, Int.not_lt, Int.not_le, ne_eq, Decidable.not_not] at h5
          refine WC.region ?_
          refine SL.pure rfl rfl rfl (PureOp.move rfl) ?_
          refine SL.pure rfl rfl rfl (PureOp.move rfl) ?_
          refine SL.pure rfl rfl rfl (PureOp.build bld54 rfl rfl) ?_
          refine SL.buildSlice rfl rfl Try.underlying40 elem54 rfl rfl rfl rfl (fun b8 hb8 => ?_)
          refine SL.append 1 rfl rfl Try.underlying40 elem54 rfl rfl rfl rfl (SrcIs.own 5 rfl) (by rfl) (by omega) (by omega) (fun ao4_ cap4_ => ?_)
          refine SL.itemxs 1 rfl (show _ = cellsOf enc54 ((fs ++ [(16, (placeS p ⟨#[99, 108, 97, 115, 115]⟩ ((k : Nat) : Int)))]) ++ [(2, (placeS p ⟨#[99, 108, 97, 115, 115]⟩ ((k : Nat) : Int)))]) from by rw [cellsOf_append (l := (fs ++ [(16, (placeS p ⟨#[99, 108, 97, 115, 115]⟩ ((k : Nat) : Int)))])), cellsOf_one]; rfl) ?_
          refine SL.pure rfl rfl rfl (PureOp.assign rfl) ?_
          refine SL.nil ?_
          refine QX.normal_in ?_
          refine QX.then_ ?_
          refine WC.region ?_
          refine SL.pure rfl rfl rfl (PureOp.move rfl) ?_
          refine SL.pure rfl rfl rfl (PureOp.addN (k := 1) rfl rfl (fun _ => by omega)) ?_
          refine SL.pure rfl rfl rfl (PureOp.assign rfl) ?_
          refine SL.nil ?_
          refine QX.round (σ := Nat × Nat × Option Addr × Nat × List Flt) (Ef := fun q_ => [(0, 0, .agg #[.string eq, .slice az 1 cz]), (1, 0, .int .i64 0), (2, 0, .string p), (3, 0, .pointer (some ⟨b1, 0, none⟩)), (6, 0, .slice none 0 0), (8, 0, .pointer (some ⟨b2, 0, none⟩)), (12, 0, .pointer (some ⟨b1, 1, none⟩)), (13, 0, .slice az 1 cz), (14, 0, .int .i64 0), (15, 0, .pointer (some ⟨blk az, off az + ((0 : Int).toNat) * 4, none⟩)), (16, 0, .agg #[.string nm, .int .i64 se, .int .i64 ov, .slice ac cl.length cc]), (9, 0, .int .i64 ((q_.1 : Nat) : Int)), (7, 0, .slice q_.2.2.1 q_.2.1 q_.2.2.2.1)]) (Hf := fun q_ => [Item.cells b1 [.string eq, .slice az 1 cz] 44, Item.own w0.heap.size q_.2.2.1 q_.2.1 q_.2.2.2.1 54 2 (cellsOf enc54 (q_.2.2.2.2)), Item.cells b2 [.string nm, .int .i64 se, .int .i64 ov, .slice ac cl.length cc] 24]) (I := fun q_ => q_.1 ≤ cl.length ∧ q_.2.1 = q_.2.2.2.2.length ∧ q_.2.1 ≤ 3 * q_.1 ∧ (q_.2.2.2.2 = [] → ∀ j, j < q_.1 → (0 ≤ (nth cl j).2 ∧ (0 < j → (nth cl (j - 1)).2 ≤ (nth cl j).2) ∧ (inR se ov = true → (nth cl j).2 ≤ se + ov)))) (μ := fun q_ => cl.length - q_.1) (s := (k, m, a, c, fs)) 3 ((k + 1, (m + 1) + 1, ao4_, cap4_, (fs ++ [(16, (placeS p ⟨#[99, 108, 97, 115, 115]⟩ ((k : Nat) : Int)))]) ++ [(2, (placeS p ⟨#[99, 108, 97, 115, 115]⟩ ((k : Nat) : Int)))])) ⟨⟨(by first | omega | (dsimp only; omega)), by show _ = ((fs ++ [(16, (placeS p ⟨#[99, 108, 97, 115, 115]⟩ ((k : Nat) : Int)))]) ++ [(2, (placeS p ⟨#[99, 108, 97, 115, 115]⟩ ((k : Nat) : Int)))]).length; simp only [List.length_append, List.length_cons, List.length_nil]; omega, (by first | omega | (dsimp only; omega)), fun he => absurd (show ((fs ++ [(16, (placeS p ⟨#[99, 108, 97, 115, 115]⟩ ((k : Nat) : Int)))]) ++ [(2, (placeS p ⟨#[99, 108, 97, 115, 115]⟩ ((k : Nat) : Int)))]) = [] from he) (by simp)⟩, by first | omega | (dsimp only; omega)⟩ ⟨rfl, rfl, rfl, rfl, rfl, rfl, rfl, rfl, rfl, rfl, rfl, rfl, rfl, rfl, rfl, rfl, rfl, rfl, rfl, rfl, rfl, rfl, rfl, rfl, rfl, rfl, trivial⟩ rfl
        · try simp only [Bool.and_eq_true, Bool.or_eq_true, Bool.not_eq_true', Bool.not_eq_false', Bool.and_eq_false_iff, Bool.or_eq_false_iff, decide_eq_true_eq, decide_eq_false_iff_not, Int.not_lt, Int.not_le, ne_eq, Decidable.not_not] at h5
          refine WC.skip ?_
          refine QX.normal_in ?_
          refine QX.then_ ?_
          refine WC.region ?_
          refine SL.pure rfl rfl rfl (PureOp.move rfl) ?_
          refine SL.pure rfl rfl rfl (PureOp.addN (k := 1) rfl rfl (fun _ => by omega)) ?_
          refine SL.pure rfl rfl rfl (PureOp.assign rfl) ?_
          refine SL.nil ?_
          refine QX.round (σ := Nat × Nat × Option Addr × Nat × List Flt) (Ef := fun q_ => [(0, 0, .agg #[.string eq, .slice az 1 cz]), (1, 0, .int .i64 0), (2, 0, .string p), (3, 0, .pointer (some ⟨b1, 0, none⟩)), (6, 0, .slice none 0 0), (8, 0, .pointer (some ⟨b2, 0, none⟩)), (12, 0, .pointer (some ⟨b1, 1, none⟩)), (13, 0, .slice az 1 cz), (14, 0, .int .i64 0), (15, 0, .pointer (some ⟨blk az, off az + ((0 : Int).toNat) * 4, none⟩)), (16, 0, .agg #[.string nm, .int .i64 se, .int .i64 ov, .slice ac cl.length cc]), (9, 0, .int .i64 ((q_.1 : Nat) : Int)), (7, 0, .slice q_.2.2.1 q_.2.1 q_.2.2.2.1)]) (Hf := fun q_ => [Item.cells b1 [.string eq, .slice az 1 cz] 44, Item.own w0.heap.size q_.2.2.1 q_.2.1 q_.2.2.2.1 54 2 (cellsOf enc54 (q_.2.2.2.2)), Item.cells b2 [.string nm, .int .i64 se, .int .i64 ov, .slice ac cl.length cc] 24]) (I := fun q_ => q_.1 ≤ cl.length ∧ q_.2.1 = q_.2.2.2.2.length ∧ q_.2.1 ≤ 3 * q_.1 ∧ (q_.2.2.2.2 = [] → ∀ j, j < q_.1 → (0 ≤ (nth cl j).2 ∧ (0 < j → (nth cl (j - 1)).2 ≤ (nth cl j).2) ∧ (inR se ov = true → (nth cl j).2 ≤ se + ov)))) (μ := fun q_ => cl.length - q_.1) (s := (k, m, a, c, fs)) 3 ((k + 1, m + 1, ao1_, cap1_, fs ++ [(16, (placeS p ⟨#[99, 108, 97, 115, 115]⟩ ((k : Nat) : Int)))])) ⟨⟨(by first | omega | (dsimp only; omega)), by show _ = (fs ++ [(16, (placeS p ⟨#[99, 108, 97, 115, 115]⟩ ((k : Nat) : Int)))]).length; simp only [List.length_append, List.length_cons, List.length_nil]; omega, (by first | omega | (dsimp only; omega)), fun he => absurd (show (fs ++ [(16, (placeS p ⟨#[99, 108, 97, 115, 115]⟩ ((k : Nat) : Int)))]) = [] from he) (by simp)⟩, by first | omega | (dsimp only; omega)⟩ ⟨rfl, rfl, rfl, rfl, rfl, rfl, rfl, rfl, rfl, rfl, rfl, rfl, rfl, rfl, rfl, rfl, rfl, rfl, rfl, rfl, rfl, rfl, rfl, rfl, rfl, rfl, trivial⟩ rfl
    · try simp only [Bool.and_eq_true, Bool.or_eq_true, Bool.not_eq_true', Bool.not_eq_false', Bool.and_eq_false_iff, Bool.or_eq_false_iff, decide_eq_true_eq, decide_eq_false_iff_not, Int.not_lt, Int.not_le, ne_eq, Decidable.not_not] at h2
      refine WC.skip ?_
      refine QX.then_ ?_
      refine WC.seq ?_
      refine WC.seq ?_
      refine WC.region ?_
      refine SL.pure rfl rfl rfl (PureOp.loads (vs := [.string eq, .slice az 1 cz]) Try.underlying44 rfl rfl (fun _ => (RowIs.cells 0 0 2 rfl rfl)) sz44) ?_
      refine SL.pure rfl rfl rfl (PureOp.move rfl) ?_
      refine SL.pure rfl rfl rfl (PureOp.move rfl) ?_
      refine SL.callv rfl rfl rfl rfl rfl rfl callable47 (fun w hw => occurs_ok nm eq se ov cl ac az cc cz hcb hnm hcs k (by omega) w (hz.below hw.below) (hc.below hw.below)) ?_
      rintro v ⟨ob, rfl⟩
      refine SL.nil_then ?_
      refine WC.cond rfl (fun h6 => ?_) (fun h6 => ?_)
      · try simp only [Bool.and_eq_true, Bool.or_eq_true, Bool.not_eq_true', Bool.not_eq_false', Bool.and_eq_false_iff, Bool.or_eq_false_iff, decide_eq_true_eq, decide_eq_false_iff_not, Int.not_lt, Int.not_le, ne_eq, Decidable.not_not] at h6
        refine WC.region ?_
        refine SL.pure rfl rfl rfl (PureOp.move rfl) ?_
        refine SL.pure rfl rfl rfl (PureOp.move rfl) ?_
        refine SL.pure rfl rfl rfl (PureOp.build bld54 rfl rfl) ?_
        refine SL.buildSlice rfl rfl Try.underlying40 elem54 rfl rfl rfl rfl (fun b9 hb9 => ?_)
        refine SL.append 1 rfl rfl Try.underlying40 elem54 rfl rfl rfl rfl (SrcIs.own 4 rfl) (by rfl) (by omega) (by omega) (fun ao5_ cap5_ => ?_)
        refine SL.itemxs 1 rfl (show _ = cellsOf enc54 (fs ++ [(6, (placeS p ⟨#[99, 108, 97, 115, 115]⟩ ((k : Nat) : Int)))]) from by rw [cellsOf_append (l := fs), cellsOf_one]; rfl) ?_
        refine SL.pure rfl rfl rfl (PureOp.assign rfl) ?_
        refine SL.nil_then ?_
        refine WC.seq ?_
        refine WC.quiet rfl (by kernel_rfl) ?_
        refine SQ.pure rfl rfl rfl (PureOp.fieldAddrT 1 Try.underlying47 rfl sz3 rfl rfl) ?_
        refine SQ.pure rfl rfl rfl (PureOp.load (v := .int .i64 ((nth cl k).2)) Try.underlying3 rfl rfl (fun _ => (CellIs.cells 3 rfl rfl))) ?_
        refine SQ.pure rfl rfl rfl (PureOp.lss rfl rfl) ?_
        refine SQ.pure rfl rfl rfl (PureOp.move rfl) ?_
        refine SQ.newg 53 false rfl ?_
        refine SQ.gpure (c := 1) rfl rfl rfl rfl rfl rfl rfl (PureOp.move rfl) ?_
        refine SQ.gpure (c := 1) rfl rfl rfl rfl rfl rfl rfl (PureOp.gtr rfl rfl) ?_
        refine SQ.gpure (c := 1) rfl rfl rfl rfl rfl rfl rfl (PureOp.move rfl) ?_
        refine SQ.newg 56 true rfl ?_
        refine SQ.gpure (c := 2) rfl rfl rfl rfl rfl rfl rfl (PureOp.fieldAddrT 1 Try.underlying47 rfl sz3 rfl rfl) ?_
        refine SQ.gpure (c := 2) rfl rfl rfl rfl rfl rfl rfl (PureOp.load (v := .int .i64 ((nth cl k).2)) Try.underlying3 rfl rfl (fun _ => (CellIs.cells 3 rfl rfl))) ?_
        refine SQ.gpure (c := 2) rfl rfl rfl rfl rfl rfl rfl (PureOp.fieldAddrT 3 Try.underlying24 rfl sz22 rfl rfl) ?_
        refine SQ.gpure (c := 2) rfl rfl rfl rfl rfl rfl rfl (PureOp.load (v := .slice ac cl.length cc) Try.underlying22 rfl rfl (fun _ => (CellIs.cells 2 rfl rfl))) ?_
        refine SQ.gpure (c := 2) rfl rfl rfl rfl rfl rfl rfl (PureOp.move rfl) ?_
        refine SQ.gpure (c := 2) rfl rfl rfl rfl rfl rfl rfl (PureOp.sub rfl rfl (by intro hg; simp [gval] at hg; omega)) ?_
        refine SQ.gpure (c := 2) rfl rfl rfl rfl rfl rfl rfl (PureOp.indexAddr Try.underlying22 sz47 rfl rfl (AoOk.in_ hc) (by intro hg; simp [gval] at hg; omega)) ?_
        refine SQ.gpure (c := 2) rfl rfl rfl rfl rfl rfl rfl (PureOp.fieldAddr 1 Try.underlying47 rfl rfl sz3 rfl) ?_
        refine SQ.gpure (c := 2) rfl rfl rfl rfl rfl rfl rfl (PureOp.load (v := .int .i64 ((nth cl ((((k : Nat) : Int) - 1).toNat)).2)) Try.underlying3 rfl rfl (by intro hg; simp [gval] at hg; exact (CellIs.in_ hc (((k : Nat) : Int) - 1).toNat 1 (by omega) (by omega)))) ?_
        refine SQ.gpure (c := 2) rfl rfl rfl rfl rfl rfl rfl (PureOp.lss rfl rfl) ?_
        refine SQ.gpure (c := 1) rfl rfl rfl rfl rfl rfl rfl (PureOp.and_ rfl rfl rfl rfl) ?_
        refine SQ.pure rfl rfl rfl (PureOp.or_ rfl rfl rfl rfl) ?_
        refine SQ.pure rfl rfl rfl (PureOp.move rfl) ?_
        refine SQ.newg 69 false rfl ?_
        refine SQ.gpure (c := 3) rfl rfl rfl rfl rfl rfl rfl (PureOp.loads (vs := [.string nm, .int .i64 se, .int .i64 ov, .slice ac cl.length cc]) Try.underlying24 rfl rfl (fun _ => (RowIs.cells 2 0 4 rfl rfl)) sz24) ?_
        refine SQ.gcalle (c := 3) rfl rfl rfl rfl rfl rfl rfl rfl rfl rfl callable41 (by intro hg; simp [gval] at hg; exact (fun w hw => inrange_ok nm se ov cl ac cl.length cc rfl (by omega) w)) ?_
        refine SQ.gpure (c := 3) rfl rfl rfl rfl rfl rfl rfl (PureOp.move rfl) ?_
        refine SQ.newg 72 true rfl ?_
        refine SQ.gpure (c := 4) rfl rfl rfl rfl rfl rfl rfl (PureOp.fieldAddrT 1 Try.underlying47 rfl sz3 rfl rfl) ?_
        refine SQ.gpure (c := 4) rfl rfl rfl rfl rfl rfl rfl (PureOp.load (v := .int .i64 ((nth cl k).2)) Try.underlying3 rfl rfl (fun _ => (CellIs.cells 3 rfl rfl))) ?_
        refine SQ.gpure (c := 4) rfl rfl rfl rfl rfl rfl rfl (PureOp.loads (vs := [.string nm, .int .i64 se, .int .i64 ov, .slice ac cl.length cc]) Try.underlying24 rfl rfl (fun _ => (RowIs.cells 2 0 4 rfl rfl)) sz24) ?_
        refine SQ.gcalle (c := 4) rfl rfl rfl rfl rfl rfl rfl rfl rfl rfl callable21 (by intro hg; simp [gval] at hg; exact (fun w hw => auth2_ok nm se ov cl ac cl.length cc rfl (by omega) w (by simp only [hg]))) ?_
        refine SQ.gpure (c := 4) rfl rfl rfl rfl rfl rfl rfl (PureOp.gtr rfl rfl) ?_
        refine SQ.gpure (c := 3) rfl rfl rfl rfl rfl rfl rfl (PureOp.and_ rfl rfl rfl rfl) ?_
        refine SQ.pure rfl rfl rfl (PureOp.or_ rfl rfl rfl rfl) ?_
        refine SQ.nil_then ?_
        refine WC.cond rfl (fun h7 => ?_) (fun h7 => ?_)
        · try simp only [Bool.and_eq_true, Bool.or_eq_true, Bool.not_eq_true', Bool.not_eq_false', Bool.and_eq_false_iff, Bool.or_eq_false_iff, decide_eq_true_eq, decide_eq_false_iff_not, Int.not_lt, Int.not_le, ne_eq, Decidable.not_not] at h7
          refine WC.region ?_
          refine SL.pure rfl rfl rfl (PureOp.move rfl) ?_
          refine SL.pure rfl rfl rfl (PureOp.move rfl) ?_
          refine SL.pure rfl rfl rfl (PureOp.build bld54 rfl rfl) ?_
          refine SL.buildSlice rfl rfl Try.underlying40 elem54 rfl rfl rfl rfl (fun b10 hb10 => ?_)
          refine SL.append 1 rfl rfl Try.underlying40 elem54 rfl rfl rfl rfl (SrcIs.own 5 rfl) (by rfl) (by omega) (by omega) (fun ao6_ cap6_ => ?_)
          refine SL.itemxs 1 rfl (show _ = cellsOf enc54 ((fs ++ [(6, (placeS p ⟨#[99, 108, 97, 115, 115]⟩ ((k : Nat) : Int)))]) ++ [(2, (placeS p ⟨#[99, 108, 97, 115, 115]⟩ ((k : Nat) : Int)))]) from by rw [cellsOf_append (l := (fs ++ [(6, (placeS p ⟨#[99, 108, 97, 115, 115]⟩ ((k : Nat) : Int)))])), cellsOf_one]; rfl) ?_
          refine SL.pure rfl rfl rfl (PureOp.assign rfl) ?_
          refine SL.nil ?_
          refine QX.normal_in ?_
          refine QX.then_ ?_
          refine WC.region ?_
          refine SL.pure rfl rfl rfl (PureOp.move rfl) ?_
          refine SL.pure rfl rfl rfl (PureOp.addN (k := 1) rfl rfl (fun _ => by omega)) ?_
          refine SL.pure rfl rfl rfl (PureOp.assign rfl) ?_
          refine SL.nil ?_
          refine QX.round (σ := Nat × Nat × Option Addr × Nat × List Flt) (Ef := fun q_ => [(0, 0, .agg #[.string eq, .slice az 1 cz]), (1, 0, .int .i64 0), (2, 0, .string p), (3, 0, .pointer (some ⟨b1, 0, none⟩)), (6, 0, .slice none 0 0), (8, 0, .pointer (some ⟨b2, 0, none⟩)), (12, 0, .pointer (some ⟨b1, 1, none⟩)), (13, 0, .slice az 1 cz), (14, 0, .int .i64 0), (15, 0, .pointer (some ⟨blk az, off az + ((0 : Int).toNat) * 4, none⟩)), (16, 0, .agg #[.string nm, .int .i64 se, .int .i64 ov, .slice ac cl.length cc]), (9, 0, .int .i64 ((q_.1 : Nat) : Int)), (7, 0, .slice q_.2.2.1 q_.2.1 q_.2.2.2.1)]) (Hf := fun q_ => [Item.cells b1 [.string eq, .slice az 1 cz] 44, Item.own w0.heap.size q_.2.2.1 q_.2.1 q_.2.2.2.1 54 2 (cellsOf enc54 (q_.2.2.2.2)), Item.cells b2 [.string nm, .int .i64 se, .int .i64 ov, .slice ac cl.length cc] 24]) (I := fun q_ => q_.1 ≤ cl.length ∧ q_.2.1 = q_.2.2.2.2.length ∧ q_.2.1 ≤ 3 * q_.1 ∧ (q_.2.2.2.2 = [] → ∀ j, j < q_.1 → (0 ≤ (nth cl j).2 ∧ (0 < j → (nth cl (j - 1)).2 ≤ (nth cl j).2) ∧ (inR se ov = true → (nth cl j).2 ≤ se + ov)))) (μ := fun q_ => cl.length - q_.1) (s := (k, m, a, c, fs)) 3 ((k + 1, (m + 1) + 1, ao6_, cap6_, (fs ++ [(6, (placeS p ⟨#[99, 108, 97, 115, 115]⟩ ((k : Nat) : Int)))]) ++ [(2, (placeS p ⟨#[99, 108, 97, 115, 115]⟩ ((k : Nat) : Int)))])) ⟨⟨(by first | omega | (dsimp only; omega)), by show _ = ((fs ++ [(6, (placeS p ⟨#[99, 108, 97, 115, 115]⟩ ((k : Nat) : Int)))]) ++ [(2, (placeS p ⟨#[99, 108, 97, 115, 115]⟩ ((k : Nat) : Int)))]).length; simp only [List.length_append, List.length_cons, List.length_nil]; omega, (by first | omega | (dsimp only; omega)), fun he => absurd (show ((fs ++ [(6, (placeS p ⟨#[99, 108, 97, 115, 115]⟩ ((k : Nat) : Int)))]) ++ [(2, (placeS p ⟨#[99, 108, 97, 115, 115]⟩ ((k : Nat) : Int)))]) = [] from he) (by simp)⟩, by first | omega | (dsimp only; omega)⟩ ⟨rfl, rfl, rfl, rfl, rfl, rfl, rfl, rfl, rfl, rfl, rfl, rfl, rfl, rfl, rfl, rfl, rfl, rfl, rfl, rfl, rfl, rfl, rfl, rfl, rfl, rfl, trivial⟩ rfl
        · try simp only [Bool.and_eq_true, Bool.or_eq_true, Bool.not_eq_true', Bool.not_eq_false', Bool.and_eq_false_iff, Bool.or_eq_false_iff, decide_eq_true_eq, decide_eq_false_iff_not, Int.not_lt, Int.not_le, ne_eq, Decidable.not_not] at h7
          refine WC.skip ?_
          refine QX.normal_in ?_
          refine QX.then_ ?_
          refine WC.region ?_
          refine SL.pure rfl rfl rfl (PureOp.move rfl) ?_
          refine SL.pure rfl rfl rfl (PureOp.addN (k := 1) rfl rfl (fun _ => by omega)) ?_
          refine SL.pure rfl rfl rfl (PureOp.assign rfl) ?_
          refine SL.nil ?_
          refine QX.round (σ := Nat × Nat × Option Addr × Nat × List Flt) (Ef := fun q_ => [(0, 0, .agg #[.string eq, .slice az 1 cz]), (1, 0, .int .i64 0), (2, 0, .string p), (3, 0, .pointer (some ⟨b1, 0, none⟩)), (6, 0, .slice none 0 0), (8, 0, .pointer (some ⟨b2, 0, none⟩)), (12, 0, .pointer (some ⟨b1, 1, none⟩)), (13, 0, .slice az 1 cz), (14, 0, .int .i64 0), (15, 0, .pointer (some ⟨blk az, off az + ((0 : Int).toNat) * 4, none⟩)), (16, 0, .agg #[.string nm, .int .i64 se, .int .i64 ov, .slice ac cl.length cc]), (9, 0, .int .i64 ((q_.1 : Nat) : Int)), (7, 0, .slice q_.2.2.1 q_.2.1 q_.2.2.2.1)]) (Hf := fun q_ => [Item.cells b1 [.string eq, .slice az 1 cz] 44, Item.own w0.heap.size q_.2.2.1 q_.2.1 q_.2.2.2.1 54 2 (cellsOf enc54 (q_.2.2.2.2)), Item.cells b2 [.string nm, .int .i64 se, .int .i64 ov, .slice ac cl.length cc] 24]) (I := fun q_ => q_.1 ≤ cl.length ∧ q_.2.1 = q_.2.2.2.2.length ∧ q_.2.1 ≤ 3 * q_.1 ∧ (q_.2.2.2.2 = [] → ∀ j, j < q_.1 → (0 ≤ (nth cl j).2 ∧ (0 < j → (nth cl (j - 1)).2 ≤ (nth cl j).2) ∧ (inR se ov = true → (nth cl j).2 ≤ se + ov)))) (μ := fun q_ => cl.length - q_.1) (s := (k, m, a, c, fs)) 3 ((k + 1, m + 1, ao5_, cap5_, fs ++ [(6, (placeS p ⟨#[99, 108, 97, 115, 115]⟩ ((k : Nat) : Int)))])) ⟨⟨(by first | omega | (dsimp only; omega)), by show _ = (fs ++ [(6, (placeS p ⟨#[99, 108, 97, 115, 115]⟩ ((k : Nat) : Int)))]).length; simp only [List.length_append, List.length_cons, List.length_nil]; omega, (by first | omega | (dsimp only; omega)), fun he => absurd (show (fs ++ [(6, (placeS p ⟨#[99, 108, 97, 115, 115]⟩ ((k : Nat) : Int)))]) = [] from he) (by simp)⟩, by first | omega | (dsimp only; omega)⟩ ⟨rfl, rfl, rfl, rfl, rfl, rfl, rfl, rfl, rfl, rfl, rfl, rfl, rfl, rfl, rfl, rfl, rfl, rfl, rfl, rfl, rfl, rfl, rfl, rfl, rfl, rfl, trivial⟩ rfl
      · try simp only [Bool.and_eq_true, Bool.or_eq_true, Bool.not_eq_true', Bool.not_eq_false', Bool.and_eq_false_iff, Bool.or_eq_false_iff, decide_eq_true_eq, decide_eq_false_iff_not, Int.not_lt, Int.not_le, ne_eq, Decidable.not_not] at h6
        refine WC.skip ?_
        refine QX.then_ ?_
        refine WC.seq ?_
        refine WC.quiet rfl (by kernel_rfl) ?_
        refine SQ.pure rfl rfl rfl (PureOp.fieldAddrT 1 Try.underlying47 rfl sz3 rfl rfl) ?_
        refine SQ.pure rfl rfl rfl (PureOp.load (v := .int .i64 ((nth cl k).2)) Try.underlying3 rfl rfl (fun _ => (CellIs.cells 3 rfl rfl))) ?_
        refine SQ.pure rfl rfl rfl (PureOp.lss rfl rfl) ?_
        refine SQ.pure rfl rfl rfl (PureOp.move rfl) ?_
        refine SQ.newg 53 false rfl ?_
        refine SQ.gpure (c := 1) rfl rfl rfl rfl rfl rfl rfl (PureOp.move rfl) ?_
        refine SQ.gpure (c := 1) rfl rfl rfl rfl rfl rfl rfl (PureOp.gtr rfl rfl) ?_
        refine SQ.gpure (c := 1) rfl rfl rfl rfl rfl rfl rfl (PureOp.move rfl) ?_
        refine SQ.newg 56 true rfl ?_
        refine SQ.gpure (c := 2) rfl rfl rfl rfl rfl rfl rfl (PureOp.fieldAddrT 1 Try.underlying47 rfl sz3 rfl rfl) ?_
        refine SQ.gpure (c := 2) rfl rfl rfl rfl rfl rfl rfl (PureOp.load (v := .int .i64 ((nth cl k).2)) Try.underlying3 rfl rfl (fun _ => (CellIs.cells 3 rfl rfl))) ?_
        refine SQ.gpure (c := 2) rfl rfl rfl rfl rfl rfl rfl (PureOp.fieldAddrT 3 Try.underlying24 rfl sz22 rfl rfl) ?_
        refine SQ.gpure (c := 2) rfl rfl rfl rfl rfl rfl rfl (PureOp.load (v := .slice ac cl.length cc) Try.underlying22 rfl rfl (fun _ => (CellIs.cells 2 rfl rfl))) ?_
        refine SQ.gpure (c := 2) rfl rfl rfl rfl rfl rfl rfl (PureOp.move rfl) ?_
        refine SQ.gpure (c := 2) rfl rfl rfl rfl rfl rfl rfl (PureOp.sub rfl rfl (by intro hg; simp [gval] at hg; omega)) ?_
        refine SQ.gpure (c := 2) rfl rfl rfl rfl rfl rfl rfl (PureOp.indexAddr Try.underlying22 sz47 rfl rfl (AoOk.in_ hc) (by intro hg; simp [gval] at hg; omega)) ?_
        refine SQ.gpure (c := 2) rfl rfl rfl rfl rfl rfl rfl (PureOp.fieldAddr 1 Try.underlying47 rfl rfl sz3 rfl) ?_
        refine SQ.gpure (c := 2) rfl rfl rfl rfl rfl rfl rfl (PureOp.load (v := .int .i64 ((nth cl ((((k : Nat) : Int) - 1).toNat)).2)) Try.underlying3 rfl rfl (by intro hg; simp [gval] at hg; exact (CellIs.in_ hc (((k : Nat) : Int) - 1).toNat 1 (by omega) (by omega)))) ?_
        refine SQ.gpure (c := 2) rfl rfl rfl rfl rfl rfl rfl (PureOp.lss rfl rfl) ?_
        refine SQ.gpure (c := 1) rfl rfl rfl rfl rfl rfl rfl (PureOp.and_ rfl rfl rfl rfl) ?_
        refine SQ.pure rfl rfl rfl (PureOp.or_ rfl rfl rfl rfl) ?_
        refine SQ.pure rfl rfl rfl (PureOp.move rfl) ?_
        refine SQ.newg 69 false rfl ?_
        refine SQ.gpure (c := 3) rfl rfl rfl rfl rfl rfl rfl (PureOp.loads (vs := [.string nm, .int .i64 se, .int .i64 ov, .slice ac cl.length cc]) Try.underlying24 rfl rfl (fun _ => (RowIs.cells 2 0 4 rfl rfl)) sz24) ?_
        refine SQ.gcalle (c := 3) rfl rfl rfl rfl rfl rfl rfl rfl rfl rfl callable41 (by intro hg; simp [gval] at hg; exact (fun w hw => inrange_ok nm se ov cl ac cl.length cc rfl (by omega) w)) ?_
        refine SQ.gpure (c := 3) rfl rfl rfl rfl rfl rfl rfl (PureOp.move rfl) ?_
        refine SQ.newg 72 true rfl ?_
        refine SQ.gpure (c := 4) rfl rfl rfl rfl rfl rfl rfl (PureOp.fieldAddrT 1 Try.underlying47 rfl sz3 rfl rfl) ?_
        refine SQ.gpure (c := 4) rfl rfl rfl rfl rfl rfl rfl (PureOp.load (v := .int .i64 ((nth cl k).2)) Try.underlying3 rfl rfl (fun _ => (CellIs.cells 3 rfl rfl))) ?_
        refine SQ.gpure (c := 4) rfl rfl rfl rfl rfl rfl rfl (PureOp.loads (vs := [.string nm, .int .i64 se, .int .i64 ov, .slice ac cl.length cc]) Try.underlying24 rfl rfl (fun _ => (RowIs.cells 2 0 4 rfl rfl)) sz24) ?_
        refine SQ.gcalle (c := 4) rfl rfl rfl rfl rfl rfl rfl rfl rfl rfl callable21 (by intro hg; simp [gval] at hg; exact (fun w hw => auth2_ok nm se ov cl ac cl.length cc rfl (by omega) w (by simp only [hg]))) ?_
        refine SQ.gpure (c := 4) rfl rfl rfl rfl rfl rfl rfl (PureOp.gtr rfl rfl) ?_
        refine SQ.gpure (c := 3) rfl rfl rfl rfl rfl rfl rfl (PureOp.and_ rfl rfl rfl rfl) ?_
        refine SQ.pure rfl rfl rfl (PureOp.or_ rfl rfl rfl rfl) ?_
        refine SQ.nil_then ?_
        refine WC.cond rfl (fun h8 => ?_) (fun h8 => ?_)
        · try simp only [Bool.and_eq_true, Bool.or_eq_true, Bool.not_eq_true', Bool.not_eq_false', Bool.and_eq_false_iff, Bool.or_eq_false_iff, decide_eq_true_eq, decide_eq_false_iff_not, Int.not_lt, Int.not_le, ne_eq, Decidable.not_not] at h8
          refine WC.region ?_
          refine SL.pure rfl rfl rfl (PureOp.move rfl) ?_
          refine SL.pure rfl rfl rfl (PureOp.move rfl) ?_
          refine SL.pure rfl rfl rfl (PureOp.build bld54 rfl rfl) ?_
          refine SL.buildSlice rfl rfl Try.underlying40 elem54 rfl rfl rfl rfl (fun b11 hb11 => ?_)
          refine SL.append 1 rfl rfl Try.underlying40 elem54 rfl rfl rfl rfl (SrcIs.own 4 rfl) (by rfl) (by omega) (by omega) (fun ao7_ cap7_ => ?_)
          refine SL.itemxs 1 rfl (show _ = cellsOf enc54 (fs ++ [(2, (placeS p ⟨#[99, 108, 97, 115, 115]⟩ ((k : Nat) : Int)))]) from by rw [cellsOf_append (l := fs), cellsOf_one]; rfl) ?_
          refine SL.pure rfl rfl rfl (PureOp.assign rfl) ?_
          refine SL.nil ?_
          refine QX.normal_in ?_
          refine QX.then_ ?_
          refine WC.region ?_
          refine SL.pure rfl rfl rfl (PureOp.move rfl) ?_
          refine SL.pure rfl rfl rfl (PureOp.addN (k := 1) rfl rfl (fun _ => by omega)) ?_
          refine SL.pure rfl rfl rfl (PureOp.assign rfl) ?_
          refine SL.nil ?_
          refine QX.round (σ := Nat × Nat × Option Addr × Nat × List Flt) (Ef := fun q_ => [(0, 0, .agg #[.string eq, .slice az 1 cz]), (1, 0, .int .i64 0), (2, 0, .string p), (3, 0, .pointer (some ⟨b1, 0, none⟩)), (6, 0, .slice none 0 0), (8, 0, .pointer (some ⟨b2, 0, none⟩)), (12, 0, .pointer (some ⟨b1, 1, none⟩)), (13, 0, .slice az 1 cz), (14, 0, .int .i64 0), (15, 0, .pointer (some ⟨blk az, off az + ((0 : Int).toNat) * 4, none⟩)), (16, 0, .agg #[.string nm, .int .i64 se, .int .i64 ov, .slice ac cl.length cc]), (9, 0, .int .i64 ((q_.1 : Nat) : Int)), (7, 0, .slice q_.2.2.1 q_.2.1 q_.2.2.2.1)]) (Hf := fun q_ => [Item.cells b1 [.string eq, .slice az 1 cz] 44, Item.own w0.heap.size q_.2.2.1 q_.2.1 q_.2.2.2.1 54 2 (cellsOf enc54 (q_.2.2.2.2)), Item.cells b2 [.string nm, .int .i64 se, .int .i64 ov, .slice ac cl.length cc] 24]) (I := fun q_ => q_.1 ≤ cl.length ∧ q_.2.1 = q_.2.2.2.2.length ∧ q_.2.1 ≤ 3 * q_.1 ∧ (q_.2.2.2.2 = [] → ∀ j, j < q_.1 → (0 ≤ (nth cl j).2 ∧ (0 < j → (nth cl (j - 1)).2 ≤ (nth cl j).2) ∧ (inR se ov = true → (nth cl j).2 ≤ se + ov)))) (μ := fun q_ => cl.length - q_.1) (s := (k, m, a, c, fs)) 3 ((k + 1, m + 1, ao7_, cap7_, fs ++ [(2, (placeS p ⟨#[99, 108, 97, 115, 115]⟩ ((k : Nat) : Int)))])) ⟨⟨(by first | omega | (dsimp only; omega)), by show _ = (fs ++ [(2, (placeS p ⟨#[99, 108, 97, 115, 115]⟩ ((k : Nat) : Int)))]).length; simp only [List.length_append, List.length_cons, List.length_nil]; omega, (by first | omega | (dsimp only; omega)), fun he => absurd (show (fs ++ [(2, (placeS p ⟨#[99, 108, 97, 115, 115]⟩ ((k : Nat) : Int)))]) = [] from he) (by simp)⟩, by first | omega | (dsimp only; omega)⟩ ⟨rfl, rfl, rfl, rfl, rfl, rfl, rfl, rfl, rfl, rfl, rfl, rfl, rfl, rfl, rfl, rfl, rfl, rfl, rfl, rfl, rfl, rfl, rfl, rfl, rfl, rfl, trivial⟩ rfl
        · try simp only [Bool.and_eq_true, Bool.or_eq_true, Bool.not_eq_true', Bool.not_eq_false', Bool.and_eq_false_iff, Bool.or_eq_false_iff, decide_eq_true_eq, decide_eq_false_iff_not, Int.not_lt, Int.not_le, ne_eq, Decidable.not_not] at h8
          refine WC.skip ?_
          refine QX.normal_in ?_
          refine QX.then_ ?_
          refine WC.region ?_
          refine SL.pure rfl rfl rfl (PureOp.move rfl) ?_
          refine SL.pure rfl rfl rfl (PureOp.addN (k := 1) rfl rfl (fun _ => by omega)) ?_
          refine SL.pure rfl rfl rfl (PureOp.assign rfl) ?_
          refine SL.nil ?_
          refine QX.round (σ := Nat × Nat × Option Addr × Nat × List Flt) (Ef := fun q_ => [(0, 0, .agg #[.string eq, .slice az 1 cz]), (1, 0, .int .i64 0), (2, 0, .string p), (3, 0, .pointer (some ⟨b1, 0, none⟩)), (6, 0, .slice none 0 0), (8, 0, .pointer (some ⟨b2, 0, none⟩)), (12, 0, .pointer (some ⟨b1, 1, none⟩)), (13, 0, .slice az 1 cz), (14, 0, .int .i64 0), (15, 0, .pointer (some ⟨blk az, off az + ((0 : Int).toNat) * 4, none⟩)), (16, 0, .agg #[.string nm, .int .i64 se, .int .i64 ov, .slice ac cl.length cc]), (9, 0, .int .i64 ((q_.1 : Nat) : Int)), (7, 0, .slice q_.2.2.1 q_.2.1 q_.2.2.2.1)]) (Hf := fun q_ => [Item.cells b1 [.string eq, .slice az 1 cz] 44, Item.own w0.heap.size q_.2.2.1 q_.2.1 q_.2.2.2.1 54 2 (cellsOf enc54 (q_.2.2.2.2)), Item.cells b2 [.string nm, .int .i64 se, .int .i64 ov, .slice ac cl.length cc] 24]) (I := fun q_ => q_.1 ≤ cl.length ∧ q_.2.1 = q_.2.2.2.2.length ∧ q_.2.1 ≤ 3 * q_.1 ∧ (q_.2.2.2.2 = [] → ∀ j, j < q_.1 → (0 ≤ (nth cl j).2 ∧ (0 < j → (nth cl (j - 1)).2 ≤ (nth cl j).2) ∧ (inR se ov = true → (nth cl j).2 ≤ se + ov)))) (μ := fun q_ => cl.length - q_.1) (s := (k, m, a, c, fs)) 3 ((k + 1, m, a, c, fs)) ⟨⟨(by first | omega | (dsimp only; omega)), by show m = fs.length; exact hm, (by first | omega | (dsimp only; omega)), fun he j hj => cls_step hk (show fs = [] → _ from hI) he (show j < k + 1 from hj) h8⟩, by first | omega | (dsimp only; omega)⟩ ⟨rfl, rfl, rfl, rfl, rfl, rfl, rfl, rfl, rfl, rfl, rfl, rfl, rfl, rfl, rfl, rfl, rfl, rfl, rfl, rfl, rfl, rfl, rfl, rfl, rfl, rfl, trivial⟩ rfl
  · try simp only [Bool.and_eq_true, Bool.or_eq_true, Bool.not_eq_true', Bool.not_eq_false', Bool.and_eq_false_iff, Bool.or_eq_false_iff, decide_eq_true_eq, decide_eq_false_iff_not, Int.not_lt, Int.not_le, ne_eq, Decidable.not_not] at h1
    refine WC.exit ?_
    refine QX.exit_then ?_
    refine QX.exit_then ?_
    refine QX.exit_hit ?_
    refine QX.then_ ?_
    refine WC.seq ?_
    refine WC.region ?_
    refine SL.pure rfl rfl rfl (PureOp.move rfl) ?_
    refine SL.pure rfl rfl rfl (PureOp.assign rfl) ?_
    refine SL.nil_then ?_
    refine WC.ret ?_
    refine QX.ret1 rfl rfl ?_
    intro w hw
    obtain rfl : k = cl.length := by omega
    subst hm
    exact ⟨_, _, _, rfl, hw.mem (i := 1) rfl, by omega, hI⟩

end Go.Proofs.Ytblgllngkbjfgaa
