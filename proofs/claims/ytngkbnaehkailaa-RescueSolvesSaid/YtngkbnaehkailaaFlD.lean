import Derived.Test.YtngkbnaehkailaaFlC
namespace Go.Proofs.Ytngkbnaehkailaa
open Go Go.RowKit Eng
set_option linter.unusedVariables false
set_option linter.unusedSimpArgs false

set_option maxHeartbeats 4000000 in
set_option maxRecDepth 100000 in
theorem pproves_ok (n : Int) (l : List Ed) (ea : Option Addr) (m ec : Nat) (hm : m = l.length) (f : List Int) (fa : Option Addr) (q fc : Nat) (hq : q = f.length) (p : List Int) (pa : Option Addr) (u pc : Nat) (hu : u = p.length) (w0 : World) (sE : SliceIn w0 4 ea m ec (rowsF encEd l)) (sF : SliceIn w0 1 fa q fc (rowsF encI f)) (sP : SliceIn w0 1 pa u pc (rowsF encI p)) : FnC Try.prog 23 [.int .i64 n, .slice ea m ec, .slice fa q fc, .slice pa u pc] w0 fun v w' => v = .bool (provesB n l f p) := by
  refine fnc (N := 91) Try.func23 rfl rfl rfl ?_
  refine WC.seq ?_
  refine WC.region ?_
  refine SL.pure rfl rfl rfl (PureOp.assign rfl) ?_
  refine SL.nil_then ?_
  refine WC.seq ?_
  refine WC.seq ?_
  refine WC.region ?_
  refine SL.pure rfl rfl rfl (PureOp.move rfl) ?_
  refine SL.pure rfl rfl rfl (PureOp.move rfl) ?_
  refine SL.pure rfl rfl rfl (PureOp.move rfl) ?_
  refine SL.calle rfl rfl rfl rfl rfl rfl callable46 (fun w hw => right_ok n l ea m ec hm f fa q fc hq w (sE.below hw.below) (sF.below hw.below)) ?_
  refine SL.norm [] rfl ?_
  refine SL.pure rfl rfl rfl (PureOp.not rfl) ?_
  refine SL.pure rfl rfl rfl (PureOp.move rfl) ?_
  refine SL.newg 18 false rfl ?_
  refine SL.gpure (c := 1) rfl rfl rfl rfl rfl rfl rfl (PureOp.move rfl) ?_
  refine SL.gpure (c := 1) rfl rfl rfl rfl rfl rfl rfl (PureOp.len rfl Try.underlying29) ?_
  refine SL.gpure (c := 1) rfl rfl rfl rfl rfl rfl rfl (PureOp.move rfl) ?_
  refine SL.gpure (c := 1) rfl rfl rfl rfl rfl rfl rfl (PureOp.neq rfl rfl) ?_
  refine SL.pure rfl rfl rfl (PureOp.or_ rfl rfl rfl rfl) ?_
  refine SL.nil_then ?_
  refine WC.cond rfl (fun h1 => ?_) (fun h1 => ?_)
  · try simp only [Bool.and_eq_true, Bool.or_eq_true, Bool.not_eq_true', Bool.not_eq_false', Bool.and_eq_false_iff, Bool.or_eq_false_iff, decide_eq_true_eq, decide_eq_false_iff_not, Int.not_lt, Int.not_le, ne_eq, Decidable.not_not] at h1
    refine WC.seq ?_
    refine WC.region ?_
    refine SL.pure rfl rfl rfl (PureOp.assign rfl) ?_
    refine SL.nil_then ?_
    refine WC.ret ?_
    refine QX.ret_then ?_
    refine QX.ret1 rfl rfl ?_
    intro w hw
    exact congrArg Value.bool (proves_no1 (by rw [← hu]; exact h1.elim .inl (fun h => .inr (by omega)))).symm
  · try simp only [Bool.and_eq_true, Bool.or_eq_true, Bool.not_eq_true', Bool.not_eq_false', Bool.and_eq_false_iff, Bool.or_eq_false_iff, decide_eq_true_eq, decide_eq_false_iff_not, Int.not_lt, Int.not_le, ne_eq, Decidable.not_not] at h1
    have hrt : rightB n l f = true := h1.1
    have hun : (u : Int) = n := h1.2
    obtain ⟨hc0, hw0⟩ := right_parts hrt
    obtain ⟨hc, hE⟩ := check_ok (n := n) (l := l) (s := 0) (t := 1) hc0
    have hW := (within_ok hw0).2
    have hql := (within_ok hw0).1
    refine WC.skip ?_
    refine QX.then_ ?_
    refine WC.seq ?_
    refine WC.seq ?_
    refine WC.region ?_
    refine SL.pure rfl rfl rfl (PureOp.move rfl) ?_
    refine SL.pure rfl rfl rfl (PureOp.len rfl Try.underlying29) ?_
    refine SL.pure rfl rfl rfl (PureOp.move rfl) ?_
    refine SL.nil_then ?_
    refine WC.block ?_
    refine WC.loop (σ := Nat) (fun q_ => [(0, 0, .int .i64 n), (1, 0, .slice ea m ec), (2, 0, .slice fa q fc), (3, 0, .slice pa u pc), (13, 0, .int .i64 n), (14, 0, .slice ea m ec), (15, 0, .slice fa q fc), (16, 0, .bool (rightB n l f)), (17, 0, .bool (!(rightB n l f))), (18, 0, .bool (!(rightB n l f))), (23, 0, .bool ((!(rightB n l f)) || (decide (((u : Nat) : Int) ≠ n)))), (24, 0, .slice pa u pc), (25, 0, .int .i64 ((u : Nat) : Int)), (26, 0, .int .i64 ((q_ : Nat) : Int))]) (fun q_ => []) (fun q_ => q_ ≤ u ∧ allK (priceB p) q_ = true) (fun q_ => u - q_) 0 (0) (⟨Nat.zero_le _, rfl⟩) ⟨rfl, rfl, rfl, rfl, rfl, rfl, rfl, rfl, rfl, rfl, rfl, rfl, rfl, rfl, rfl, rfl, rfl, rfl, rfl, rfl, rfl, rfl, rfl, rfl, rfl, rfl, rfl, rfl, trivial⟩ rfl ?_
    rintro k ⟨hk, hz⟩
    refine WC.seq ?_
    refine WC.region ?_
    refine SL.pure rfl rfl rfl (PureOp.lss rfl rfl) ?_
    refine SL.nil_then ?_
    refine WC.seq ?_
    refine WC.cond rfl (fun h2 => ?_) (fun h2 => ?_)
    · try simp only [Bool.and_eq_true, Bool.or_eq_true, Bool.not_eq_true', Bool.not_eq_false', Bool.and_eq_false_iff, Bool.or_eq_false_iff, decide_eq_true_eq, decide_eq_false_iff_not, Int.not_lt, Int.not_le, ne_eq, Decidable.not_not] at h2
      refine WC.skip ?_
      refine QX.then_ ?_
      refine WC.seq ?_
      refine WC.block ?_
      refine WC.seq ?_
      refine WC.region ?_
      refine SL.pure rfl rfl rfl (PureOp.indexAddrN Try.underlying29 sz3 rfl rfl (AoOk.in_ sP) (fun _ => by omega)) ?_
      refine SL.pure rfl rfl rfl (PureOp.load (v := .int .i64 (nth p k)) Try.underlying3 rfl rfl (fun _ => (CellIs.in_ sP k 0 (by omega) (by omega)))) ?_
      refine SL.pure rfl rfl rfl (PureOp.assign rfl) ?_
      refine SL.nil_then ?_
      refine WC.seq ?_
      refine WC.region ?_
      refine SL.pure rfl rfl rfl (PureOp.move rfl) ?_
      refine SL.pure rfl rfl rfl (PureOp.lss rfl rfl) ?_
      refine SL.pure rfl rfl rfl (PureOp.move rfl) ?_
      refine SL.newg 32 false rfl ?_
      refine SL.gpure (c := 1) rfl rfl rfl rfl rfl rfl rfl (PureOp.move rfl) ?_
      refine SL.gpure (c := 1) rfl rfl rfl rfl rfl rfl rfl (PureOp.gtr rfl rfl) ?_
      refine SL.pure rfl rfl rfl (PureOp.or_ rfl rfl rfl rfl) ?_
      refine SL.nil_then ?_
      refine WC.cond rfl (fun h3 => ?_) (fun h3 => ?_)
      · try simp only [Bool.and_eq_true, Bool.or_eq_true, Bool.not_eq_true', Bool.not_eq_false', Bool.and_eq_false_iff, Bool.or_eq_false_iff, decide_eq_true_eq, decide_eq_false_iff_not, Int.not_lt, Int.not_le, ne_eq, Decidable.not_not] at h3
        refine WC.seq ?_
        refine WC.region ?_
        refine SL.pure rfl rfl rfl (PureOp.assign rfl) ?_
        refine SL.nil_then ?_
        refine WC.ret ?_
        refine QX.ret_in ?_
        refine QX.ret_then ?_
        refine QX.ret_then ?_
        refine QX.ret_in ?_
        refine QX.ret_then ?_
        refine QX.ret1 rfl rfl ?_
        intro w hw
        exact congrArg Value.bool (proves_no2 (k := k) (by omega) (by rw [priceB, Bool.and_eq_false_iff, decide_eq_false_iff_not, decide_eq_false_iff_not]; omega)).symm
      · try simp only [Bool.and_eq_true, Bool.or_eq_true, Bool.not_eq_true', Bool.not_eq_false', Bool.and_eq_false_iff, Bool.or_eq_false_iff, decide_eq_true_eq, decide_eq_false_iff_not, Int.not_lt, Int.not_le, ne_eq, Decidable.not_not] at h3
        refine WC.skip ?_
        refine QX.normal_in ?_
        refine QX.then_ ?_
        refine WC.region ?_
        refine SL.pure rfl rfl rfl (PureOp.addN (k := 1) rfl rfl (fun _ => by omega)) ?_
        refine SL.pure rfl rfl rfl (PureOp.move rfl) ?_
        refine SL.nil ?_
        refine QX.round 0 (k + 1) ⟨⟨(by first | omega | (dsimp only; omega)), allK_next hz (by rw [priceB, Bool.and_eq_true, decide_eq_true_iff, decide_eq_true_iff]; omega)⟩, by first | omega | (dsimp only; omega)⟩ ⟨rfl, rfl, rfl, rfl, rfl, rfl, rfl, rfl, rfl, rfl, rfl, rfl, rfl, rfl, rfl, rfl, rfl, rfl, rfl, rfl, rfl, rfl, rfl, rfl, rfl, rfl, rfl, rfl, trivial⟩ rfl
    · try simp only [Bool.and_eq_true, Bool.or_eq_true, Bool.not_eq_true', Bool.not_eq_false', Bool.and_eq_false_iff, Bool.or_eq_false_iff, decide_eq_true_eq, decide_eq_false_iff_not, Int.not_lt, Int.not_le, ne_eq, Decidable.not_not] at h2
      have ek : k = u := by omega
      have hb := price_ok hz
      rw [ek] at hb
      refine WC.exit ?_
      refine QX.exit_then ?_
      refine QX.exit_then ?_
      refine QX.exit_hit ?_
      refine QX.then_ ?_
      refine WC.seq ?_
      refine WC.seq ?_
      refine WC.region ?_
      refine SL.pure rfl rfl rfl (PureOp.move rfl) ?_
      refine SL.pure rfl rfl rfl (PureOp.len rfl Try.underlying22) ?_
      refine SL.pure rfl rfl rfl (PureOp.move rfl) ?_
      refine SL.nil_then ?_
      refine WC.block ?_
      refine WC.loop (σ := Nat) (fun q_ => [(0, 0, .int .i64 n), (1, 0, .slice ea m ec), (2, 0, .slice fa q fc), (3, 0, .slice pa u pc), (13, 0, .int .i64 n), (14, 0, .slice ea m ec), (15, 0, .slice fa q fc), (16, 0, .bool (rightB n l f)), (17, 0, .bool (!(rightB n l f))), (18, 0, .bool (!(rightB n l f))), (23, 0, .bool ((!(rightB n l f)) || (decide (((u : Nat) : Int) ≠ n)))), (24, 0, .slice pa u pc), (25, 0, .int .i64 ((u : Nat) : Int)), (26, 0, .int .i64 ((k : Nat) : Int)), (27, 0, .bool (decide (((k : Nat) : Int) < ((u : Nat) : Int)))), (37, 0, .slice ea m ec), (38, 0, .int .i64 ((m : Nat) : Int)), (39, 0, .int .i64 ((q_ : Nat) : Int))]) (fun q_ => []) (fun q_ => q_ ≤ m ∧ allK (tightB l f p) q_ = true) (fun q_ => m - q_) 0 (0) (⟨Nat.zero_le _, rfl⟩) ⟨rfl, rfl, rfl, rfl, rfl, rfl, rfl, rfl, rfl, rfl, rfl, rfl, rfl, rfl, rfl, rfl, rfl, rfl, rfl, rfl, rfl, rfl, rfl, rfl, rfl, rfl, rfl, rfl, rfl, rfl, rfl, rfl, rfl, rfl, rfl, rfl, trivial⟩ rfl ?_
      rintro j ⟨hj, hz2⟩
      refine WC.seq ?_
      refine WC.region ?_
      refine SL.pure rfl rfl rfl (PureOp.lss rfl rfl) ?_
      refine SL.nil_then ?_
      refine WC.seq ?_
      refine WC.cond rfl (fun h4 => ?_) (fun h4 => ?_)
      · try simp only [Bool.and_eq_true, Bool.or_eq_true, Bool.not_eq_true', Bool.not_eq_false', Bool.and_eq_false_iff, Bool.or_eq_false_iff, decide_eq_true_eq, decide_eq_false_iff_not, Int.not_lt, Int.not_le, ne_eq, Decidable.not_not] at h4
        have hEk := hE j (by omega)
        have hp1 := hb (nth l j).1.toNat (by omega)
        have hp2 := hb (nth l j).2.1.toNat (by omega)
        refine WC.skip ?_
        refine QX.then_ ?_
        refine WC.seq ?_
        refine WC.block ?_
        refine WC.seq ?_
        refine WC.region ?_
        refine SL.pure rfl rfl rfl (PureOp.move rfl) ?_
        refine SL.pure rfl rfl rfl (PureOp.indexAddrN Try.underlying22 sz61 rfl rfl (AoOk.in_ sE) (fun _ => by omega)) ?_
        refine SL.pure rfl rfl rfl (PureOp.loads (vs := [.int .i64 ((nth l j).1), .int .i64 ((nth l j).2.1), .int .i64 ((nth l j).2.2.1), .int .i64 ((nth l j).2.2.2)]) Try.underlying61 rfl rfl (fun _ => (RowIs.in_ sE j 0 4 (by omega) (by omega))) sz61) ?_
        refine SL.alloc rfl rfl zero61 (fun b1 hb1 => ?_)
        refine SL.norm [_] rfl ?_
        refine SL.pure rfl rfl rfl (PureOp.assign rfl) ?_
        refine SL.store 0 rfl rfl rfl rfl sz61 rfl rfl ?_
        refine SL.norm [_] rfl ?_
        refine SL.nil_then ?_
        refine WC.seq ?_
        refine WC.quiet rfl (by kernel_rfl) ?_
        refine SQ.pure rfl rfl rfl (PureOp.move rfl) ?_
        refine SQ.pure rfl rfl rfl (PureOp.move rfl) ?_
        refine SQ.pure rfl rfl rfl (PureOp.indexAddrN Try.underlying29 sz3 rfl rfl (AoOk.in_ sF) (fun _ => by omega)) ?_
        refine SQ.pure rfl rfl rfl (PureOp.load (v := .int .i64 (nth f j)) Try.underlying3 rfl rfl (fun _ => (CellIs.in_ sF j 0 (by omega) (by omega)))) ?_
        refine SQ.pure rfl rfl rfl (PureOp.fieldAddrT 2 Try.underlying61 rfl sz3 rfl rfl) ?_
        refine SQ.pure rfl rfl rfl (PureOp.load (v := .int .i64 ((nth l j).2.2.1)) Try.underlying3 rfl rfl (fun _ => (CellIs.cells 0 rfl rfl))) ?_
        refine SQ.pure rfl rfl rfl (PureOp.lss rfl rfl) ?_
        refine SQ.pure rfl rfl rfl (PureOp.move rfl) ?_
        refine SQ.newg 51 true rfl ?_
        refine SQ.gpure (c := 1) rfl rfl rfl rfl rfl rfl rfl (PureOp.move rfl) ?_
        refine SQ.gpure (c := 1) rfl rfl rfl rfl rfl rfl rfl (PureOp.fieldAddrT 0 Try.underlying61 rfl sz3 rfl rfl) ?_
        refine SQ.gpure (c := 1) rfl rfl rfl rfl rfl rfl rfl (PureOp.load (v := .int .i64 ((nth l j).1)) Try.underlying3 rfl rfl (fun _ => (CellIs.cells 0 rfl rfl))) ?_
        refine SQ.gpure (c := 1) rfl rfl rfl rfl rfl rfl rfl (PureOp.indexAddr Try.underlying29 sz3 rfl rfl (AoOk.in_ sP) (by intro hg; simp [gval] at hg; omega)) ?_
        refine SQ.gpure (c := 1) rfl rfl rfl rfl rfl rfl rfl (PureOp.load (v := .int .i64 (nth p (((nth l j).1).toNat))) Try.underlying3 rfl rfl (by intro hg; simp [gval] at hg; exact (CellIs.in_ sP (((nth l j).1).toNat) 0 (by omega) (by omega)))) ?_
        refine SQ.gpure (c := 1) rfl rfl rfl rfl rfl rfl rfl (PureOp.fieldAddrT 3 Try.underlying61 rfl sz3 rfl rfl) ?_
        refine SQ.gpure (c := 1) rfl rfl rfl rfl rfl rfl rfl (PureOp.load (v := .int .i64 ((nth l j).2.2.2)) Try.underlying3 rfl rfl (fun _ => (CellIs.cells 0 rfl rfl))) ?_
        refine SQ.gpure (c := 1) rfl rfl rfl rfl rfl rfl rfl (PureOp.add rfl rfl (by intro hg; simp [gval] at hg; omega)) ?_
        refine SQ.gpure (c := 1) rfl rfl rfl rfl rfl rfl rfl (PureOp.move rfl) ?_
        refine SQ.gpure (c := 1) rfl rfl rfl rfl rfl rfl rfl (PureOp.fieldAddrT 1 Try.underlying61 rfl sz3 rfl rfl) ?_
        refine SQ.gpure (c := 1) rfl rfl rfl rfl rfl rfl rfl (PureOp.load (v := .int .i64 ((nth l j).2.1)) Try.underlying3 rfl rfl (fun _ => (CellIs.cells 0 rfl rfl))) ?_
        refine SQ.gpure (c := 1) rfl rfl rfl rfl rfl rfl rfl (PureOp.indexAddr Try.underlying29 sz3 rfl rfl (AoOk.in_ sP) (by intro hg; simp [gval] at hg; omega)) ?_
        refine SQ.gpure (c := 1) rfl rfl rfl rfl rfl rfl rfl (PureOp.load (v := .int .i64 (nth p (((nth l j).2.1).toNat))) Try.underlying3 rfl rfl (by intro hg; simp [gval] at hg; exact (CellIs.in_ sP (((nth l j).2.1).toNat) 0 (by omega) (by omega)))) ?_
        refine SQ.gpure (c := 1) rfl rfl rfl rfl rfl rfl rfl (PureOp.lss rfl rfl) ?_
        refine SQ.pure rfl rfl rfl (PureOp.and_ rfl rfl rfl rfl) ?_
        refine SQ.pure rfl rfl rfl (PureOp.move rfl) ?_
        refine SQ.newg 67 false rfl ?_
        refine SQ.gpure (c := 2) rfl rfl rfl rfl rfl rfl rfl (PureOp.move rfl) ?_
        refine SQ.gpure (c := 2) rfl rfl rfl rfl rfl rfl rfl (PureOp.move rfl) ?_
        refine SQ.gpure (c := 2) rfl rfl rfl rfl rfl rfl rfl (PureOp.indexAddrN Try.underlying29 sz3 rfl rfl (AoOk.in_ sF) (by intro hg; simp [gval] at hg; omega)) ?_
        refine SQ.gpure (c := 2) rfl rfl rfl rfl rfl rfl rfl (PureOp.load (v := .int .i64 (nth f j)) Try.underlying3 rfl rfl (by intro hg; simp [gval] at hg; exact (CellIs.in_ sF j 0 (by omega) (by omega)))) ?_
        refine SQ.gpure (c := 2) rfl rfl rfl rfl rfl rfl rfl (PureOp.gtr rfl rfl) ?_
        refine SQ.gpure (c := 2) rfl rfl rfl rfl rfl rfl rfl (PureOp.move rfl) ?_
        refine SQ.newg 73 true rfl ?_
        refine SQ.gpure (c := 3) rfl rfl rfl rfl rfl rfl rfl (PureOp.move rfl) ?_
        refine SQ.gpure (c := 3) rfl rfl rfl rfl rfl rfl rfl (PureOp.fieldAddrT 1 Try.underlying61 rfl sz3 rfl rfl) ?_
        refine SQ.gpure (c := 3) rfl rfl rfl rfl rfl rfl rfl (PureOp.load (v := .int .i64 ((nth l j).2.1)) Try.underlying3 rfl rfl (fun _ => (CellIs.cells 0 rfl rfl))) ?_
        refine SQ.gpure (c := 3) rfl rfl rfl rfl rfl rfl rfl (PureOp.indexAddr Try.underlying29 sz3 rfl rfl (AoOk.in_ sP) (by intro hg; simp [gval] at hg; omega)) ?_
        refine SQ.gpure (c := 3) rfl rfl rfl rfl rfl rfl rfl (PureOp.load (v := .int .i64 (nth p (((nth l j).2.1).toNat))) Try.underlying3 rfl rfl (by intro hg; simp [gval] at hg; exact (CellIs.in_ sP (((nth l j).2.1).toNat) 0 (by omega) (by omega)))) ?_
        refine SQ.gpure (c := 3) rfl rfl rfl rfl rfl rfl rfl (PureOp.fieldAddrT 3 Try.underlying61 rfl sz3 rfl rfl) ?_
        refine SQ.gpure (c := 3) rfl rfl rfl rfl rfl rfl rfl (PureOp.load (v := .int .i64 ((nth l j).2.2.2)) Try.underlying3 rfl rfl (fun _ => (CellIs.cells 0 rfl rfl))) ?_
        refine SQ.gpure (c := 3) rfl rfl rfl rfl rfl rfl rfl (PureOp.sub rfl rfl (by intro hg; simp [gval] at hg; omega)) ?_
        refine SQ.gpure (c := 3) rfl rfl rfl rfl rfl rfl rfl (PureOp.move rfl) ?_
        refine SQ.gpure (c := 3) rfl rfl rfl rfl rfl rfl rfl (PureOp.fieldAddrT 0 Try.underlying61 rfl sz3 rfl rfl) ?_
        refine SQ.gpure (c := 3) rfl rfl rfl rfl rfl rfl rfl (PureOp.load (v := .int .i64 ((nth l j).1)) Try.underlying3 rfl rfl (fun _ => (CellIs.cells 0 rfl rfl))) ?_
        refine SQ.gpure (c := 3) rfl rfl rfl rfl rfl rfl rfl (PureOp.indexAddr Try.underlying29 sz3 rfl rfl (AoOk.in_ sP) (by intro hg; simp [gval] at hg; omega)) ?_
        refine SQ.gpure (c := 3) rfl rfl rfl rfl rfl rfl rfl (PureOp.load (v := .int .i64 (nth p (((nth l j).1).toNat))) Try.underlying3 rfl rfl (by intro hg; simp [gval] at hg; exact (CellIs.in_ sP (((nth l j).1).toNat) 0 (by omega) (by omega)))) ?_
        refine SQ.gpure (c := 3) rfl rfl rfl rfl rfl rfl rfl (PureOp.lss rfl rfl) ?_
        refine SQ.gpure (c := 2) rfl rfl rfl rfl rfl rfl rfl (PureOp.and_ rfl rfl rfl rfl) ?_
        refine SQ.pure rfl rfl rfl (PureOp.or_ rfl rfl rfl rfl) ?_
        refine SQ.nil_then ?_
        refine WC.cond rfl (fun h5 => ?_) (fun h5 => ?_)
        · try simp only [Bool.and_eq_true, Bool.or_eq_true, Bool.not_eq_true', Bool.not_eq_false', Bool.and_eq_false_iff, Bool.or_eq_false_iff, decide_eq_true_eq, decide_eq_false_iff_not, Int.not_lt, Int.not_le, ne_eq, Decidable.not_not] at h5
          refine WC.seq ?_
          refine WC.region ?_
          refine SL.pure rfl rfl rfl (PureOp.assign rfl) ?_
          refine SL.nil_then ?_
          refine WC.ret ?_
          refine QX.ret_in ?_
          refine QX.ret_then ?_
          refine QX.ret_then ?_
          refine QX.ret_in ?_
          refine QX.ret_then ?_
          refine QX.ret1 rfl rfl ?_
          intro w hw
          exact congrArg Value.bool (proves_no3 (allK_not (k := j) (by omega) (by rw [tightB, Bool.not_eq_false', Bool.or_eq_true, Bool.and_eq_true, Bool.and_eq_true, decide_eq_true_iff, decide_eq_true_iff, decide_eq_true_iff, decide_eq_true_iff]; omega))).symm
        · try simp only [Bool.and_eq_true, Bool.or_eq_true, Bool.not_eq_true', Bool.not_eq_false', Bool.and_eq_false_iff, Bool.or_eq_false_iff, decide_eq_true_eq, decide_eq_false_iff_not, Int.not_lt, Int.not_le, ne_eq, Decidable.not_not] at h5
          refine WC.skip ?_
          refine QX.normal_in ?_
          refine QX.then_ ?_
          refine WC.region ?_
          refine SL.pure rfl rfl rfl (PureOp.addN (k := 1) rfl rfl (fun _ => by omega)) ?_
          refine SL.pure rfl rfl rfl (PureOp.move rfl) ?_
          refine SL.nil ?_
          refine QX.round 0 (j + 1) ⟨⟨(by first | omega | (dsimp only; omega)), allK_next hz2 (by rw [tightB, Bool.not_eq_true', Bool.or_eq_false_iff, Bool.and_eq_false_iff, Bool.and_eq_false_iff, decide_eq_false_iff_not, decide_eq_false_iff_not, decide_eq_false_iff_not, decide_eq_false_iff_not]; omega)⟩, by first | omega | (dsimp only; omega)⟩ ⟨rfl, rfl, rfl, rfl, rfl, rfl, rfl, rfl, rfl, rfl, rfl, rfl, rfl, rfl, rfl, rfl, rfl, rfl, rfl, rfl, rfl, rfl, rfl, rfl, rfl, rfl, rfl, rfl, rfl, rfl, rfl, rfl, rfl, rfl, rfl, rfl, trivial⟩ rfl
      · try simp only [Bool.and_eq_true, Bool.or_eq_true, Bool.not_eq_true', Bool.not_eq_false', Bool.and_eq_false_iff, Bool.or_eq_false_iff, decide_eq_true_eq, decide_eq_false_iff_not, Int.not_lt, Int.not_le, ne_eq, Decidable.not_not] at h4
        refine WC.exit ?_
        refine QX.exit_then ?_
        refine QX.exit_then ?_
        refine QX.exit_hit ?_
        refine QX.then_ ?_
        refine WC.seq ?_
        refine WC.region ?_
        refine SL.pure rfl rfl rfl (PureOp.assign rfl) ?_
        refine SL.nil_then ?_
        refine WC.ret ?_
        refine QX.ret1 rfl rfl ?_
        intro w hw
        have ej : j = l.length := by omega
        exact congrArg Value.bool (proves_yes hrt (by omega) (by rw [← hu, ← ek]; exact hz) (by rw [← ej]; exact hz2)).symm

set_option maxHeartbeats 4000000 in
set_option maxRecDepth 100000 in
theorem rproves_ok (n : Int) (l : List Ed) (ea : Option Addr) (m ec : Nat) (hm : m = l.length) (f : List Int) (fa : Option Addr) (q fc : Nat) (hq : q = f.length) (p : List Int) (pa : Option Addr) (u pc : Nat) (hu : u = p.length) (w0 : World) (sE : SliceIn w0 4 ea m ec (rowsF encEd l)) (sF : SliceIn w0 1 fa q fc (rowsF encI f)) (sP : SliceIn w0 1 pa u pc (rowsF encI p)) : FnC Try.prog 24 [.int .i64 n, .slice ea m ec, .slice fa q fc, .slice pa u pc] w0 fun v w' => v = .bool (provesB n l f p) := by
  refine fnc (N := 72) Try.func24 rfl rfl rfl ?_
  refine WC.seq ?_
  refine WC.region ?_
  refine SL.pure rfl rfl rfl (PureOp.assign rfl) ?_
  refine SL.nil_then ?_
  refine WC.seq ?_
  refine WC.seq ?_
  refine WC.region ?_
  refine SL.pure rfl rfl rfl (PureOp.move rfl) ?_
  refine SL.pure rfl rfl rfl (PureOp.move rfl) ?_
  refine SL.pure rfl rfl rfl (PureOp.move rfl) ?_
  refine SL.calle rfl rfl rfl rfl rfl rfl callable47 (fun w hw => known_ok n l ea m ec hm f fa q fc hq w (sE.below hw.below) (sF.below hw.below)) ?_
  refine SL.norm [] rfl ?_
  refine SL.pure rfl rfl rfl (PureOp.not rfl) ?_
  refine SL.pure rfl rfl rfl (PureOp.move rfl) ?_
  refine SL.newg 17 false rfl ?_
  refine SL.gpure (c := 1) rfl rfl rfl rfl rfl rfl rfl (PureOp.move rfl) ?_
  refine SL.gpure (c := 1) rfl rfl rfl rfl rfl rfl rfl (PureOp.len rfl Try.underlying29) ?_
  refine SL.gpure (c := 1) rfl rfl rfl rfl rfl rfl rfl (PureOp.move rfl) ?_
  refine SL.gpure (c := 1) rfl rfl rfl rfl rfl rfl rfl (PureOp.neq rfl rfl) ?_
  refine SL.pure rfl rfl rfl (PureOp.or_ rfl rfl rfl rfl) ?_
  refine SL.nil_then ?_
  refine WC.cond rfl (fun h1 => ?_) (fun h1 => ?_)
  · try simp only [Bool.and_eq_true, Bool.or_eq_true, Bool.not_eq_true', Bool.not_eq_false', Bool.and_eq_false_iff, Bool.or_eq_false_iff, decide_eq_true_eq, decide_eq_false_iff_not, Int.not_lt, Int.not_le, ne_eq, Decidable.not_not] at h1
    refine WC.seq ?_
    refine WC.region ?_
    refine SL.pure rfl rfl rfl (PureOp.assign rfl) ?_
    refine SL.nil_then ?_
    refine WC.ret ?_
    refine QX.ret_then ?_
    refine QX.ret1 rfl rfl ?_
    intro w hw
    exact congrArg Value.bool (proves_no1 (by rw [← hu]; exact h1.elim .inl (fun h => .inr (by omega)))).symm
  · try simp only [Bool.and_eq_true, Bool.or_eq_true, Bool.not_eq_true', Bool.not_eq_false', Bool.and_eq_false_iff, Bool.or_eq_false_iff, decide_eq_true_eq, decide_eq_false_iff_not, Int.not_lt, Int.not_le, ne_eq, Decidable.not_not] at h1
    have hrt : rightB n l f = true := h1.1
    have hun : (u : Int) = n := h1.2
    obtain ⟨hc0, hw0⟩ := right_parts hrt
    obtain ⟨hc, hE⟩ := check_ok (n := n) (l := l) (s := 0) (t := 1) hc0
    have hW := (within_ok hw0).2
    have hql := (within_ok hw0).1
    refine WC.skip ?_
    refine QX.then_ ?_
    refine WC.seq ?_
    refine WC.seq ?_
    refine WC.region ?_
    refine SL.pure rfl rfl rfl (PureOp.assign rfl) ?_
    refine SL.nil_then ?_
    refine WC.block ?_
    refine WC.loop (σ := Nat) (fun q_ => [(0, 0, .int .i64 n), (1, 0, .slice ea m ec), (2, 0, .slice fa q fc), (3, 0, .slice pa u pc), (12, 0, .int .i64 n), (13, 0, .slice ea m ec), (14, 0, .slice fa q fc), (15, 0, .bool (rightB n l f)), (16, 0, .bool (!(rightB n l f))), (17, 0, .bool (!(rightB n l f))), (22, 0, .bool ((!(rightB n l f)) || (decide (((u : Nat) : Int) ≠ n)))), (9, 0, .int .i64 ((q_ : Nat) : Int))]) (fun q_ => []) (fun q_ => q_ ≤ u ∧ allK (priceB p) q_ = true) (fun q_ => u - q_) 0 (0) (⟨Nat.zero_le _, rfl⟩) ⟨rfl, rfl, rfl, rfl, rfl, rfl, rfl, rfl, rfl, rfl, rfl, rfl, rfl, rfl, rfl, rfl, rfl, rfl, rfl, rfl, rfl, rfl, rfl, rfl, trivial⟩ rfl ?_
    rintro k ⟨hk, hz⟩
    refine WC.seq ?_
    refine WC.seq ?_
    refine WC.region ?_
    refine SL.pure rfl rfl rfl (PureOp.move rfl) ?_
    refine SL.pure rfl rfl rfl (PureOp.move rfl) ?_
    refine SL.pure rfl rfl rfl (PureOp.lss rfl rfl) ?_
    refine SL.nil_then ?_
    refine WC.cond rfl (fun h2 => ?_) (fun h2 => ?_)
    · try simp only [Bool.and_eq_true, Bool.or_eq_true, Bool.not_eq_true', Bool.not_eq_false', Bool.and_eq_false_iff, Bool.or_eq_false_iff, decide_eq_true_eq, decide_eq_false_iff_not, Int.not_lt, Int.not_le, ne_eq, Decidable.not_not] at h2
      refine WC.skip ?_
      refine QX.then_ ?_
      refine WC.seq ?_
      refine WC.block ?_
      refine WC.seq ?_
      refine WC.region ?_
      refine SL.pure rfl rfl rfl (PureOp.move rfl) ?_
      refine SL.pure rfl rfl rfl (PureOp.move rfl) ?_
      refine SL.pure rfl rfl rfl (PureOp.indexAddrN Try.underlying29 sz3 rfl rfl (AoOk.in_ sP) (fun _ => by omega)) ?_
      refine SL.pure rfl rfl rfl (PureOp.load (v := .int .i64 (nth p k)) Try.underlying3 rfl rfl (fun _ => (CellIs.in_ sP k 0 (by omega) (by omega)))) ?_
      refine SL.pure rfl rfl rfl (PureOp.lss rfl rfl) ?_
      refine SL.pure rfl rfl rfl (PureOp.move rfl) ?_
      refine SL.newg 33 false rfl ?_
      refine SL.gpure (c := 1) rfl rfl rfl rfl rfl rfl rfl (PureOp.move rfl) ?_
      refine SL.gpure (c := 1) rfl rfl rfl rfl rfl rfl rfl (PureOp.move rfl) ?_
      refine SL.gpure (c := 1) rfl rfl rfl rfl rfl rfl rfl (PureOp.indexAddrN Try.underlying29 sz3 rfl rfl (AoOk.in_ sP) (by intro hg; simp [gval] at hg; omega)) ?_
      refine SL.gpure (c := 1) rfl rfl rfl rfl rfl rfl rfl (PureOp.load (v := .int .i64 (nth p k)) Try.underlying3 rfl rfl (by intro hg; simp [gval] at hg; exact (CellIs.in_ sP k 0 (by omega) (by omega)))) ?_
      refine SL.gpure (c := 1) rfl rfl rfl rfl rfl rfl rfl (PureOp.gtr rfl rfl) ?_
      refine SL.pure rfl rfl rfl (PureOp.or_ rfl rfl rfl rfl) ?_
      refine SL.nil_then ?_
      refine WC.cond rfl (fun h3 => ?_) (fun h3 => ?_)
      · try simp only [Bool.and_eq_true, Bool.or_eq_true, Bool.not_eq_true', Bool.not_eq_false', Bool.and_eq_false_iff, Bool.or_eq_false_iff, decide_eq_true_eq, decide_eq_false_iff_not, Int.not_lt, Int.not_le, ne_eq, Decidable.not_not] at h3
        refine WC.seq ?_
        refine WC.region ?_
        refine SL.pure rfl rfl rfl (PureOp.assign rfl) ?_
        refine SL.nil_then ?_
        refine WC.ret ?_
        refine QX.ret_in ?_
        refine QX.ret_then ?_
        refine QX.ret_then ?_
        refine QX.ret_in ?_
        refine QX.ret_then ?_
        refine QX.ret1 rfl rfl ?_
        intro w hw
        exact congrArg Value.bool (proves_no2 (k := k) (by omega) (by rw [priceB, Bool.and_eq_false_iff, decide_eq_false_iff_not, decide_eq_false_iff_not]; omega)).symm
      · try simp only [Bool.and_eq_true, Bool.or_eq_true, Bool.not_eq_true', Bool.not_eq_false', Bool.and_eq_false_iff, Bool.or_eq_false_iff, decide_eq_true_eq, decide_eq_false_iff_not, Int.not_lt, Int.not_le, ne_eq, Decidable.not_not] at h3
        refine WC.skip ?_
        refine QX.normal_in ?_
        refine QX.then_ ?_
        refine WC.region ?_
        refine SL.pure rfl rfl rfl (PureOp.move rfl) ?_
        refine SL.pure rfl rfl rfl (PureOp.addN (k := 1) rfl rfl (fun _ => by omega)) ?_
        refine SL.pure rfl rfl rfl (PureOp.assign rfl) ?_
        refine SL.nil ?_
        refine QX.round 0 (k + 1) ⟨⟨(by first | omega | (dsimp only; omega)), allK_next hz (by rw [priceB, Bool.and_eq_true, decide_eq_true_iff, decide_eq_true_iff]; omega)⟩, by first | omega | (dsimp only; omega)⟩ ⟨rfl, rfl, rfl, rfl, rfl, rfl, rfl, rfl, rfl, rfl, rfl, rfl, rfl, rfl, rfl, rfl, rfl, rfl, rfl, rfl, rfl, rfl, rfl, rfl, trivial⟩ rfl
    · try simp only [Bool.and_eq_true, Bool.or_eq_true, Bool.not_eq_true', Bool.not_eq_false', Bool.and_eq_false_iff, Bool.or_eq_false_iff, decide_eq_true_eq, decide_eq_false_iff_not, Int.not_lt, Int.not_le, ne_eq, Decidable.not_not] at h2
      have ek : k = u := by omega
      have hb := price_ok hz
      rw [ek] at hb
      refine WC.exit ?_
      refine QX.exit_then ?_
      refine QX.exit_then ?_
      refine QX.exit_hit ?_
      refine QX.then_ ?_
      refine WC.seq ?_
      refine WC.region ?_
      refine SL.pure rfl rfl rfl (PureOp.move rfl) ?_
      refine SL.pure rfl rfl rfl (PureOp.move rfl) ?_
      refine SL.callo (fun za zc => .slice za ((stepsK l f l.length).length) zc) rfl rfl rfl rfl rfl rfl callable45 (fun w hw => steps_ok l ea m ec hm (by omega) f fa q fc hq (by have := (within_ok hw0).1; omega) hW n hE w (sE.below hw.below) (sF.below hw.below)) (fun za zc => ?_)
      refine SL.norm [_] rfl ?_
      refine SL.pure rfl rfl rfl (PureOp.assign rfl) ?_
      refine SL.nil_then ?_
      refine WC.seq ?_
      refine WC.seq ?_
      refine WC.region ?_
      refine SL.pure rfl rfl rfl (PureOp.assign rfl) ?_
      refine SL.nil_then ?_
      refine WC.block ?_
      refine WC.loop (σ := Nat) (fun q_ => [(0, 0, .int .i64 n), (1, 0, .slice ea m ec), (2, 0, .slice fa q fc), (3, 0, .slice pa u pc), (9, 0, .int .i64 ((k : Nat) : Int)), (10, 0, .slice za ((stepsK l f l.length).length) zc), (12, 0, .int .i64 n), (13, 0, .slice ea m ec), (14, 0, .slice fa q fc), (15, 0, .bool (rightB n l f)), (16, 0, .bool (!(rightB n l f))), (17, 0, .bool (!(rightB n l f))), (22, 0, .bool ((!(rightB n l f)) || (decide (((u : Nat) : Int) ≠ n)))), (23, 0, .int .i64 ((k : Nat) : Int)), (24, 0, .int .i64 n), (25, 0, .bool (decide (((k : Nat) : Int) < n))), (40, 0, .slice ea m ec), (41, 0, .slice fa q fc), (42, 0, .slice za ((stepsK l f l.length).length) zc), (11, 0, .int .i64 ((q_ : Nat) : Int))]) (fun q_ => [Item.own w0.heap.size za ((stepsK l f l.length).length) zc 74 6 (cellsOf encSp (stepsK l f l.length))]) (fun q_ => q_ ≤ (stepsK l f l.length).length ∧ allK (fun i => tightS p (nth (stepsK l f l.length) i)) q_ = true) (fun q_ => (stepsK l f l.length).length - q_) 1 (0) (⟨Nat.zero_le _, rfl⟩) ⟨rfl, rfl, rfl, rfl, rfl, rfl, rfl, rfl, rfl, rfl, rfl, rfl, rfl, rfl, rfl, rfl, rfl, rfl, rfl, rfl, rfl, rfl, rfl, rfl, rfl, rfl, rfl, rfl, rfl, rfl, rfl, rfl, rfl, rfl, rfl, rfl, rfl, rfl, rfl, rfl, trivial⟩ rfl ?_
      rintro j ⟨hj, hz2⟩
      refine WC.seq ?_
      refine WC.seq ?_
      refine WC.region ?_
      refine SL.pure rfl rfl rfl (PureOp.move rfl) ?_
      refine SL.pure rfl rfl rfl (PureOp.move rfl) ?_
      refine SL.pure rfl rfl rfl (PureOp.len rfl Try.underlying70) ?_
      refine SL.pure rfl rfl rfl (PureOp.lss rfl rfl) ?_
      refine SL.nil_then ?_
      refine WC.cond rfl (fun h4 => ?_) (fun h4 => ?_)
      · try simp only [Bool.and_eq_true, Bool.or_eq_true, Bool.not_eq_true', Bool.not_eq_false', Bool.and_eq_false_iff, Bool.or_eq_false_iff, decide_eq_true_eq, decide_eq_false_iff_not, Int.not_lt, Int.not_le, ne_eq, Decidable.not_not] at h4
        have hSk := steps_ok_ hE hW (nth (stepsK l f l.length) j) (nth_mem (by omega))
        have hSl := stepsK_len (l := l) (f := f) l.length
        have hp1 := hb (nth (stepsK l f l.length) j).1.toNat (by omega)
        have hp2 := hb (nth (stepsK l f l.length) j).2.1.toNat (by omega)
        refine WC.skip ?_
        refine QX.then_ ?_
        refine WC.seq ?_
        refine WC.block ?_
        refine WC.seq ?_
        refine WC.quiet rfl (by kernel_rfl) ?_
        refine SQ.pure rfl rfl rfl (PureOp.move rfl) ?_
        refine SQ.pure rfl rfl rfl (PureOp.move rfl) ?_
        refine SQ.pure rfl rfl rfl (PureOp.move rfl) ?_
        refine SQ.pure rfl rfl rfl (PureOp.indexAddrN Try.underlying70 sz74 rfl rfl (AoOk.own 0 rfl) (fun _ => by omega)) ?_
        refine SQ.pure rfl rfl rfl (PureOp.fieldAddr 0 Try.underlying74 rfl rfl sz3 rfl) ?_
        refine SQ.pure rfl rfl rfl (PureOp.load (v := .int .i64 ((nth (stepsK l f l.length) j).1)) Try.underlying3 rfl rfl (fun _ => (CellIs.ownc 0 rfl j 0 (by exact cellsOf_get encSp_len _ _ _ (by omega) (by decide))))) ?_
        refine SQ.pure rfl rfl rfl (PureOp.indexAddr Try.underlying29 sz3 rfl rfl (AoOk.in_ sP) (fun _ => by omega)) ?_
        refine SQ.pure rfl rfl rfl (PureOp.load (v := .int .i64 (nth p (((nth (stepsK l f l.length) j).1).toNat))) Try.underlying3 rfl rfl (fun _ => (CellIs.in_ sP (((nth (stepsK l f l.length) j).1).toNat) 0 (by omega) (by omega)))) ?_
        refine SQ.pure rfl rfl rfl (PureOp.move rfl) ?_
        refine SQ.pure rfl rfl rfl (PureOp.move rfl) ?_
        refine SQ.pure rfl rfl rfl (PureOp.indexAddrN Try.underlying70 sz74 rfl rfl (AoOk.own 0 rfl) (fun _ => by omega)) ?_
        refine SQ.pure rfl rfl rfl (PureOp.fieldAddr 2 Try.underlying74 rfl rfl sz3 rfl) ?_
        refine SQ.pure rfl rfl rfl (PureOp.load (v := .int .i64 ((nth (stepsK l f l.length) j).2.2.1)) Try.underlying3 rfl rfl (fun _ => (CellIs.ownc 0 rfl j 2 (by exact cellsOf_get encSp_len _ _ _ (by omega) (by decide))))) ?_
        refine SQ.pure rfl rfl rfl (PureOp.add rfl rfl (fun _ => by omega)) ?_
        refine SQ.pure rfl rfl rfl (PureOp.move rfl) ?_
        refine SQ.pure rfl rfl rfl (PureOp.move rfl) ?_
        refine SQ.pure rfl rfl rfl (PureOp.move rfl) ?_
        refine SQ.pure rfl rfl rfl (PureOp.indexAddrN Try.underlying70 sz74 rfl rfl (AoOk.own 0 rfl) (fun _ => by omega)) ?_
        refine SQ.pure rfl rfl rfl (PureOp.fieldAddr 1 Try.underlying74 rfl rfl sz3 rfl) ?_
        refine SQ.pure rfl rfl rfl (PureOp.load (v := .int .i64 ((nth (stepsK l f l.length) j).2.1)) Try.underlying3 rfl rfl (fun _ => (CellIs.ownc 0 rfl j 1 (by exact cellsOf_get encSp_len _ _ _ (by omega) (by decide))))) ?_
        refine SQ.pure rfl rfl rfl (PureOp.indexAddr Try.underlying29 sz3 rfl rfl (AoOk.in_ sP) (fun _ => by omega)) ?_
        refine SQ.pure rfl rfl rfl (PureOp.load (v := .int .i64 (nth p (((nth (stepsK l f l.length) j).2.1).toNat))) Try.underlying3 rfl rfl (fun _ => (CellIs.in_ sP (((nth (stepsK l f l.length) j).2.1).toNat) 0 (by omega) (by omega)))) ?_
        refine SQ.pure rfl rfl rfl (PureOp.lss rfl rfl) ?_
        refine SQ.nil_then ?_
        refine WC.cond rfl (fun h5 => ?_) (fun h5 => ?_)
        · try simp only [Bool.and_eq_true, Bool.or_eq_true, Bool.not_eq_true', Bool.not_eq_false', Bool.and_eq_false_iff, Bool.or_eq_false_iff, decide_eq_true_eq, decide_eq_false_iff_not, Int.not_lt, Int.not_le, ne_eq, Decidable.not_not] at h5
          refine WC.seq ?_
          refine WC.region ?_
          refine SL.pure rfl rfl rfl (PureOp.assign rfl) ?_
          refine SL.nil_then ?_
          refine WC.ret ?_
          refine QX.ret_in ?_
          refine QX.ret_then ?_
          refine QX.ret_then ?_
          refine QX.ret_in ?_
          refine QX.ret_then ?_
          refine QX.ret1 rfl rfl ?_
          intro w hw
          exact congrArg Value.bool (proves_no3 (by rw [← steps_tight]; exact allK_not (k := j) (by omega) (by rw [tightS, Bool.not_eq_false', decide_eq_true_iff]; omega))).symm
        · try simp only [Bool.and_eq_true, Bool.or_eq_true, Bool.not_eq_true', Bool.not_eq_false', Bool.and_eq_false_iff, Bool.or_eq_false_iff, decide_eq_true_eq, decide_eq_false_iff_not, Int.not_lt, Int.not_le, ne_eq, Decidable.not_not] at h5
          refine WC.skip ?_
          refine QX.normal_in ?_
          refine QX.then_ ?_
          refine WC.region ?_
          refine SL.pure rfl rfl rfl (PureOp.move rfl) ?_
          refine SL.pure rfl rfl rfl (PureOp.addN (k := 1) rfl rfl (fun _ => by omega)) ?_
          refine SL.pure rfl rfl rfl (PureOp.assign rfl) ?_
          refine SL.nil ?_
          refine QX.round 1 (j + 1) ⟨⟨(by first | omega | (dsimp only; omega)), allK_next hz2 (by rw [tightS, Bool.not_eq_true', decide_eq_false_iff_not]; omega)⟩, by first | omega | (dsimp only; omega)⟩ ⟨rfl, rfl, rfl, rfl, rfl, rfl, rfl, rfl, rfl, rfl, rfl, rfl, rfl, rfl, rfl, rfl, rfl, rfl, rfl, rfl, rfl, rfl, rfl, rfl, rfl, rfl, rfl, rfl, rfl, rfl, rfl, rfl, rfl, rfl, rfl, rfl, rfl, rfl, rfl, rfl, trivial⟩ rfl
      · try simp only [Bool.and_eq_true, Bool.or_eq_true, Bool.not_eq_true', Bool.not_eq_false', Bool.and_eq_false_iff, Bool.or_eq_false_iff, decide_eq_true_eq, decide_eq_false_iff_not, Int.not_lt, Int.not_le, ne_eq, Decidable.not_not] at h4
        refine WC.exit ?_
        refine QX.exit_then ?_
        refine QX.exit_then ?_
        refine QX.exit_hit ?_
        refine QX.then_ ?_
        refine WC.seq ?_
        refine WC.region ?_
        refine SL.pure rfl rfl rfl (PureOp.assign rfl) ?_
        refine SL.nil_then ?_
        refine WC.ret ?_
        refine QX.ret1 rfl rfl ?_
        intro w hw
        have ej : j = (stepsK l f l.length).length := by omega
        exact congrArg Value.bool (proves_yes hrt (by omega) (by rw [← hu, ← ek]; exact hz) (by rw [← steps_tight, ← ej]; exact hz2)).symm

end Go.Proofs.Ytngkbnaehkailaa
