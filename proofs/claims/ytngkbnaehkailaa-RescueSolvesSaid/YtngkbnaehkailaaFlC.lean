import Derived.Test.YtngkbnaehkailaaFlB
namespace Go.Proofs.Ytngkbnaehkailaa
open Go Go.RowKit Eng
set_option linter.unusedVariables false
set_option linter.unusedSimpArgs false

set_option maxHeartbeats 4000000 in
set_option maxRecDepth 100000 in
theorem right_ok (n : Int) (l : List Ed) (ea : Option Addr) (m ec : Nat) (hm : m = l.length) (f : List Int) (fa : Option Addr) (q fc : Nat) (hq : q = f.length) (w0 : World) (sE : SliceIn w0 4 ea m ec (rowsF encEd l)) (sF : SliceIn w0 1 fa q fc (rowsF encI f)) : FnC Try.prog 46 [.int .i64 n, .slice ea m ec, .slice fa q fc] w0 fun v w' => v = .bool (rightB n l f) := by
  refine fnc (N := 16) Try.func46 rfl rfl rfl ?_
  refine WC.seq ?_
  refine WC.region ?_
  refine SL.pure rfl rfl rfl (PureOp.assign rfl) ?_
  refine SL.nil_then ?_
  refine WC.seq ?_
  refine WC.region ?_
  refine SL.pure rfl rfl rfl (PureOp.move rfl) ?_
  refine SL.pure rfl rfl rfl (PureOp.move rfl) ?_
  refine SL.calle rfl rfl rfl rfl rfl rfl callable12 (fun w hw => pcheck_ok n l ea m ec hm 0 1 w (sE.below hw.below)) ?_
  refine SL.norm [] rfl ?_
  refine SL.pure rfl rfl rfl (PureOp.eql rfl rfl) ?_
  refine SL.pure rfl rfl rfl (PureOp.move rfl) ?_
  refine SL.split 11 rfl (fun hs11 => ?_) (fun hs11 => ?_)
  · try simp only [Bool.and_eq_true, Bool.or_eq_true, Bool.not_eq_true', Bool.not_eq_false', Bool.and_eq_false_iff, Bool.or_eq_false_iff, decide_eq_true_eq, decide_eq_false_iff_not, Int.not_lt, Int.not_le, ne_eq, Decidable.not_not] at hs11
    refine SL.ung rfl rfl rfl rfl ?_
    refine SL.pure rfl rfl rfl (PureOp.move rfl) ?_
    refine SL.ung rfl rfl rfl rfl ?_
    refine SL.pure rfl rfl rfl (PureOp.move rfl) ?_
    refine SL.ung rfl rfl rfl rfl ?_
    refine SL.calle rfl rfl rfl rfl rfl rfl callable40 (fun w hw => pwithin_ok l ea m ec hm (by have h := (check_ok (n := n) (l := l) (s := 0) (t := 1) (by assumption)).1; omega) f fa q fc hq w (sE.below hw.below) (sF.below hw.below)) ?_
    refine SL.norm [] rfl ?_
    refine SL.pure rfl rfl rfl (PureOp.pickT rfl rfl) ?_
    refine SL.pure rfl rfl rfl (PureOp.assign rfl) ?_
    refine SL.nil_then ?_
    refine WC.ret ?_
    refine QX.ret1 rfl rfl ?_
    intro w hw
    rw [rightB]; simp_all
  · try simp only [Bool.and_eq_true, Bool.or_eq_true, Bool.not_eq_true', Bool.not_eq_false', Bool.and_eq_false_iff, Bool.or_eq_false_iff, decide_eq_true_eq, decide_eq_false_iff_not, Int.not_lt, Int.not_le, ne_eq, Decidable.not_not] at hs11
    refine SL.off rfl rfl rfl rfl rfl rfl ?_
    refine SL.off rfl rfl rfl rfl rfl rfl ?_
    refine SL.off rfl rfl rfl rfl rfl rfl ?_
    refine SL.pure rfl rfl rfl (PureOp.pickF rfl rfl) ?_
    refine SL.pure rfl rfl rfl (PureOp.assign rfl) ?_
    refine SL.nil_then ?_
    refine WC.ret ?_
    refine QX.ret1 rfl rfl ?_
    intro w hw
    rw [rightB]; simp_all

set_option maxHeartbeats 4000000 in
set_option maxRecDepth 100000 in
theorem known_ok (n : Int) (l : List Ed) (ea : Option Addr) (m ec : Nat) (hm : m = l.length) (f : List Int) (fa : Option Addr) (q fc : Nat) (hq : q = f.length) (w0 : World) (sE : SliceIn w0 4 ea m ec (rowsF encEd l)) (sF : SliceIn w0 1 fa q fc (rowsF encI f)) : FnC Try.prog 47 [.int .i64 n, .slice ea m ec, .slice fa q fc] w0 fun v w' => v = .bool (rightB n l f) := by
  refine fnc (N := 36) Try.func47 rfl rfl rfl ?_
  refine WC.seq ?_
  refine WC.region ?_
  refine SL.pure rfl rfl rfl (PureOp.assign rfl) ?_
  refine SL.nil_then ?_
  refine WC.seq ?_
  refine WC.region ?_
  refine SL.pure rfl rfl rfl (PureOp.move rfl) ?_
  refine SL.pure rfl rfl rfl (PureOp.geq rfl rfl) ?_
  refine SL.pure rfl rfl rfl (PureOp.move rfl) ?_
  refine SL.newg 9 true rfl ?_
  refine SL.gpure (c := 1) rfl rfl rfl rfl rfl rfl rfl (PureOp.move rfl) ?_
  refine SL.gpure (c := 1) rfl rfl rfl rfl rfl rfl rfl (PureOp.leq rfl rfl) ?_
  refine SL.pure rfl rfl rfl (PureOp.and_ rfl rfl rfl rfl) ?_
  refine SL.pure rfl rfl rfl (PureOp.move rfl) ?_
  refine SL.newg 13 true rfl ?_
  refine SL.gpure (c := 2) rfl rfl rfl rfl rfl rfl rfl (PureOp.move rfl) ?_
  refine SL.gpure (c := 2) rfl rfl rfl rfl rfl rfl rfl (PureOp.len rfl Try.underlying22) ?_
  refine SL.gpure (c := 2) rfl rfl rfl rfl rfl rfl rfl (PureOp.leq rfl rfl) ?_
  refine SL.pure rfl rfl rfl (PureOp.and_ rfl rfl rfl rfl) ?_
  refine SL.pure rfl rfl rfl (PureOp.move rfl) ?_
  refine SL.split 18 rfl (fun hs18 => ?_) (fun hs18 => ?_)
  · try simp only [Bool.and_eq_true, Bool.or_eq_true, Bool.not_eq_true', Bool.not_eq_false', Bool.and_eq_false_iff, Bool.or_eq_false_iff, decide_eq_true_eq, decide_eq_false_iff_not, Int.not_lt, Int.not_le, ne_eq, Decidable.not_not] at hs18
    refine SL.ung rfl rfl rfl rfl ?_
    refine SL.pure rfl rfl rfl (PureOp.move rfl) ?_
    refine SL.ung rfl rfl rfl rfl ?_
    refine SL.pure rfl rfl rfl (PureOp.move rfl) ?_
    refine SL.ung rfl rfl rfl rfl ?_
    refine SL.calle rfl rfl rfl rfl rfl rfl callable38 (fun w hw => redges_ok n l ea m ec hm (by omega) w (sE.below hw.below)) ?_
    refine SL.norm [] rfl ?_
    refine SL.ung rfl rfl rfl rfl ?_
    refine SL.pure rfl rfl rfl (PureOp.eql rfl rfl) ?_
    refine SL.pure rfl rfl rfl (PureOp.pickT rfl rfl) ?_
    refine SL.pure rfl rfl rfl (PureOp.move rfl) ?_
    refine SL.split 24 rfl (fun hs24 => ?_) (fun hs24 => ?_)
    · try simp only [Bool.and_eq_true, Bool.or_eq_true, Bool.not_eq_true', Bool.not_eq_false', Bool.and_eq_false_iff, Bool.or_eq_false_iff, decide_eq_true_eq, decide_eq_false_iff_not, Int.not_lt, Int.not_le, ne_eq, Decidable.not_not] at hs24
      refine SL.ung rfl rfl rfl rfl ?_
      refine SL.pure rfl rfl rfl (PureOp.move rfl) ?_
      refine SL.ung rfl rfl rfl rfl ?_
      refine SL.pure rfl rfl rfl (PureOp.len rfl Try.underlying29) ?_
      refine SL.ung rfl rfl rfl rfl ?_
      refine SL.pure rfl rfl rfl (PureOp.move rfl) ?_
      refine SL.ung rfl rfl rfl rfl ?_
      refine SL.pure rfl rfl rfl (PureOp.len rfl Try.underlying22) ?_
      refine SL.ung rfl rfl rfl rfl ?_
      refine SL.pure rfl rfl rfl (PureOp.eql rfl rfl) ?_
      refine SL.pure rfl rfl rfl (PureOp.pickT rfl rfl) ?_
      refine SL.pure rfl rfl rfl (PureOp.move rfl) ?_
      refine SL.split 31 rfl (fun hs31 => ?_) (fun hs31 => ?_)
      · try simp only [Bool.and_eq_true, Bool.or_eq_true, Bool.not_eq_true', Bool.not_eq_false', Bool.and_eq_false_iff, Bool.or_eq_false_iff, decide_eq_true_eq, decide_eq_false_iff_not, Int.not_lt, Int.not_le, ne_eq, Decidable.not_not] at hs31
        refine SL.ung rfl rfl rfl rfl ?_
        refine SL.pure rfl rfl rfl (PureOp.move rfl) ?_
        refine SL.ung rfl rfl rfl rfl ?_
        refine SL.pure rfl rfl rfl (PureOp.move rfl) ?_
        refine SL.ung rfl rfl rfl rfl ?_
        refine SL.calle rfl rfl rfl rfl rfl rfl callable41 (fun w hw => rwithin_ok l ea m ec hm (by omega) f fa q fc hq (by omega) w (sE.below hw.below) (sF.below hw.below)) ?_
        refine SL.norm [] rfl ?_
        refine SL.pure rfl rfl rfl (PureOp.pickT rfl rfl) ?_
        refine SL.pure rfl rfl rfl (PureOp.assign rfl) ?_
        refine SL.nil_then ?_
        refine WC.ret ?_
        refine QX.ret1 rfl rfl ?_
        intro w hw
        refine congrArg Value.bool ?_
        rw [known_eq, knownB]
        by_cases e : f.length = l.length
        · try rw [show decide (f.length = l.length) = true from decide_eq_true e]
          first | (rw [show decide (2 ≤ n) = true from decide_eq_true (by omega), show decide (n ≤ 128) = true from decide_eq_true (by omega), show decide ((l.length : Int) ≤ 2048) = true from decide_eq_true (by omega), show decide (edgesE n l l.length = 0) = true from decide_eq_true (by assumption)]; first | rfl | (exfalso; omega)) | (rw [eq_comm]; simp only [Bool.and_eq_false_iff, decide_eq_false_iff_not]; refine .inl ?_; omega)
        · rw [show decide (f.length = l.length) = false from decide_eq_false e]
          first | (exfalso; omega) | simp
      · try simp only [Bool.and_eq_true, Bool.or_eq_true, Bool.not_eq_true', Bool.not_eq_false', Bool.and_eq_false_iff, Bool.or_eq_false_iff, decide_eq_true_eq, decide_eq_false_iff_not, Int.not_lt, Int.not_le, ne_eq, Decidable.not_not] at hs31
        refine SL.off rfl rfl rfl rfl rfl rfl ?_
        refine SL.off rfl rfl rfl rfl rfl rfl ?_
        refine SL.off rfl rfl rfl rfl rfl rfl ?_
        refine SL.pure rfl rfl rfl (PureOp.pickF rfl rfl) ?_
        refine SL.pure rfl rfl rfl (PureOp.assign rfl) ?_
        refine SL.nil_then ?_
        refine WC.ret ?_
        refine QX.ret1 rfl rfl ?_
        intro w hw
        refine congrArg Value.bool ?_
        rw [known_eq, knownB]
        by_cases e : f.length = l.length
        · try rw [show decide (f.length = l.length) = true from decide_eq_true e]
          first | (rw [show decide (2 ≤ n) = true from decide_eq_true (by omega), show decide (n ≤ 128) = true from decide_eq_true (by omega), show decide ((l.length : Int) ≤ 2048) = true from decide_eq_true (by omega), show decide (edgesE n l l.length = 0) = true from decide_eq_true (by assumption)]; first | rfl | (exfalso; omega)) | (rw [eq_comm]; simp only [Bool.and_eq_false_iff, decide_eq_false_iff_not]; refine .inl ?_; omega)
        · rw [show decide (f.length = l.length) = false from decide_eq_false e]
          first | (exfalso; omega) | simp
    · try simp only [Bool.and_eq_true, Bool.or_eq_true, Bool.not_eq_true', Bool.not_eq_false', Bool.and_eq_false_iff, Bool.or_eq_false_iff, decide_eq_true_eq, decide_eq_false_iff_not, Int.not_lt, Int.not_le, ne_eq, Decidable.not_not] at hs24
      refine SL.off rfl rfl rfl rfl rfl rfl ?_
      refine SL.off rfl rfl rfl rfl rfl rfl ?_
      refine SL.off rfl rfl rfl rfl rfl rfl ?_
      refine SL.off rfl rfl rfl rfl rfl rfl ?_
      refine SL.off rfl rfl rfl rfl rfl rfl ?_
      refine SL.pure rfl rfl rfl (PureOp.pickF rfl rfl) ?_
      refine SL.pure rfl rfl rfl (PureOp.move rfl) ?_
      refine SL.off rfl rfl rfl rfl rfl rfl ?_
      refine SL.off rfl rfl rfl rfl rfl rfl ?_
      refine SL.off rfl rfl rfl rfl rfl rfl ?_
      refine SL.pure rfl rfl rfl (PureOp.pickF rfl rfl) ?_
      refine SL.pure rfl rfl rfl (PureOp.assign rfl) ?_
      refine SL.nil_then ?_
      refine WC.ret ?_
      refine QX.ret1 rfl rfl ?_
      intro w hw
      refine congrArg Value.bool ?_
      rw [known_eq, knownB]
      by_cases e : f.length = l.length
      · try rw [show decide (f.length = l.length) = true from decide_eq_true e]
        first | (rw [show decide (2 ≤ n) = true from decide_eq_true (by omega), show decide (n ≤ 128) = true from decide_eq_true (by omega), show decide ((l.length : Int) ≤ 2048) = true from decide_eq_true (by omega), show decide (edgesE n l l.length = 0) = true from decide_eq_true (by assumption)]; first | rfl | (exfalso; omega)) | (rw [eq_comm]; simp only [Bool.and_eq_false_iff, decide_eq_false_iff_not]; refine .inl ?_; omega)
      · rw [show decide (f.length = l.length) = false from decide_eq_false e]
        first | (exfalso; omega) | simp
  · try simp only [Bool.and_eq_true, Bool.or_eq_true, Bool.not_eq_true', Bool.not_eq_false', Bool.and_eq_false_iff, Bool.or_eq_false_iff, decide_eq_true_eq, decide_eq_false_iff_not, Int.not_lt, Int.not_le, ne_eq, Decidable.not_not] at hs18
    refine SL.off rfl rfl rfl rfl rfl rfl ?_
    refine SL.off rfl rfl rfl rfl rfl rfl ?_
    refine SL.off rfl rfl rfl rfl rfl rfl ?_
    refine SL.off rfl rfl rfl rfl rfl rfl ?_
    refine SL.pure rfl rfl rfl (PureOp.pickF rfl rfl) ?_
    refine SL.pure rfl rfl rfl (PureOp.move rfl) ?_
    refine SL.off rfl rfl rfl rfl rfl rfl ?_
    refine SL.off rfl rfl rfl rfl rfl rfl ?_
    refine SL.off rfl rfl rfl rfl rfl rfl ?_
    refine SL.off rfl rfl rfl rfl rfl rfl ?_
    refine SL.off rfl rfl rfl rfl rfl rfl ?_
    refine SL.pure rfl rfl rfl (PureOp.pickF rfl rfl) ?_
    refine SL.pure rfl rfl rfl (PureOp.move rfl) ?_
    refine SL.off rfl rfl rfl rfl rfl rfl ?_
    refine SL.off rfl rfl rfl rfl rfl rfl ?_
    refine SL.off rfl rfl rfl rfl rfl rfl ?_
    refine SL.pure rfl rfl rfl (PureOp.pickF rfl rfl) ?_
    refine SL.pure rfl rfl rfl (PureOp.assign rfl) ?_
    refine SL.nil_then ?_
    refine WC.ret ?_
    refine QX.ret1 rfl rfl ?_
    intro w hw
    refine congrArg Value.bool ?_
    rw [known_eq, knownB]
    by_cases e : f.length = l.length
    · try rw [show decide (f.length = l.length) = true from decide_eq_true e]
      first | (rw [show decide (2 ≤ n) = true from decide_eq_true (by omega), show decide (n ≤ 128) = true from decide_eq_true (by omega), show decide ((l.length : Int) ≤ 2048) = true from decide_eq_true (by omega), show decide (edgesE n l l.length = 0) = true from decide_eq_true (by assumption)]; first | rfl | (exfalso; omega)) | (rw [eq_comm]; simp only [Bool.and_eq_false_iff, decide_eq_false_iff_not]; refine .inl ?_; omega)
    · rw [show decide (f.length = l.length) = false from decide_eq_false e]
      first | (exfalso; omega) | simp

set_option maxHeartbeats 4000000 in
set_option maxRecDepth 100000 in
theorem steps_ok (l : List Ed) (ea : Option Addr) (m ec : Nat) (hm : m = l.length) (hmb : m ≤ 4000) (f : List Int) (fa : Option Addr) (q fc : Nat) (hq : q = f.length) (hqm : q = m) (hW : ∀ i, i < l.length → 0 ≤ nth f i ∧ nth f i ≤ (nth l i).2.2.1) (n : Int) (hE : EdOk n l) (w0 : World) (sE : SliceIn w0 4 ea m ec (rowsF encEd l)) (sF : SliceIn w0 1 fa q fc (rowsF encI f)) : FnC Try.prog 45 [.slice ea m ec, .slice fa q fc] w0 fun v w' => ∃ a c, v = .slice a (stepsK l f l.length).length c ∧ w'.ownsRow w0.heap.size 74 6 (.slice a (stepsK l f l.length).length c) (stepsK l f l.length).length (cellsOf encSp (stepsK l f l.length)) := by
  refine fnc (N := 84) Try.func45 rfl rfl rfl ?_
  refine WC.seq ?_
  refine WC.region ?_
  refine SL.pure rfl rfl rfl (PureOp.assign rfl) ?_
  refine SL.nil_then ?_
  refine WC.seq ?_
  refine WC.region ?_
  refine SL.addnil 74 6 ?_
  refine SL.pure rfl rfl rfl (PureOp.assign rfl) ?_
  refine SL.nil_then ?_
  refine WC.seq ?_
  refine WC.seq ?_
  refine WC.region ?_
  refine SL.pure rfl rfl rfl (PureOp.assign rfl) ?_
  refine SL.nil_then ?_
  refine WC.block ?_
  refine WC.loop (σ := Nat × Nat × List Sp × Option Addr × Nat) (fun q_ => [(0, 0, .slice ea m ec), (1, 0, .slice fa q fc), (4, 0, .slice none 0 0), (6, 0, .int .i64 ((q_.1 : Nat) : Int)), (5, 0, .slice q_.2.2.2.1 q_.2.1 q_.2.2.2.2)]) (fun q_ => [Item.own w0.heap.size q_.2.2.2.1 q_.2.1 q_.2.2.2.2 74 6 (cellsOf encSp (q_.2.2.1))]) (fun q_ => (q_.1 ≤ m ∧ q_.2.1 ≤ 2 * q_.1 ∧ q_.2.1 = q_.2.2.1.length) ∧ q_.2.2.1 = stepsK l f q_.1) (fun q_ => m - q_.1) 1 ((0, 0, [], none, 0)) (⟨⟨Nat.zero_le _, Nat.le_refl _, rfl⟩, rfl⟩) ⟨rfl, rfl, rfl, rfl, rfl, rfl, rfl, rfl, rfl, rfl, trivial⟩ rfl ?_
  rintro ⟨k, z, L, a, c⟩ ⟨⟨hk, hz1, hz⟩, hv⟩
  try dsimp only at *
  refine WC.seq ?_
  refine WC.seq ?_
  refine WC.region ?_
  refine SL.pure rfl rfl rfl (PureOp.move rfl) ?_
  refine SL.pure rfl rfl rfl (PureOp.move rfl) ?_
  refine SL.pure rfl rfl rfl (PureOp.len rfl Try.underlying22) ?_
  refine SL.pure rfl rfl rfl (PureOp.lss rfl rfl) ?_
  refine SL.nil_then ?_
  refine WC.cond rfl (fun h1 => ?_) (fun h1 => ?_)
  · try simp only [Bool.and_eq_true, Bool.or_eq_true, Bool.not_eq_true', Bool.not_eq_false', Bool.and_eq_false_iff, Bool.or_eq_false_iff, decide_eq_true_eq, decide_eq_false_iff_not, Int.not_lt, Int.not_le, ne_eq, Decidable.not_not] at h1
    have hEk := hE k (by omega)
    have hWk := hW k (by omega)
    refine WC.skip ?_
    refine QX.then_ ?_
    refine WC.seq ?_
    refine WC.block ?_
    refine WC.seq ?_
    refine WC.seq ?_
    refine WC.quiet rfl (by kernel_rfl) ?_
    refine SQ.pure rfl rfl rfl (PureOp.move rfl) ?_
    refine SQ.pure rfl rfl rfl (PureOp.move rfl) ?_
    refine SQ.pure rfl rfl rfl (PureOp.indexAddrN Try.underlying29 sz3 rfl rfl (AoOk.in_ sF) (fun _ => by omega)) ?_
    refine SQ.pure rfl rfl rfl (PureOp.load (v := .int .i64 (nth f k)) Try.underlying3 rfl rfl (fun _ => (CellIs.in_ sF k 0 (by omega) (by omega)))) ?_
    refine SQ.pure rfl rfl rfl (PureOp.move rfl) ?_
    refine SQ.pure rfl rfl rfl (PureOp.move rfl) ?_
    refine SQ.pure rfl rfl rfl (PureOp.indexAddrN Try.underlying22 sz61 rfl rfl (AoOk.in_ sE) (fun _ => by omega)) ?_
    refine SQ.pure rfl rfl rfl (PureOp.fieldAddr 2 Try.underlying61 rfl rfl sz3 rfl) ?_
    refine SQ.pure rfl rfl rfl (PureOp.load (v := .int .i64 ((nth l k).2.2.1)) Try.underlying3 rfl rfl (fun _ => (CellIs.in_ sE k 2 (by omega) (by omega)))) ?_
    refine SQ.pure rfl rfl rfl (PureOp.lss rfl rfl) ?_
    refine SQ.nil_then ?_
    refine WC.cond rfl (fun h2 => ?_) (fun h2 => ?_)
    · try simp only [Bool.and_eq_true, Bool.or_eq_true, Bool.not_eq_true', Bool.not_eq_false', Bool.and_eq_false_iff, Bool.or_eq_false_iff, decide_eq_true_eq, decide_eq_false_iff_not, Int.not_lt, Int.not_le, ne_eq, Decidable.not_not] at h2
      refine WC.drawh ([Item.triv]) 31 [false, false, false, false, false, false, false, false, false, false, false, false, false, false, false, false, false, false, false, false, false, false, false, false, false, false, false, false, false, false, false] rfl rfl rfl ?_
      refine SD.take 0 [true, false, false, false, false, false, false, false, false, false, false, false, false, false, false, false, false, false, false, false, false, false, false, false, false, false, false, false, false, false, false] rfl (by kernel_rfl) rfl (fun _ h => (HeapOk.settriv h (i := 0) rfl)) rfl rfl rfl (PureOp.move rfl) ?_
      refine SD.take 1 [true, true, false, false, false, false, false, false, false, false, false, false, false, false, false, false, false, false, false, false, false, false, false, false, false, false, false, false, false, false, false] rfl (by kernel_rfl) rfl (fun _ h => (HeapOk.settriv h (i := 0) rfl)) rfl rfl rfl (PureOp.move rfl) ?_
      refine SD.take 2 [true, true, true, false, false, false, false, false, false, false, false, false, false, false, false, false, false, false, false, false, false, false, false, false, false, false, false, false, false, false, false] rfl (by kernel_rfl) rfl (fun _ h => (HeapOk.settriv h (i := 0) rfl)) rfl rfl rfl (PureOp.move rfl) ?_
      refine SD.take 3 [true, true, true, true, false, false, false, false, false, false, false, false, false, false, false, false, false, false, false, false, false, false, false, false, false, false, false, false, false, false, false] rfl (by kernel_rfl) rfl (fun _ h => (HeapOk.settriv h (i := 0) rfl)) rfl rfl rfl (PureOp.indexAddrN Try.underlying22 sz61 rfl rfl (AoOk.in_ sE) (fun _ => by omega)) ?_
      refine SD.take 4 [true, true, true, true, true, false, false, false, false, false, false, false, false, false, false, false, false, false, false, false, false, false, false, false, false, false, false, false, false, false, false] rfl (by kernel_rfl) rfl (fun _ h => (HeapOk.settriv h (i := 0) rfl)) rfl rfl rfl (PureOp.fieldAddr 0 Try.underlying61 rfl rfl sz3 rfl) ?_
      refine SD.take 5 [true, true, true, true, true, true, false, false, false, false, false, false, false, false, false, false, false, false, false, false, false, false, false, false, false, false, false, false, false, false, false] rfl (by kernel_rfl) rfl (fun _ h => (HeapOk.settriv h (i := 0) rfl)) rfl rfl rfl (PureOp.load (v := .int .i64 ((nth l k).1)) Try.underlying3 rfl rfl (fun _ => (CellIs.in_ sE k 0 (by omega) (by omega)))) ?_
      refine SD.take 6 [true, true, true, true, true, true, true, false, false, false, false, false, false, false, false, false, false, false, false, false, false, false, false, false, false, false, false, false, false, false, false] rfl (by kernel_rfl) rfl (fun _ h => (HeapOk.settriv h (i := 0) rfl)) rfl rfl rfl (PureOp.move rfl) ?_
      refine SD.take 7 [true, true, true, true, true, true, true, true, false, false, false, false, false, false, false, false, false, false, false, false, false, false, false, false, false, false, false, false, false, false, false] rfl (by kernel_rfl) rfl (fun _ h => (HeapOk.settriv h (i := 0) rfl)) rfl rfl rfl (PureOp.move rfl) ?_
      refine SD.take 8 [true, true, true, true, true, true, true, true, true, false, false, false, false, false, false, false, false, false, false, false, false, false, false, false, false, false, false, false, false, false, false] rfl (by kernel_rfl) rfl (fun _ h => (HeapOk.settriv h (i := 0) rfl)) rfl rfl rfl (PureOp.indexAddrN Try.underlying22 sz61 rfl rfl (AoOk.in_ sE) (fun _ => by omega)) ?_
      refine SD.take 9 [true, true, true, true, true, true, true, true, true, true, false, false, false, false, false, false, false, false, false, false, false, false, false, false, false, false, false, false, false, false, false] rfl (by kernel_rfl) rfl (fun _ h => (HeapOk.settriv h (i := 0) rfl)) rfl rfl rfl (PureOp.fieldAddr 1 Try.underlying61 rfl rfl sz3 rfl) ?_
      refine SD.take 10 [true, true, true, true, true, true, true, true, true, true, true, false, false, false, false, false, false, false, false, false, false, false, false, false, false, false, false, false, false, false, false] rfl (by kernel_rfl) rfl (fun _ h => (HeapOk.settriv h (i := 0) rfl)) rfl rfl rfl (PureOp.load (v := .int .i64 ((nth l k).2.1)) Try.underlying3 rfl rfl (fun _ => (CellIs.in_ sE k 1 (by omega) (by omega)))) ?_
      refine SD.take 11 [true, true, true, true, true, true, true, true, true, true, true, true, false, false, false, false, false, false, false, false, false, false, false, false, false, false, false, false, false, false, false] rfl (by kernel_rfl) rfl (fun _ h => (HeapOk.settriv h (i := 0) rfl)) rfl rfl rfl (PureOp.move rfl) ?_
      refine SD.take 12 [true, true, true, true, true, true, true, true, true, true, true, true, true, false, false, false, false, false, false, false, false, false, false, false, false, false, false, false, false, false, false] rfl (by kernel_rfl) rfl (fun _ h => (HeapOk.settriv h (i := 0) rfl)) rfl rfl rfl (PureOp.move rfl) ?_
      refine SD.take 13 [true, true, true, true, true, true, true, true, true, true, true, true, true, true, false, false, false, false, false, false, false, false, false, false, false, false, false, false, false, false, false] rfl (by kernel_rfl) rfl (fun _ h => (HeapOk.settriv h (i := 0) rfl)) rfl rfl rfl (PureOp.indexAddrN Try.underlying22 sz61 rfl rfl (AoOk.in_ sE) (fun _ => by omega)) ?_
      refine SD.take 14 [true, true, true, true, true, true, true, true, true, true, true, true, true, true, true, false, false, false, false, false, false, false, false, false, false, false, false, false, false, false, false] rfl (by kernel_rfl) rfl (fun _ h => (HeapOk.settriv h (i := 0) rfl)) rfl rfl rfl (PureOp.fieldAddr 3 Try.underlying61 rfl rfl sz3 rfl) ?_
      refine SD.take 15 [true, true, true, true, true, true, true, true, true, true, true, true, true, true, true, true, false, false, false, false, false, false, false, false, false, false, false, false, false, false, false] rfl (by kernel_rfl) rfl (fun _ h => (HeapOk.settriv h (i := 0) rfl)) rfl rfl rfl (PureOp.load (v := .int .i64 ((nth l k).2.2.2)) Try.underlying3 rfl rfl (fun _ => (CellIs.in_ sE k 3 (by omega) (by omega)))) ?_
      refine SD.take 16 [true, true, true, true, true, true, true, true, true, true, true, true, true, true, true, true, true, false, false, false, false, false, false, false, false, false, false, false, false, false, false] rfl (by kernel_rfl) rfl (fun _ h => (HeapOk.settriv h (i := 0) rfl)) rfl rfl rfl (PureOp.move rfl) ?_
      refine SD.take 17 [true, true, true, true, true, true, true, true, true, true, true, true, true, true, true, true, true, true, false, false, false, false, false, false, false, false, false, false, false, false, false] rfl (by kernel_rfl) rfl (fun _ h => (HeapOk.settriv h (i := 0) rfl)) rfl rfl rfl (PureOp.move rfl) ?_
      refine SD.take 18 [true, true, true, true, true, true, true, true, true, true, true, true, true, true, true, true, true, true, true, false, false, false, false, false, false, false, false, false, false, false, false] rfl (by kernel_rfl) rfl (fun _ h => (HeapOk.settriv h (i := 0) rfl)) rfl rfl rfl (PureOp.indexAddrN Try.underlying22 sz61 rfl rfl (AoOk.in_ sE) (fun _ => by omega)) ?_
      refine SD.take 19 [true, true, true, true, true, true, true, true, true, true, true, true, true, true, true, true, true, true, true, true, false, false, false, false, false, false, false, false, false, false, false] rfl (by kernel_rfl) rfl (fun _ h => (HeapOk.settriv h (i := 0) rfl)) rfl rfl rfl (PureOp.fieldAddr 2 Try.underlying61 rfl rfl sz3 rfl) ?_
      refine SD.take 20 [true, true, true, true, true, true, true, true, true, true, true, true, true, true, true, true, true, true, true, true, true, false, false, false, false, false, false, false, false, false, false] rfl (by kernel_rfl) rfl (fun _ h => (HeapOk.settriv h (i := 0) rfl)) rfl rfl rfl (PureOp.load (v := .int .i64 ((nth l k).2.2.1)) Try.underlying3 rfl rfl (fun _ => (CellIs.in_ sE k 2 (by omega) (by omega)))) ?_
      refine SD.take 21 [true, true, true, true, true, true, true, true, true, true, true, true, true, true, true, true, true, true, true, true, true, true, false, false, false, false, false, false, false, false, false] rfl (by kernel_rfl) rfl (fun _ h => (HeapOk.settriv h (i := 0) rfl)) rfl rfl rfl (PureOp.move rfl) ?_
      refine SD.take 22 [true, true, true, true, true, true, true, true, true, true, true, true, true, true, true, true, true, true, true, true, true, true, true, false, false, false, false, false, false, false, false] rfl (by kernel_rfl) rfl (fun _ h => (HeapOk.settriv h (i := 0) rfl)) rfl rfl rfl (PureOp.move rfl) ?_
      refine SD.take 23 [true, true, true, true, true, true, true, true, true, true, true, true, true, true, true, true, true, true, true, true, true, true, true, true, false, false, false, false, false, false, false] rfl (by kernel_rfl) rfl (fun _ h => (HeapOk.settriv h (i := 0) rfl)) rfl rfl rfl (PureOp.indexAddrN Try.underlying29 sz3 rfl rfl (AoOk.in_ sF) (fun _ => by omega)) ?_
      refine SD.take 24 [true, true, true, true, true, true, true, true, true, true, true, true, true, true, true, true, true, true, true, true, true, true, true, true, true, false, false, false, false, false, false] rfl (by kernel_rfl) rfl (fun _ h => (HeapOk.settriv h (i := 0) rfl)) rfl rfl rfl (PureOp.load (v := .int .i64 (nth f k)) Try.underlying3 rfl rfl (fun _ => (CellIs.in_ sF k 0 (by omega) (by omega)))) ?_
      refine SD.take 25 [true, true, true, true, true, true, true, true, true, true, true, true, true, true, true, true, true, true, true, true, true, true, true, true, true, true, false, false, false, false, false] rfl (by kernel_rfl) rfl (fun _ h => (HeapOk.settriv h (i := 0) rfl)) rfl rfl rfl (PureOp.sub rfl rfl (fun _ => by omega)) ?_
      refine SD.take 26 [true, true, true, true, true, true, true, true, true, true, true, true, true, true, true, true, true, true, true, true, true, true, true, true, true, true, true, false, false, false, false] rfl (by kernel_rfl) rfl (fun _ h => (HeapOk.settriv h (i := 0) rfl)) rfl rfl rfl (PureOp.move rfl) ?_
      refine SD.take 27 [true, true, true, true, true, true, true, true, true, true, true, true, true, true, true, true, true, true, true, true, true, true, true, true, true, true, true, true, false, false, false] rfl (by kernel_rfl) rfl (fun _ h => (HeapOk.settriv h (i := 0) rfl)) rfl rfl rfl (PureOp.build bld74 rfl rfl) ?_
      refine SD.one 28 [true, true, true, true, true, true, true, true, true, true, true, true, true, true, true, true, true, true, true, true, true, true, true, true, true, true, true, true, true, false, false] (by kernel_rfl) rfl rfl ?_
      refine SL.buildSlice rfl rfl Try.underlying70 elem74 rfl rfl rfl rfl (fun b1 hb1 => ?_)
      refine SL.norm [_, _] rfl ?_
      refine SD.back (fun _ h => (HeapOk.settriv (HeapOk.take h 1) (i := 0) rfl)) ?_
      refine SD.one 29 [true, true, true, true, true, true, true, true, true, true, true, true, true, true, true, true, true, true, true, true, true, true, true, true, true, true, true, true, true, true, false] (by kernel_rfl) rfl rfl ?_
      refine SL.append 0 rfl rfl Try.underlying70 elem74 rfl rfl rfl rfl (SrcIs.own 1 rfl) (by rfl) (by omega) (by omega) (fun ao1_ cap1_ => ?_)
      refine SL.itemxs 0 rfl (show _ = cellsOf encSp (L ++ [((nth l k).1, (nth l k).2.1, (nth l k).2.2.2, (nth l k).2.2.1 - nth f k, (k : Int), false)]) from by rw [cellsOf_append (l := L), cellsOf_one]; rfl) ?_
      refine SL.norm [_, _] rfl ?_
      refine SD.back (fun _ h => (HeapOk.settriv (HeapOk.take h 1) (i := 0) rfl)) ?_
      refine SD.take 30 [true, true, true, true, true, true, true, true, true, true, true, true, true, true, true, true, true, true, true, true, true, true, true, true, true, true, true, true, true, true, true] rfl (by kernel_rfl) rfl (fun _ h => (HeapOk.settriv (HeapOk.take h 1) (i := 0) rfl)) rfl rfl rfl (PureOp.assign rfl) ?_
      refine SD.done (by kernel_rfl) ?_
      refine QX.ofK ?_
      refine QX.then_ ?_
      refine WC.seq ?_
      refine WC.region ?_
      refine SL.pure rfl rfl rfl (PureOp.move rfl) ?_
      refine SL.pure rfl rfl rfl (PureOp.move rfl) ?_
      refine SL.pure rfl rfl rfl (PureOp.indexAddrN Try.underlying29 sz3 rfl rfl (AoOk.in_ sF) (fun _ => by omega)) ?_
      refine SL.pure rfl rfl rfl (PureOp.load (v := .int .i64 (nth f k)) Try.underlying3 rfl rfl (fun _ => (CellIs.in_ sF k 0 (by omega) (by omega)))) ?_
      refine SL.pure rfl rfl rfl (PureOp.gtr rfl rfl) ?_
      refine SL.nil_then ?_
      refine WC.cond rfl (fun h3 => ?_) (fun h3 => ?_)
      · try simp only [Bool.and_eq_true, Bool.or_eq_true, Bool.not_eq_true', Bool.not_eq_false', Bool.and_eq_false_iff, Bool.or_eq_false_iff, decide_eq_true_eq, decide_eq_false_iff_not, Int.not_lt, Int.not_le, ne_eq, Decidable.not_not] at h3
        refine WC.drawh ([Item.triv, Item.own w0.heap.size (some ⟨b1, 0, none⟩) 1 1 74 6 ([.int .i64 ((nth l k).1), .int .i64 ((nth l k).2.1), .int .i64 ((nth l k).2.2.2), .int .i64 (((nth l k).2.2.1) - (nth f k)), .int .i64 ((k : Nat) : Int), .bool false])]) 26 [false, false, false, false, false, false, false, false, false, false, false, false, false, false, false, false, false, false, false, false, false, false, false, false, false, false] rfl rfl rfl ?_
        refine SD.take 0 [true, false, false, false, false, false, false, false, false, false, false, false, false, false, false, false, false, false, false, false, false, false, false, false, false, false] rfl (by kernel_rfl) rfl (fun _ h => (HeapOk.settriv h (i := 0) rfl)) rfl rfl rfl (PureOp.move rfl) ?_
        refine SD.take 1 [true, true, false, false, false, false, false, false, false, false, false, false, false, false, false, false, false, false, false, false, false, false, false, false, false, false] rfl (by kernel_rfl) rfl (fun _ h => (HeapOk.settriv h (i := 0) rfl)) rfl rfl rfl (PureOp.move rfl) ?_
        refine SD.take 2 [true, true, true, false, false, false, false, false, false, false, false, false, false, false, false, false, false, false, false, false, false, false, false, false, false, false] rfl (by kernel_rfl) rfl (fun _ h => (HeapOk.settriv h (i := 0) rfl)) rfl rfl rfl (PureOp.move rfl) ?_
        refine SD.take 3 [true, true, true, true, false, false, false, false, false, false, false, false, false, false, false, false, false, false, false, false, false, false, false, false, false, false] rfl (by kernel_rfl) rfl (fun _ h => (HeapOk.settriv h (i := 0) rfl)) rfl rfl rfl (PureOp.indexAddrN Try.underlying22 sz61 rfl rfl (AoOk.in_ sE) (fun _ => by omega)) ?_
        refine SD.take 4 [true, true, true, true, true, false, false, false, false, false, false, false, false, false, false, false, false, false, false, false, false, false, false, false, false, false] rfl (by kernel_rfl) rfl (fun _ h => (HeapOk.settriv h (i := 0) rfl)) rfl rfl rfl (PureOp.fieldAddr 1 Try.underlying61 rfl rfl sz3 rfl) ?_
        refine SD.take 5 [true, true, true, true, true, true, false, false, false, false, false, false, false, false, false, false, false, false, false, false, false, false, false, false, false, false] rfl (by kernel_rfl) rfl (fun _ h => (HeapOk.settriv h (i := 0) rfl)) rfl rfl rfl (PureOp.load (v := .int .i64 ((nth l k).2.1)) Try.underlying3 rfl rfl (fun _ => (CellIs.in_ sE k 1 (by omega) (by omega)))) ?_
        refine SD.take 6 [true, true, true, true, true, true, true, false, false, false, false, false, false, false, false, false, false, false, false, false, false, false, false, false, false, false] rfl (by kernel_rfl) rfl (fun _ h => (HeapOk.settriv h (i := 0) rfl)) rfl rfl rfl (PureOp.move rfl) ?_
        refine SD.take 7 [true, true, true, true, true, true, true, true, false, false, false, false, false, false, false, false, false, false, false, false, false, false, false, false, false, false] rfl (by kernel_rfl) rfl (fun _ h => (HeapOk.settriv h (i := 0) rfl)) rfl rfl rfl (PureOp.move rfl) ?_
        refine SD.take 8 [true, true, true, true, true, true, true, true, true, false, false, false, false, false, false, false, false, false, false, false, false, false, false, false, false, false] rfl (by kernel_rfl) rfl (fun _ h => (HeapOk.settriv h (i := 0) rfl)) rfl rfl rfl (PureOp.indexAddrN Try.underlying22 sz61 rfl rfl (AoOk.in_ sE) (fun _ => by omega)) ?_
        refine SD.take 9 [true, true, true, true, true, true, true, true, true, true, false, false, false, false, false, false, false, false, false, false, false, false, false, false, false, false] rfl (by kernel_rfl) rfl (fun _ h => (HeapOk.settriv h (i := 0) rfl)) rfl rfl rfl (PureOp.fieldAddr 0 Try.underlying61 rfl rfl sz3 rfl) ?_
        refine SD.take 10 [true, true, true, true, true, true, true, true, true, true, true, false, false, false, false, false, false, false, false, false, false, false, false, false, false, false] rfl (by kernel_rfl) rfl (fun _ h => (HeapOk.settriv h (i := 0) rfl)) rfl rfl rfl (PureOp.load (v := .int .i64 ((nth l k).1)) Try.underlying3 rfl rfl (fun _ => (CellIs.in_ sE k 0 (by omega) (by omega)))) ?_
        refine SD.take 11 [true, true, true, true, true, true, true, true, true, true, true, true, false, false, false, false, false, false, false, false, false, false, false, false, false, false] rfl (by kernel_rfl) rfl (fun _ h => (HeapOk.settriv h (i := 0) rfl)) rfl rfl rfl (PureOp.move rfl) ?_
        refine SD.take 12 [true, true, true, true, true, true, true, true, true, true, true, true, true, false, false, false, false, false, false, false, false, false, false, false, false, false] rfl (by kernel_rfl) rfl (fun _ h => (HeapOk.settriv h (i := 0) rfl)) rfl rfl rfl (PureOp.move rfl) ?_
        refine SD.take 13 [true, true, true, true, true, true, true, true, true, true, true, true, true, true, false, false, false, false, false, false, false, false, false, false, false, false] rfl (by kernel_rfl) rfl (fun _ h => (HeapOk.settriv h (i := 0) rfl)) rfl rfl rfl (PureOp.indexAddrN Try.underlying22 sz61 rfl rfl (AoOk.in_ sE) (fun _ => by omega)) ?_
        refine SD.take 14 [true, true, true, true, true, true, true, true, true, true, true, true, true, true, true, false, false, false, false, false, false, false, false, false, false, false] rfl (by kernel_rfl) rfl (fun _ h => (HeapOk.settriv h (i := 0) rfl)) rfl rfl rfl (PureOp.fieldAddr 3 Try.underlying61 rfl rfl sz3 rfl) ?_
        refine SD.take 15 [true, true, true, true, true, true, true, true, true, true, true, true, true, true, true, true, false, false, false, false, false, false, false, false, false, false] rfl (by kernel_rfl) rfl (fun _ h => (HeapOk.settriv h (i := 0) rfl)) rfl rfl rfl (PureOp.load (v := .int .i64 ((nth l k).2.2.2)) Try.underlying3 rfl rfl (fun _ => (CellIs.in_ sE k 3 (by omega) (by omega)))) ?_
        refine SD.take 16 [true, true, true, true, true, true, true, true, true, true, true, true, true, true, true, true, true, false, false, false, false, false, false, false, false, false] rfl (by kernel_rfl) rfl (fun _ h => (HeapOk.settriv h (i := 0) rfl)) rfl rfl rfl (PureOp.neg rfl (fun _ => by omega)) ?_
        refine SD.take 17 [true, true, true, true, true, true, true, true, true, true, true, true, true, true, true, true, true, true, false, false, false, false, false, false, false, false] rfl (by kernel_rfl) rfl (fun _ h => (HeapOk.settriv h (i := 0) rfl)) rfl rfl rfl (PureOp.move rfl) ?_
        refine SD.take 18 [true, true, true, true, true, true, true, true, true, true, true, true, true, true, true, true, true, true, true, false, false, false, false, false, false, false] rfl (by kernel_rfl) rfl (fun _ h => (HeapOk.settriv h (i := 0) rfl)) rfl rfl rfl (PureOp.move rfl) ?_
        refine SD.take 19 [true, true, true, true, true, true, true, true, true, true, true, true, true, true, true, true, true, true, true, true, false, false, false, false, false, false] rfl (by kernel_rfl) rfl (fun _ h => (HeapOk.settriv h (i := 0) rfl)) rfl rfl rfl (PureOp.indexAddrN Try.underlying29 sz3 rfl rfl (AoOk.in_ sF) (fun _ => by omega)) ?_
        refine SD.take 20 [true, true, true, true, true, true, true, true, true, true, true, true, true, true, true, true, true, true, true, true, true, false, false, false, false, false] rfl (by kernel_rfl) rfl (fun _ h => (HeapOk.settriv h (i := 0) rfl)) rfl rfl rfl (PureOp.load (v := .int .i64 (nth f k)) Try.underlying3 rfl rfl (fun _ => (CellIs.in_ sF k 0 (by omega) (by omega)))) ?_
        refine SD.take 21 [true, true, true, true, true, true, true, true, true, true, true, true, true, true, true, true, true, true, true, true, true, true, false, false, false, false] rfl (by kernel_rfl) rfl (fun _ h => (HeapOk.settriv h (i := 0) rfl)) rfl rfl rfl (PureOp.move rfl) ?_
        refine SD.take 22 [true, true, true, true, true, true, true, true, true, true, true, true, true, true, true, true, true, true, true, true, true, true, true, false, false, false] rfl (by kernel_rfl) rfl (fun _ h => (HeapOk.settriv h (i := 0) rfl)) rfl rfl rfl (PureOp.build bld74 rfl rfl) ?_
        refine SD.one 23 [true, true, true, true, true, true, true, true, true, true, true, true, true, true, true, true, true, true, true, true, true, true, true, true, false, false] (by kernel_rfl) rfl rfl ?_
        refine SL.buildSlice rfl rfl Try.underlying70 elem74 rfl rfl rfl rfl (fun b2 hb2 => ?_)
        refine SL.norm [_, _, _] rfl ?_
        refine SD.back (fun _ h => (HeapOk.settriv (HeapOk.take h 2) (i := 0) rfl)) ?_
        refine SD.one 24 [true, true, true, true, true, true, true, true, true, true, true, true, true, true, true, true, true, true, true, true, true, true, true, true, true, false] (by kernel_rfl) rfl rfl ?_
        refine SL.append 0 rfl rfl Try.underlying70 elem74 rfl rfl rfl rfl (SrcIs.own 2 rfl) (by rfl) (by omega) (by omega) (fun ao2_ cap2_ => ?_)
        refine SL.itemxs 0 rfl (show _ = cellsOf encSp ((L ++ [((nth l k).1, (nth l k).2.1, (nth l k).2.2.2, (nth l k).2.2.1 - nth f k, (k : Int), false)]) ++ [((nth l k).2.1, (nth l k).1, -(nth l k).2.2.2, nth f k, (k : Int), true)]) from by rw [cellsOf_append (l := (L ++ [((nth l k).1, (nth l k).2.1, (nth l k).2.2.2, (nth l k).2.2.1 - nth f k, (k : Int), false)])), cellsOf_one]; rfl) ?_
        refine SL.norm [_, _, _] rfl ?_
        refine SD.back (fun _ h => (HeapOk.settriv (HeapOk.take h 2) (i := 0) rfl)) ?_
        refine SD.take 25 [true, true, true, true, true, true, true, true, true, true, true, true, true, true, true, true, true, true, true, true, true, true, true, true, true, true] rfl (by kernel_rfl) rfl (fun _ h => (HeapOk.settriv (HeapOk.take h 2) (i := 0) rfl)) rfl rfl rfl (PureOp.assign rfl) ?_
        refine SD.done (by kernel_rfl) ?_
        refine QX.ofK ?_
        refine QX.normal_in ?_
        refine QX.then_ ?_
        refine WC.region ?_
        refine SL.pure rfl rfl rfl (PureOp.move rfl) ?_
        refine SL.pure rfl rfl rfl (PureOp.addN (k := 1) rfl rfl (fun _ => by omega)) ?_
        refine SL.pure rfl rfl rfl (PureOp.assign rfl) ?_
        refine SL.nil ?_
        refine QX.round (σ := Nat × Nat × List Sp × Option Addr × Nat) (Ef := fun q_ => [(0, 0, .slice ea m ec), (1, 0, .slice fa q fc), (4, 0, .slice none 0 0), (6, 0, .int .i64 ((q_.1 : Nat) : Int)), (5, 0, .slice q_.2.2.2.1 q_.2.1 q_.2.2.2.2)]) (Hf := fun q_ => [Item.own w0.heap.size q_.2.2.2.1 q_.2.1 q_.2.2.2.2 74 6 (cellsOf encSp (q_.2.2.1))]) (I := fun q_ => (q_.1 ≤ m ∧ q_.2.1 ≤ 2 * q_.1 ∧ q_.2.1 = q_.2.2.1.length) ∧ q_.2.2.1 = stepsK l f q_.1) (μ := fun q_ => m - q_.1) (s := (k, z, L, a, c)) 1 ((k + 1, z + 1 + 1, (L ++ [((nth l k).1, (nth l k).2.1, (nth l k).2.2.2, (nth l k).2.2.1 - nth f k, (k : Int), false)]) ++ [((nth l k).2.1, (nth l k).1, -(nth l k).2.2.2, nth f k, (k : Int), true)], ao2_, cap2_)) ⟨⟨⟨(by first | omega | (dsimp only; omega)), (by first | omega | (dsimp only; omega)), by simp; omega⟩, by rw [stepsK, spF, spB, if_pos (by omega), if_pos (by omega), hv]⟩, by first | omega | (dsimp only; omega)⟩ ⟨rfl, rfl, rfl, rfl, rfl, rfl, rfl, rfl, rfl, rfl, trivial⟩ rfl
      · try simp only [Bool.and_eq_true, Bool.or_eq_true, Bool.not_eq_true', Bool.not_eq_false', Bool.and_eq_false_iff, Bool.or_eq_false_iff, decide_eq_true_eq, decide_eq_false_iff_not, Int.not_lt, Int.not_le, ne_eq, Decidable.not_not] at h3
        refine WC.skip ?_
        refine QX.normal_in ?_
        refine QX.then_ ?_
        refine WC.region ?_
        refine SL.pure rfl rfl rfl (PureOp.move rfl) ?_
        refine SL.pure rfl rfl rfl (PureOp.addN (k := 1) rfl rfl (fun _ => by omega)) ?_
        refine SL.pure rfl rfl rfl (PureOp.assign rfl) ?_
        refine SL.nil ?_
        refine QX.round (σ := Nat × Nat × List Sp × Option Addr × Nat) (Ef := fun q_ => [(0, 0, .slice ea m ec), (1, 0, .slice fa q fc), (4, 0, .slice none 0 0), (6, 0, .int .i64 ((q_.1 : Nat) : Int)), (5, 0, .slice q_.2.2.2.1 q_.2.1 q_.2.2.2.2)]) (Hf := fun q_ => [Item.own w0.heap.size q_.2.2.2.1 q_.2.1 q_.2.2.2.2 74 6 (cellsOf encSp (q_.2.2.1))]) (I := fun q_ => (q_.1 ≤ m ∧ q_.2.1 ≤ 2 * q_.1 ∧ q_.2.1 = q_.2.2.1.length) ∧ q_.2.2.1 = stepsK l f q_.1) (μ := fun q_ => m - q_.1) (s := (k, z, L, a, c)) 1 ((k + 1, z + 1, L ++ [((nth l k).1, (nth l k).2.1, (nth l k).2.2.2, (nth l k).2.2.1 - nth f k, (k : Int), false)], ao1_, cap1_)) ⟨⟨⟨(by first | omega | (dsimp only; omega)), (by first | omega | (dsimp only; omega)), by simp; omega⟩, by rw [stepsK, spF, spB, if_pos (by omega), if_neg (by omega), hv]; simp⟩, by first | omega | (dsimp only; omega)⟩ ⟨rfl, rfl, rfl, rfl, rfl, rfl, rfl, rfl, rfl, rfl, trivial⟩ rfl
    · try simp only [Bool.and_eq_true, Bool.or_eq_true, Bool.not_eq_true', Bool.not_eq_false', Bool.and_eq_false_iff, Bool.or_eq_false_iff, decide_eq_true_eq, decide_eq_false_iff_not, Int.not_lt, Int.not_le, ne_eq, Decidable.not_not] at h2
      refine WC.skip ?_
      refine QX.then_ ?_
      refine WC.seq ?_
      refine WC.region ?_
      refine SL.pure rfl rfl rfl (PureOp.move rfl) ?_
      refine SL.pure rfl rfl rfl (PureOp.move rfl) ?_
      refine SL.pure rfl rfl rfl (PureOp.indexAddrN Try.underlying29 sz3 rfl rfl (AoOk.in_ sF) (fun _ => by omega)) ?_
      refine SL.pure rfl rfl rfl (PureOp.load (v := .int .i64 (nth f k)) Try.underlying3 rfl rfl (fun _ => (CellIs.in_ sF k 0 (by omega) (by omega)))) ?_
      refine SL.pure rfl rfl rfl (PureOp.gtr rfl rfl) ?_
      refine SL.nil_then ?_
      refine WC.cond rfl (fun h4 => ?_) (fun h4 => ?_)
      · try simp only [Bool.and_eq_true, Bool.or_eq_true, Bool.not_eq_true', Bool.not_eq_false', Bool.and_eq_false_iff, Bool.or_eq_false_iff, decide_eq_true_eq, decide_eq_false_iff_not, Int.not_lt, Int.not_le, ne_eq, Decidable.not_not] at h4
        refine WC.drawh ([Item.triv]) 26 [false, false, false, false, false, false, false, false, false, false, false, false, false, false, false, false, false, false, false, false, false, false, false, false, false, false] rfl rfl rfl ?_
        refine SD.take 0 [true, false, false, false, false, false, false, false, false, false, false, false, false, false, false, false, false, false, false, false, false, false, false, false, false, false] rfl (by kernel_rfl) rfl (fun _ h => (HeapOk.settriv h (i := 0) rfl)) rfl rfl rfl (PureOp.move rfl) ?_
        refine SD.take 1 [true, true, false, false, false, false, false, false, false, false, false, false, false, false, false, false, false, false, false, false, false, false, false, false, false, false] rfl (by kernel_rfl) rfl (fun _ h => (HeapOk.settriv h (i := 0) rfl)) rfl rfl rfl (PureOp.move rfl) ?_
        refine SD.take 2 [true, true, true, false, false, false, false, false, false, false, false, false, false, false, false, false, false, false, false, false, false, false, false, false, false, false] rfl (by kernel_rfl) rfl (fun _ h => (HeapOk.settriv h (i := 0) rfl)) rfl rfl rfl (PureOp.move rfl) ?_
        refine SD.take 3 [true, true, true, true, false, false, false, false, false, false, false, false, false, false, false, false, false, false, false, false, false, false, false, false, false, false] rfl (by kernel_rfl) rfl (fun _ h => (HeapOk.settriv h (i := 0) rfl)) rfl rfl rfl (PureOp.indexAddrN Try.underlying22 sz61 rfl rfl (AoOk.in_ sE) (fun _ => by omega)) ?_
        refine SD.take 4 [true, true, true, true, true, false, false, false, false, false, false, false, false, false, false, false, false, false, false, false, false, false, false, false, false, false] rfl (by kernel_rfl) rfl (fun _ h => (HeapOk.settriv h (i := 0) rfl)) rfl rfl rfl (PureOp.fieldAddr 1 Try.underlying61 rfl rfl sz3 rfl) ?_
        refine SD.take 5 [true, true, true, true, true, true, false, false, false, false, false, false, false, false, false, false, false, false, false, false, false, false, false, false, false, false] rfl (by kernel_rfl) rfl (fun _ h => (HeapOk.settriv h (i := 0) rfl)) rfl rfl rfl (PureOp.load (v := .int .i64 ((nth l k).2.1)) Try.underlying3 rfl rfl (fun _ => (CellIs.in_ sE k 1 (by omega) (by omega)))) ?_
        refine SD.take 6 [true, true, true, true, true, true, true, false, false, false, false, false, false, false, false, false, false, false, false, false, false, false, false, false, false, false] rfl (by kernel_rfl) rfl (fun _ h => (HeapOk.settriv h (i := 0) rfl)) rfl rfl rfl (PureOp.move rfl) ?_
        refine SD.take 7 [true, true, true, true, true, true, true, true, false, false, false, false, false, false, false, false, false, false, false, false, false, false, false, false, false, false] rfl (by kernel_rfl) rfl (fun _ h => (HeapOk.settriv h (i := 0) rfl)) rfl rfl rfl (PureOp.move rfl) ?_
        refine SD.take 8 [true, true, true, true, true, true, true, true, true, false, false, false, false, false, false, false, false, false, false, false, false, false, false, false, false, false] rfl (by kernel_rfl) rfl (fun _ h => (HeapOk.settriv h (i := 0) rfl)) rfl rfl rfl (PureOp.indexAddrN Try.underlying22 sz61 rfl rfl (AoOk.in_ sE) (fun _ => by omega)) ?_
        refine SD.take 9 [true, true, true, true, true, true, true, true, true, true, false, false, false, false, false, false, false, false, false, false, false, false, false, false, false, false] rfl (by kernel_rfl) rfl (fun _ h => (HeapOk.settriv h (i := 0) rfl)) rfl rfl rfl (PureOp.fieldAddr 0 Try.underlying61 rfl rfl sz3 rfl) ?_
        refine SD.take 10 [true, true, true, true, true, true, true, true, true, true, true, false, false, false, false, false, false, false, false, false, false, false, false, false, false, false] rfl (by kernel_rfl) rfl (fun _ h => (HeapOk.settriv h (i := 0) rfl)) rfl rfl rfl (PureOp.load (v := .int .i64 ((nth l k).1)) Try.underlying3 rfl rfl (fun _ => (CellIs.in_ sE k 0 (by omega) (by omega)))) ?_
        refine SD.take 11 [true, true, true, true, true, true, true, true, true, true, true, true, false, false, false, false, false, false, false, false, false, false, false, false, false, false] rfl (by kernel_rfl) rfl (fun _ h => (HeapOk.settriv h (i := 0) rfl)) rfl rfl rfl (PureOp.move rfl) ?_
        refine SD.take 12 [true, true, true, true, true, true, true, true, true, true, true, true, true, false, false, false, false, false, false, false, false, false, false, false, false, false] rfl (by kernel_rfl) rfl (fun _ h => (HeapOk.settriv h (i := 0) rfl)) rfl rfl rfl (PureOp.move rfl) ?_
        refine SD.take 13 [true, true, true, true, true, true, true, true, true, true, true, true, true, true, false, false, false, false, false, false, false, false, false, false, false, false] rfl (by kernel_rfl) rfl (fun _ h => (HeapOk.settriv h (i := 0) rfl)) rfl rfl rfl (PureOp.indexAddrN Try.underlying22 sz61 rfl rfl (AoOk.in_ sE) (fun _ => by omega)) ?_
        refine SD.take 14 [true, true, true, true, true, true, true, true, true, true, true, true, true, true, true, false, false, false, false, false, false, false, false, false, false, false] rfl (by kernel_rfl) rfl (fun _ h => (HeapOk.settriv h (i := 0) rfl)) rfl rfl rfl (PureOp.fieldAddr 3 Try.underlying61 rfl rfl sz3 rfl) ?_
        refine SD.take 15 [true, true, true, true, true, true, true, true, true, true, true, true, true, true, true, true, false, false, false, false, false, false, false, false, false, false] rfl (by kernel_rfl) rfl (fun _ h => (HeapOk.settriv h (i := 0) rfl)) rfl rfl rfl (PureOp.load (v := .int .i64 ((nth l k).2.2.2)) Try.underlying3 rfl rfl (fun _ => (CellIs.in_ sE k 3 (by omega) (by omega)))) ?_
        refine SD.take 16 [true, true, true, true, true, true, true, true, true, true, true, true, true, true, true, true, true, false, false, false, false, false, false, false, false, false] rfl (by kernel_rfl) rfl (fun _ h => (HeapOk.settriv h (i := 0) rfl)) rfl rfl rfl (PureOp.neg rfl (fun _ => by omega)) ?_
        refine SD.take 17 [true, true, true, true, true, true, true, true, true, true, true, true, true, true, true, true, true, true, false, false, false, false, false, false, false, false] rfl (by kernel_rfl) rfl (fun _ h => (HeapOk.settriv h (i := 0) rfl)) rfl rfl rfl (PureOp.move rfl) ?_
        refine SD.take 18 [true, true, true, true, true, true, true, true, true, true, true, true, true, true, true, true, true, true, true, false, false, false, false, false, false, false] rfl (by kernel_rfl) rfl (fun _ h => (HeapOk.settriv h (i := 0) rfl)) rfl rfl rfl (PureOp.move rfl) ?_
        refine SD.take 19 [true, true, true, true, true, true, true, true, true, true, true, true, true, true, true, true, true, true, true, true, false, false, false, false, false, false] rfl (by kernel_rfl) rfl (fun _ h => (HeapOk.settriv h (i := 0) rfl)) rfl rfl rfl (PureOp.indexAddrN Try.underlying29 sz3 rfl rfl (AoOk.in_ sF) (fun _ => by omega)) ?_
        refine SD.take 20 [true, true, true, true, true, true, true, true, true, true, true, true, true, true, true, true, true, true, true, true, true, false, false, false, false, false] rfl (by kernel_rfl) rfl (fun _ h => (HeapOk.settriv h (i := 0) rfl)) rfl rfl rfl (PureOp.load (v := .int .i64 (nth f k)) Try.underlying3 rfl rfl (fun _ => (CellIs.in_ sF k 0 (by omega) (by omega)))) ?_
        refine SD.take 21 [true, true, true, true, true, true, true, true, true, true, true, true, true, true, true, true, true, true, true, true, true, true, false, false, false, false] rfl (by kernel_rfl) rfl (fun _ h => (HeapOk.settriv h (i := 0) rfl)) rfl rfl rfl (PureOp.move rfl) ?_
        refine SD.take 22 [true, true, true, true, true, true, true, true, true, true, true, true, true, true, true, true, true, true, true, true, true, true, true, false, false, false] rfl (by kernel_rfl) rfl (fun _ h => (HeapOk.settriv h (i := 0) rfl)) rfl rfl rfl (PureOp.build bld74 rfl rfl) ?_
        refine SD.one 23 [true, true, true, true, true, true, true, true, true, true, true, true, true, true, true, true, true, true, true, true, true, true, true, true, false, false] (by kernel_rfl) rfl rfl ?_
        refine SL.buildSlice rfl rfl Try.underlying70 elem74 rfl rfl rfl rfl (fun b3 hb3 => ?_)
        refine SL.norm [_, _] rfl ?_
        refine SD.back (fun _ h => (HeapOk.settriv (HeapOk.take h 1) (i := 0) rfl)) ?_
        refine SD.one 24 [true, true, true, true, true, true, true, true, true, true, true, true, true, true, true, true, true, true, true, true, true, true, true, true, true, false] (by kernel_rfl) rfl rfl ?_
        refine SL.append 0 rfl rfl Try.underlying70 elem74 rfl rfl rfl rfl (SrcIs.own 1 rfl) (by rfl) (by omega) (by omega) (fun ao3_ cap3_ => ?_)
        refine SL.itemxs 0 rfl (show _ = cellsOf encSp (L ++ [((nth l k).2.1, (nth l k).1, -(nth l k).2.2.2, nth f k, (k : Int), true)]) from by rw [cellsOf_append (l := L), cellsOf_one]; rfl) ?_
        refine SL.norm [_, _] rfl ?_
        refine SD.back (fun _ h => (HeapOk.settriv (HeapOk.take h 1) (i := 0) rfl)) ?_
        refine SD.take 25 [true, true, true, true, true, true, true, true, true, true, true, true, true, true, true, true, true, true, true, true, true, true, true, true, true, true] rfl (by kernel_rfl) rfl (fun _ h => (HeapOk.settriv (HeapOk.take h 1) (i := 0) rfl)) rfl rfl rfl (PureOp.assign rfl) ?_
        refine SD.done (by kernel_rfl) ?_
        refine QX.ofK ?_
        refine QX.normal_in ?_
        refine QX.then_ ?_
        refine WC.region ?_
        refine SL.pure rfl rfl rfl (PureOp.move rfl) ?_
        refine SL.pure rfl rfl rfl (PureOp.addN (k := 1) rfl rfl (fun _ => by omega)) ?_
        refine SL.pure rfl rfl rfl (PureOp.assign rfl) ?_
        refine SL.nil ?_
        refine QX.round (σ := Nat × Nat × List Sp × Option Addr × Nat) (Ef := fun q_ => [(0, 0, .slice ea m ec), (1, 0, .slice fa q fc), (4, 0, .slice none 0 0), (6, 0, .int .i64 ((q_.1 : Nat) : Int)), (5, 0, .slice q_.2.2.2.1 q_.2.1 q_.2.2.2.2)]) (Hf := fun q_ => [Item.own w0.heap.size q_.2.2.2.1 q_.2.1 q_.2.2.2.2 74 6 (cellsOf encSp (q_.2.2.1))]) (I := fun q_ => (q_.1 ≤ m ∧ q_.2.1 ≤ 2 * q_.1 ∧ q_.2.1 = q_.2.2.1.length) ∧ q_.2.2.1 = stepsK l f q_.1) (μ := fun q_ => m - q_.1) (s := (k, z, L, a, c)) 1 ((k + 1, z + 1, L ++ [((nth l k).2.1, (nth l k).1, -(nth l k).2.2.2, nth f k, (k : Int), true)], ao3_, cap3_)) ⟨⟨⟨(by first | omega | (dsimp only; omega)), (by first | omega | (dsimp only; omega)), by simp; omega⟩, by rw [stepsK, spF, spB, if_neg (by omega), if_pos (by omega), hv]; simp⟩, by first | omega | (dsimp only; omega)⟩ ⟨rfl, rfl, rfl, rfl, rfl, rfl, rfl, rfl, rfl, rfl, trivial⟩ rfl
      · try simp only [Bool.and_eq_true, Bool.or_eq_true, Bool.not_eq_true', Bool.not_eq_false', Bool.and_eq_false_iff, Bool.or_eq_false_iff, decide_eq_true_eq, decide_eq_false_iff_not, Int.not_lt, Int.not_le, ne_eq, Decidable.not_not] at h4
        refine WC.skip ?_
        refine QX.normal_in ?_
        refine QX.then_ ?_
        refine WC.region ?_
        refine SL.pure rfl rfl rfl (PureOp.move rfl) ?_
        refine SL.pure rfl rfl rfl (PureOp.addN (k := 1) rfl rfl (fun _ => by omega)) ?_
        refine SL.pure rfl rfl rfl (PureOp.assign rfl) ?_
        refine SL.nil ?_
        refine QX.round (σ := Nat × Nat × List Sp × Option Addr × Nat) (Ef := fun q_ => [(0, 0, .slice ea m ec), (1, 0, .slice fa q fc), (4, 0, .slice none 0 0), (6, 0, .int .i64 ((q_.1 : Nat) : Int)), (5, 0, .slice q_.2.2.2.1 q_.2.1 q_.2.2.2.2)]) (Hf := fun q_ => [Item.own w0.heap.size q_.2.2.2.1 q_.2.1 q_.2.2.2.2 74 6 (cellsOf encSp (q_.2.2.1))]) (I := fun q_ => (q_.1 ≤ m ∧ q_.2.1 ≤ 2 * q_.1 ∧ q_.2.1 = q_.2.2.1.length) ∧ q_.2.2.1 = stepsK l f q_.1) (μ := fun q_ => m - q_.1) (s := (k, z, L, a, c)) 1 ((k + 1, z, L, a, c)) ⟨⟨⟨(by first | omega | (dsimp only; omega)), (by first | omega | (dsimp only; omega)), by simp; omega⟩, by rw [stepsK, spF, spB, if_neg (by omega), if_neg (by omega), hv]; simp⟩, by first | omega | (dsimp only; omega)⟩ ⟨rfl, rfl, rfl, rfl, rfl, rfl, rfl, rfl, rfl, rfl, trivial⟩ rfl
  · try simp only [Bool.and_eq_true, Bool.or_eq_true, Bool.not_eq_true', Bool.not_eq_false', Bool.and_eq_false_iff, Bool.or_eq_false_iff, decide_eq_true_eq, decide_eq_false_iff_not, Int.not_lt, Int.not_le, ne_eq, Decidable.not_not] at h1
    refine WC.exit ?_
    refine QX.exit_then ?_
    refine QX.exit_then ?_
    refine QX.exit_hit ?_
    refine QX.then_ ?_
    refine WC.seq ?_
    refine WC.region ?_
    refine SL.pure rfl rfl rfl (PureOp.move rfl) ?_
    refine SL.pure rfl rfl rfl (PureOp.assign rfl) ?_
    refine SL.nil_then ?_
    refine WC.ret ?_
    refine QX.ret1 rfl rfl ?_
    intro w hw
    obtain rfl : k = m := by omega
    rw [hm] at hv
    subst hv
    obtain rfl : z = _ := hz
    exact ⟨_, _, rfl, hw.mem (i := 0) rfl⟩

set_option maxHeartbeats 4000000 in
set_option maxRecDepth 100000 in
theorem ints_ok (x y : List Int) (a1 a2 : Option Addr) (n1 n2 c1 c2 : Nat) (hn1 : n1 = x.length) (hn2 : n2 = y.length) (w0 : World) (hz1 : SliceIn w0 1 a1 n1 c1 (rowsF encI x)) (hz2 : SliceIn w0 1 a2 n2 c2 (rowsF encI y)) (hnb : n1 ≤ 100000) : FnC Try.prog 22 [.slice a1 n1 c1, .slice a2 n2 c2] w0 fun v w' => v = .bool (decide (x = y)) := by
  refine fnc (N := 26) Try.func22 rfl rfl rfl ?_
  refine WC.seq ?_
  refine WC.region ?_
  refine SL.pure rfl rfl rfl (PureOp.assign rfl) ?_
  refine SL.nil_then ?_
  refine WC.seq ?_
  refine WC.seq ?_
  refine WC.region ?_
  refine SL.pure rfl rfl rfl (PureOp.move rfl) ?_
  refine SL.pure rfl rfl rfl (PureOp.len rfl Try.underlying29) ?_
  refine SL.pure rfl rfl rfl (PureOp.move rfl) ?_
  refine SL.pure rfl rfl rfl (PureOp.len rfl Try.underlying29) ?_
  refine SL.pure rfl rfl rfl (PureOp.neq rfl rfl) ?_
  refine SL.nil_then ?_
  refine WC.cond rfl (fun h1 => ?_) (fun h1 => ?_)
  · try simp only [Bool.and_eq_true, Bool.or_eq_true, Bool.not_eq_true', Bool.not_eq_false', Bool.and_eq_false_iff, Bool.or_eq_false_iff, decide_eq_true_eq, decide_eq_false_iff_not, Int.not_lt, Int.not_le, ne_eq, Decidable.not_not] at h1
    refine WC.seq ?_
    refine WC.region ?_
    refine SL.pure rfl rfl rfl (PureOp.assign rfl) ?_
    refine SL.nil_then ?_
    refine WC.ret ?_
    refine QX.ret_then ?_
    refine QX.ret1 rfl rfl ?_
    intro w hw
    refine congrArg Value.bool ?_
    rw [eq_comm, decide_eq_false_iff_not]
    rintro rfl
    omega
  · try simp only [Bool.and_eq_true, Bool.or_eq_true, Bool.not_eq_true', Bool.not_eq_false', Bool.and_eq_false_iff, Bool.or_eq_false_iff, decide_eq_true_eq, decide_eq_false_iff_not, Int.not_lt, Int.not_le, ne_eq, Decidable.not_not] at h1
    refine WC.skip ?_
    refine QX.then_ ?_
    refine WC.seq ?_
    refine WC.seq ?_
    refine WC.region ?_
    refine SL.pure rfl rfl rfl (PureOp.assign rfl) ?_
    refine SL.nil_then ?_
    refine WC.block ?_
    refine WC.loop (σ := Nat) (fun q_ => [(0, 0, .slice a1 n1 c1), (1, 0, .slice a2 n2 c2), (6, 0, .slice a1 n1 c1), (7, 0, .int .i64 ((n1 : Nat) : Int)), (8, 0, .slice a2 n2 c2), (9, 0, .int .i64 ((n2 : Nat) : Int)), (10, 0, .bool (decide (((n1 : Nat) : Int) ≠ ((n2 : Nat) : Int)))), (5, 0, .int .i64 ((q_ : Nat) : Int))]) (fun q_ => []) (fun q_ => q_ ≤ n1 ∧ ∀ j, j < q_ → nth x j = nth y j) (fun q_ => n1 - q_) 0 (0) (⟨Nat.zero_le _, fun _ h => absurd h (Nat.not_lt_zero _)⟩) ⟨rfl, rfl, rfl, rfl, rfl, rfl, rfl, rfl, rfl, rfl, rfl, rfl, rfl, rfl, rfl, rfl, trivial⟩ rfl ?_
    rintro k ⟨hk, ha⟩
    refine WC.seq ?_
    refine WC.seq ?_
    refine WC.region ?_
    refine SL.pure rfl rfl rfl (PureOp.move rfl) ?_
    refine SL.pure rfl rfl rfl (PureOp.move rfl) ?_
    refine SL.pure rfl rfl rfl (PureOp.len rfl Try.underlying29) ?_
    refine SL.pure rfl rfl rfl (PureOp.lss rfl rfl) ?_
    refine SL.nil_then ?_
    refine WC.cond rfl (fun h2 => ?_) (fun h2 => ?_)
    · try simp only [Bool.and_eq_true, Bool.or_eq_true, Bool.not_eq_true', Bool.not_eq_false', Bool.and_eq_false_iff, Bool.or_eq_false_iff, decide_eq_true_eq, decide_eq_false_iff_not, Int.not_lt, Int.not_le, ne_eq, Decidable.not_not] at h2
      refine WC.skip ?_
      refine QX.then_ ?_
      refine WC.seq ?_
      refine WC.block ?_
      refine WC.seq ?_
      refine WC.quiet rfl (by kernel_rfl) ?_
      refine SQ.pure rfl rfl rfl (PureOp.move rfl) ?_
      refine SQ.pure rfl rfl rfl (PureOp.move rfl) ?_
      refine SQ.pure rfl rfl rfl (PureOp.indexAddrN Try.underlying29 sz3 rfl rfl (AoOk.in_ hz1) (fun _ => by omega)) ?_
      refine SQ.pure rfl rfl rfl (PureOp.load (v := .int .i64 (nth x k)) Try.underlying3 rfl rfl (fun _ => (CellIs.in_ hz1 k 0 (by omega) (by omega)))) ?_
      refine SQ.pure rfl rfl rfl (PureOp.move rfl) ?_
      refine SQ.pure rfl rfl rfl (PureOp.move rfl) ?_
      refine SQ.pure rfl rfl rfl (PureOp.indexAddrN Try.underlying29 sz3 rfl rfl (AoOk.in_ hz2) (fun _ => by omega)) ?_
      refine SQ.pure rfl rfl rfl (PureOp.load (v := .int .i64 (nth y k)) Try.underlying3 rfl rfl (fun _ => (CellIs.in_ hz2 k 0 (by omega) (by omega)))) ?_
      refine SQ.pure rfl rfl rfl (PureOp.neq rfl rfl) ?_
      refine SQ.nil_then ?_
      refine WC.cond rfl (fun h3 => ?_) (fun h3 => ?_)
      · try simp only [Bool.and_eq_true, Bool.or_eq_true, Bool.not_eq_true', Bool.not_eq_false', Bool.and_eq_false_iff, Bool.or_eq_false_iff, decide_eq_true_eq, decide_eq_false_iff_not, Int.not_lt, Int.not_le, ne_eq, Decidable.not_not] at h3
        refine WC.seq ?_
        refine WC.region ?_
        refine SL.pure rfl rfl rfl (PureOp.assign rfl) ?_
        refine SL.nil_then ?_
        refine WC.ret ?_
        refine QX.ret_in ?_
        refine QX.ret_then ?_
        refine QX.ret_then ?_
        refine QX.ret_in ?_
        refine QX.ret_then ?_
        refine QX.ret1 rfl rfl ?_
        intro w hw
        refine congrArg Value.bool ?_
        rw [eq_comm, decide_eq_false_iff_not]
        rintro rfl
        exact h3 rfl
      · try simp only [Bool.and_eq_true, Bool.or_eq_true, Bool.not_eq_true', Bool.not_eq_false', Bool.and_eq_false_iff, Bool.or_eq_false_iff, decide_eq_true_eq, decide_eq_false_iff_not, Int.not_lt, Int.not_le, ne_eq, Decidable.not_not] at h3
        refine WC.skip ?_
        refine QX.normal_in ?_
        refine QX.then_ ?_
        refine WC.region ?_
        refine SL.pure rfl rfl rfl (PureOp.move rfl) ?_
        refine SL.pure rfl rfl rfl (PureOp.addN (k := 1) rfl rfl (fun _ => by omega)) ?_
        refine SL.pure rfl rfl rfl (PureOp.assign rfl) ?_
        refine SL.nil ?_
        refine QX.round 0 (k + 1) ⟨⟨(by first | omega | (dsimp only; omega)), fun j hj => by
              by_cases e : j = k
              · subst e; omega
              · exact ha j (by omega)⟩, by first | omega | (dsimp only; omega)⟩ ⟨rfl, rfl, rfl, rfl, rfl, rfl, rfl, rfl, rfl, rfl, rfl, rfl, rfl, rfl, rfl, rfl, trivial⟩ rfl
    · try simp only [Bool.and_eq_true, Bool.or_eq_true, Bool.not_eq_true', Bool.not_eq_false', Bool.and_eq_false_iff, Bool.or_eq_false_iff, decide_eq_true_eq, decide_eq_false_iff_not, Int.not_lt, Int.not_le, ne_eq, Decidable.not_not] at h2
      refine WC.exit ?_
      refine QX.exit_then ?_
      refine QX.exit_then ?_
      refine QX.exit_hit ?_
      refine QX.then_ ?_
      refine WC.seq ?_
      refine WC.region ?_
      refine SL.pure rfl rfl rfl (PureOp.assign rfl) ?_
      refine SL.nil_then ?_
      refine WC.ret ?_
      refine QX.ret1 rfl rfl ?_
      intro w hw
      refine congrArg Value.bool ?_
      rw [eq_comm, decide_eq_true_iff]
      exact list_ext (by omega) (fun j hj => ha j (by omega))

end Go.Proofs.Ytngkbnaehkailaa
