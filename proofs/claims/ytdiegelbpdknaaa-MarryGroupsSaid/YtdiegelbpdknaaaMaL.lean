import Derived.Test.YtdiegelbpdknaaaMaK
namespace Go.Proofs.Ytdiegelbpdknaaa
open Go Go.RowKit Eng
set_option linter.unusedVariables false
set_option linter.unusedSimpArgs false
theorem kG (ao : Option Addr) (w0 : World) (hz : SliceIn w0 1 ao 3 3 (rowsF encI [0, 7, 7])) : FnC Try.prog 8 [.slice ao 3 3] w0 fun v w' => ∃ a c rs, v = .tuple #[.slice a rs.length c, .int .i64 0] ∧ Rc [0, 7, 7] rs ∧ FamOut w' w0.heap.size 22 3 1 a c rs := by
  have h := Groups_ok [0, 7, 7] ao 3 3 rfl w0 hz (by decide)
  rw [show checkF [0, 7, 7] = 0 from by decide +kernel] at h
  exact h
theorem kW (ao : Option Addr) (w0 : World) (hz : SliceIn w0 1 ao 3 3 (rowsF encI [0, 7, 7])) : FnC Try.prog 13 [.slice ao 3 3, .int .i64 2] w0 fun v w' => ∃ a c, v = .tuple #[.slice a 2 c, .int .i64 0] ∧ w'.ownsRow w0.heap.size 3 1 (.slice a 2 c) 2 (cellsOf encI [1, 2]) := by
  have h := with_ok [0, 7, 7] ao 3 3 rfl w0 hz 2 (by decide)
  rw [show withX [0, 7, 7] 2 = [1, 2] from by decide +kernel, show withE [0, 7, 7] 2 = 0 from by decide +kernel] at h
  exact h
theorem kJ (ao : Option Addr) (w0 : World) (hz : SliceIn w0 1 ao 4 4 (rowsF encI [0, 0, 4, 4])) : FnC Try.prog 19 [.slice ao 4 4, .int .i64 0, .int .i64 1] w0 fun v w' => ∃ a c, v = .tuple #[.slice a 4 c, .int .i64 0] ∧ w'.ownsRow w0.heap.size 3 1 (.slice a 4 c) 4 (cellsOf encI [5, 5, 4, 4]) := by
  have h := join_ok [0, 0, 4, 4] ao 4 4 rfl w0 hz 0 1 (by decide) (by decide)
  rw [show joinX [0, 0, 4, 4] 0 1 = [5, 5, 4, 4] from by decide +kernel, show joinE [0, 0, 4, 4] 0 1 = 0 from by decide +kernel] at h
  exact h
theorem kP (ao : Option Addr) (w0 : World) (hz : SliceIn w0 1 ao 3 3 (rowsF encI [3, 3, 0])) : FnC Try.prog 15 [.slice ao 3 3, .int .i64 0] w0 fun v w' => ∃ a c, v = .tuple #[.slice a 3 c, .int .i64 0] ∧ w'.ownsRow w0.heap.size 3 1 (.slice a 3 c) 3 (cellsOf encI [0, 0, 0]) := by
  have h := part_ok [3, 3, 0] ao 3 3 rfl w0 hz 0 (by decide)
  rw [show partX [3, 3, 0] 0 = [0, 0, 0] from by decide +kernel, show withE [3, 3, 0] 0 = 0 from by decide +kernel] at h
  exact h
theorem kN (ao : Option Addr) (w0 : World) (hz : SliceIn w0 1 ao 5 5 (rowsF encI [9, 9, 0, 4, 4])) : FnC Try.prog 17 [.slice ao 5 5] w0 fun v w' => ∃ a c, v = .tuple #[.slice a 5 c, .int .i64 0] ∧ w'.ownsRow w0.heap.size 3 1 (.slice a 5 c) 5 (cellsOf encI [1, 1, 0, 2, 2]) := by
  have h := normal_ok [9, 9, 0, 4, 4] ao 5 5 rfl w0 hz (by decide)
  rw [show normX [9, 9, 0, 4, 4] = [1, 1, 0, 2, 2] from by decide +kernel, show checkF [9, 9, 0, 4, 4] = 0 from by decide +kernel] at h
  exact h
theorem kC (ao : Option Addr) (w0 : World) (hz : SliceIn w0 1 ao 3 3 (rowsF encI [7, 0, 7])) : FnC Try.prog 10 [.slice ao 3 3] w0 fun v w' => v = .int .i64 18 := by
  have h := check_ok [7, 0, 7] ao 3 3 rfl w0 hz (by decide)
  rw [show checkF [7, 0, 7] = 18 from by decide +kernel] at h
  exact h
theorem kD (ao : Option Addr) (w0 : World) (hz : SliceIn w0 1 ao 5 5 (rowsF encI [0, 7, 7, 2, 2])) : FnC Try.prog 10 [.slice ao 5 5] w0 fun v w' => v = .int .i64 0 := by
  have h := check_ok [0, 7, 7, 2, 2] ao 5 5 rfl w0 hz (by decide)
  rw [show checkF [0, 7, 7, 2, 2] = 0 from by decide +kernel] at h
  exact h
theorem kR {rs : List FRow} (h : Rc [0, 7, 7] rs) : rs.length = 2 ∧ (nth rs 1).n = 2 ∧ ∀ p, p < (nth rs 1).n → ∀ q, q < 1 → (nth rs 1).xs[p * 1 + q]? = some (rowsF encI [1, 2] p q) := by
  rw [Rc, if_pos (by decide +kernel)] at h
  have e : gi [0, 7, 7] ([0, 7, 7] : List Int).length = [(0, 1), (1, 2)] := by decide +kernel
  have hl := h.len
  rw [e] at hl
  have hl : rs.length = 2 := hl
  obtain ⟨h1, _⟩ := h.at_ (i := 1) (by omega)
  rw [e] at h1
  refine ⟨hl, h1, ?_⟩
  have := h.in_ (i := 1) (by omega)
  rw [e] at this
  exact this

set_option maxHeartbeats 4000000 in
set_option maxRecDepth 100000 in
theorem knows_ok (w0 : World) : FnC Try.prog 7 [] w0 fun v w' => v = .bool true := by
  refine fnc (N := 94) Try.func7 rfl rfl rfl ?_
  refine WC.seq ?_
  refine WC.region ?_
  refine SL.pure rfl rfl rfl (PureOp.assign rfl) ?_
  refine SL.nil_then ?_
  refine WC.seq ?_
  refine WC.region ?_
  refine SL.buildSlice rfl rfl Try.underlying22 elem3 rfl rfl rfl rfl (fun b1 hb1 => ?_)
  refine SL.callg (fun a c rs => .tuple #[.slice a rs.length c, .int .i64 0]) (fun rs => Rc [0, 7, 7] rs) rfl rfl rfl rfl rfl rfl callable8 (fun w hw => kG _ w (SliceIn.rows (enc := encI) (l := [0, 7, 7]) (hw.mem (i := 0) rfl) encI_len (by decide))) (fun ga gc rs hRc => ?_)
  obtain ⟨hlen, hg1, hin⟩ := kR hRc
  refine SL.pure rfl rfl rfl (PureOp.move rfl) ?_
  refine SL.pure rfl rfl rfl (PureOp.extract rfl rfl) ?_
  refine SL.pure rfl rfl rfl (PureOp.extract rfl rfl) ?_
  refine SL.pure rfl rfl rfl (PureOp.assign rfl) ?_
  refine SL.pure rfl rfl rfl (PureOp.assign rfl) ?_
  refine SL.nil_then ?_
  refine WC.seq ?_
  refine WC.region ?_
  refine SL.buildSlice rfl rfl Try.underlying22 elem3 rfl rfl rfl rfl (fun b2 hb2 => ?_)
  refine SL.callo (fun a c => .tuple #[.slice a 2 c, .int .i64 0]) rfl rfl rfl rfl rfl rfl callable13 (fun w hw => kW _ w (SliceIn.rows (enc := encI) (l := [0, 7, 7]) (hw.mem (i := 3) rfl) encI_len (by decide))) (fun xa xc => ?_)
  refine SL.pure rfl rfl rfl (PureOp.move rfl) ?_
  refine SL.pure rfl rfl rfl (PureOp.extract rfl rfl) ?_
  refine SL.pure rfl rfl rfl (PureOp.extract rfl rfl) ?_
  refine SL.pure rfl rfl rfl (PureOp.assign rfl) ?_
  refine SL.pure rfl rfl rfl (PureOp.assign rfl) ?_
  refine SL.nil_then ?_
  refine WC.seq ?_
  refine WC.region ?_
  refine SL.buildSlice rfl rfl Try.underlying22 elem3 rfl rfl rfl rfl (fun b3 hb3 => ?_)
  refine SL.callo (fun a c => .tuple #[.slice a 4 c, .int .i64 0]) rfl rfl rfl rfl rfl rfl callable19 (fun w hw => kJ _ w (SliceIn.rows (enc := encI) (l := [0, 0, 4, 4]) (hw.mem (i := 5) rfl) encI_len (by decide))) (fun ya yc => ?_)
  refine SL.pure rfl rfl rfl (PureOp.move rfl) ?_
  refine SL.pure rfl rfl rfl (PureOp.extract rfl rfl) ?_
  refine SL.pure rfl rfl rfl (PureOp.extract rfl rfl) ?_
  refine SL.pure rfl rfl rfl (PureOp.assign rfl) ?_
  refine SL.pure rfl rfl rfl (PureOp.assign rfl) ?_
  refine SL.nil_then ?_
  refine WC.seq ?_
  refine WC.region ?_
  refine SL.buildSlice rfl rfl Try.underlying22 elem3 rfl rfl rfl rfl (fun b4 hb4 => ?_)
  refine SL.callo (fun a c => .tuple #[.slice a 3 c, .int .i64 0]) rfl rfl rfl rfl rfl rfl callable15 (fun w hw => kP _ w (SliceIn.rows (enc := encI) (l := [3, 3, 0]) (hw.mem (i := 7) rfl) encI_len (by decide))) (fun za zc => ?_)
  refine SL.pure rfl rfl rfl (PureOp.move rfl) ?_
  refine SL.pure rfl rfl rfl (PureOp.extract rfl rfl) ?_
  refine SL.pure rfl rfl rfl (PureOp.extract rfl rfl) ?_
  refine SL.pure rfl rfl rfl (PureOp.assign rfl) ?_
  refine SL.pure rfl rfl rfl (PureOp.assign rfl) ?_
  refine SL.nil_then ?_
  refine WC.seq ?_
  refine WC.region ?_
  refine SL.buildSlice rfl rfl Try.underlying22 elem3 rfl rfl rfl rfl (fun b5 hb5 => ?_)
  refine SL.callo (fun a c => .tuple #[.slice a 5 c, .int .i64 0]) rfl rfl rfl rfl rfl rfl callable17 (fun w hw => kN _ w (SliceIn.rows (enc := encI) (l := [9, 9, 0, 4, 4]) (hw.mem (i := 9) rfl) encI_len (by decide))) (fun va vc => ?_)
  refine SL.pure rfl rfl rfl (PureOp.move rfl) ?_
  refine SL.pure rfl rfl rfl (PureOp.extract rfl rfl) ?_
  refine SL.pure rfl rfl rfl (PureOp.extract rfl rfl) ?_
  refine SL.pure rfl rfl rfl (PureOp.assign rfl) ?_
  refine SL.pure rfl rfl rfl (PureOp.assign rfl) ?_
  refine SL.nil_then ?_
  refine WC.seq ?_
  refine WC.seq ?_
  refine WC.region ?_
  refine SL.pure rfl rfl rfl (PureOp.move rfl) ?_
  refine SL.pure rfl rfl rfl (PureOp.len rfl Try.underlying24) ?_
  refine SL.pure rfl rfl rfl (PureOp.neq rfl rfl) ?_
  refine SL.pure rfl rfl rfl (PureOp.move rfl) ?_
  refine SL.newg 39 false rfl ?_
  refine SL.gpure (c := 1) rfl rfl rfl rfl rfl rfl rfl (PureOp.move rfl) ?_
  refine SL.gpure (c := 1) rfl rfl rfl rfl rfl rfl rfl (PureOp.neq rfl rfl) ?_
  refine SL.pure rfl rfl rfl (PureOp.or_ rfl rfl rfl rfl) ?_
  refine SL.pure rfl rfl rfl (PureOp.move rfl) ?_
  refine SL.newg 43 false rfl ?_
  refine SL.gpure (c := 2) rfl rfl rfl rfl rfl rfl rfl (PureOp.move rfl) ?_
  refine SL.gpure (c := 2) rfl rfl rfl rfl rfl rfl rfl (PureOp.neq rfl rfl) ?_
  refine SL.pure rfl rfl rfl (PureOp.or_ rfl rfl rfl rfl) ?_
  refine SL.pure rfl rfl rfl (PureOp.move rfl) ?_
  refine SL.newg 47 false rfl ?_
  refine SL.gpure (c := 3) rfl rfl rfl rfl rfl rfl rfl (PureOp.move rfl) ?_
  refine SL.gpure (c := 3) rfl rfl rfl rfl rfl rfl rfl (PureOp.neq rfl rfl) ?_
  refine SL.pure rfl rfl rfl (PureOp.or_ rfl rfl rfl rfl) ?_
  refine SL.pure rfl rfl rfl (PureOp.move rfl) ?_
  refine SL.newg 51 false rfl ?_
  refine SL.gpure (c := 4) rfl rfl rfl rfl rfl rfl rfl (PureOp.move rfl) ?_
  refine SL.gpure (c := 4) rfl rfl rfl rfl rfl rfl rfl (PureOp.neq rfl rfl) ?_
  refine SL.pure rfl rfl rfl (PureOp.or_ rfl rfl rfl rfl) ?_
  refine SL.pure rfl rfl rfl (PureOp.move rfl) ?_
  refine SL.newg 55 false rfl ?_
  refine SL.gpure (c := 5) rfl rfl rfl rfl rfl rfl rfl (PureOp.move rfl) ?_
  refine SL.gpure (c := 5) rfl rfl rfl rfl rfl rfl rfl (PureOp.neq rfl rfl) ?_
  refine SL.pure rfl rfl rfl (PureOp.or_ rfl rfl rfl rfl) ?_
  refine SL.nil_then ?_
  refine WC.cond rfl (fun h1 => ?_) (fun h1 => ?_)
  · try simp only [Bool.and_eq_true, Bool.or_eq_true, Bool.not_eq_true', Bool.not_eq_false', Bool.and_eq_false_iff, Bool.or_eq_false_iff, decide_eq_true_eq, decide_eq_false_iff_not, Int.not_lt, Int.not_le, ne_eq, Decidable.not_not] at h1
    exact absurd h1 (by simp [hlen])
  · try simp only [Bool.and_eq_true, Bool.or_eq_true, Bool.not_eq_true', Bool.not_eq_false', Bool.and_eq_false_iff, Bool.or_eq_false_iff, decide_eq_true_eq, decide_eq_false_iff_not, Int.not_lt, Int.not_le, ne_eq, Decidable.not_not] at h1
    refine WC.skip ?_
    refine QX.then_ ?_
    refine WC.seq ?_
    refine WC.region ?_
    refine SL.pure rfl rfl rfl (PureOp.move rfl) ?_
    refine SL.pure rfl rfl rfl (PureOp.indexAddr Try.underlying24 sz22 rfl rfl (AoOk.own 1 rfl) (fun _ => by omega)) ?_
    refine SL.pure rfl rfl rfl (PureOp.load Try.underlying22 rfl rfl (fun _ => (CellIs.ownc 1 rfl (1 : Int).toNat 0 (by exact vals_get (rs := rs) (i := 1) (by omega))))) ?_
    refine SL.buildSlice rfl rfl Try.underlying22 elem3 rfl rfl rfl rfl (fun b6 hb6 => ?_)
    refine SL.calle rfl rfl rfl rfl rfl rfl callable12 (fun w hw => same_ok [1, 2] _ _ _ _ _ _ hg1 rfl w (fam_in hw 2 rfl 1 (by omega) hin) (SliceIn.rows (enc := encI) (l := [1, 2]) (hw.mem (i := 11) rfl) encI_len (by decide)) (by omega)) ?_
    refine SL.pure rfl rfl rfl (PureOp.move rfl) ?_
    refine SL.ung rfl rfl rfl rfl ?_
    refine SL.pure rfl rfl rfl (PureOp.move rfl) ?_
    refine SL.ung rfl rfl rfl rfl ?_
    refine SL.buildSlice rfl rfl Try.underlying22 elem3 rfl rfl rfl rfl (fun b7 hb7 => ?_)
    refine SL.ung rfl rfl rfl rfl ?_
    refine SL.calle rfl rfl rfl rfl rfl rfl callable12 (fun w hw => same_ok [1, 2] _ _ _ _ _ _ rfl rfl w (SliceIn.rows (enc := encI) (l := [1, 2]) (hw.mem (i := 4) rfl) encI_len (by decide)) (SliceIn.rows (enc := encI) (l := [1, 2]) (hw.mem (i := 12) rfl) encI_len (by decide)) (by decide)) ?_
    refine SL.pure rfl rfl rfl (PureOp.and0 rfl rfl) ?_
    refine SL.pure rfl rfl rfl (PureOp.move rfl) ?_
    refine SL.ung rfl rfl rfl rfl ?_
    refine SL.pure rfl rfl rfl (PureOp.move rfl) ?_
    refine SL.ung rfl rfl rfl rfl ?_
    refine SL.buildSlice rfl rfl Try.underlying22 elem3 rfl rfl rfl rfl (fun b8 hb8 => ?_)
    refine SL.ung rfl rfl rfl rfl ?_
    refine SL.calle rfl rfl rfl rfl rfl rfl callable12 (fun w hw => same_ok [5, 5, 4, 4] _ _ _ _ _ _ rfl rfl w (SliceIn.rows (enc := encI) (l := [5, 5, 4, 4]) (hw.mem (i := 6) rfl) encI_len (by decide)) (SliceIn.rows (enc := encI) (l := [5, 5, 4, 4]) (hw.mem (i := 13) rfl) encI_len (by decide)) (by decide)) ?_
    refine SL.pure rfl rfl rfl (PureOp.and0 rfl rfl) ?_
    refine SL.pure rfl rfl rfl (PureOp.move rfl) ?_
    refine SL.ung rfl rfl rfl rfl ?_
    refine SL.pure rfl rfl rfl (PureOp.move rfl) ?_
    refine SL.ung rfl rfl rfl rfl ?_
    refine SL.buildSlice rfl rfl Try.underlying22 elem3 rfl rfl rfl rfl (fun b9 hb9 => ?_)
    refine SL.ung rfl rfl rfl rfl ?_
    refine SL.calle rfl rfl rfl rfl rfl rfl callable12 (fun w hw => same_ok [0, 0, 0] _ _ _ _ _ _ rfl rfl w (SliceIn.rows (enc := encI) (l := [0, 0, 0]) (hw.mem (i := 8) rfl) encI_len (by decide)) (SliceIn.rows (enc := encI) (l := [0, 0, 0]) (hw.mem (i := 14) rfl) encI_len (by decide)) (by decide)) ?_
    refine SL.pure rfl rfl rfl (PureOp.and0 rfl rfl) ?_
    refine SL.pure rfl rfl rfl (PureOp.move rfl) ?_
    refine SL.ung rfl rfl rfl rfl ?_
    refine SL.pure rfl rfl rfl (PureOp.move rfl) ?_
    refine SL.ung rfl rfl rfl rfl ?_
    refine SL.buildSlice rfl rfl Try.underlying22 elem3 rfl rfl rfl rfl (fun b10 hb10 => ?_)
    refine SL.ung rfl rfl rfl rfl ?_
    refine SL.calle rfl rfl rfl rfl rfl rfl callable12 (fun w hw => same_ok [1, 1, 0, 2, 2] _ _ _ _ _ _ rfl rfl w (SliceIn.rows (enc := encI) (l := [1, 1, 0, 2, 2]) (hw.mem (i := 10) rfl) encI_len (by decide)) (SliceIn.rows (enc := encI) (l := [1, 1, 0, 2, 2]) (hw.mem (i := 15) rfl) encI_len (by decide)) (by decide)) ?_
    refine SL.pure rfl rfl rfl (PureOp.and0 rfl rfl) ?_
    refine SL.pure rfl rfl rfl (PureOp.move rfl) ?_
    refine SL.ung rfl rfl rfl rfl ?_
    refine SL.buildSlice rfl rfl Try.underlying22 elem3 rfl rfl rfl rfl (fun b11 hb11 => ?_)
    refine SL.ung rfl rfl rfl rfl ?_
    refine SL.calle rfl rfl rfl rfl rfl rfl callable10 (fun w hw => kC _ w (SliceIn.rows (enc := encI) (l := [7, 0, 7]) (hw.mem (i := 16) rfl) encI_len (by decide))) ?_
    refine SL.ung rfl rfl rfl rfl ?_
    refine SL.pure rfl rfl rfl (PureOp.eql rfl rfl) ?_
    refine SL.pure rfl rfl rfl (PureOp.and0 rfl rfl) ?_
    refine SL.pure rfl rfl rfl (PureOp.move rfl) ?_
    refine SL.ung rfl rfl rfl rfl ?_
    refine SL.buildSlice rfl rfl Try.underlying22 elem3 rfl rfl rfl rfl (fun b12 hb12 => ?_)
    refine SL.ung rfl rfl rfl rfl ?_
    refine SL.calle rfl rfl rfl rfl rfl rfl callable10 (fun w hw => kD _ w (SliceIn.rows (enc := encI) (l := [0, 7, 7, 2, 2]) (hw.mem (i := 17) rfl) encI_len (by decide))) ?_
    refine SL.ung rfl rfl rfl rfl ?_
    refine SL.pure rfl rfl rfl (PureOp.eql rfl rfl) ?_
    refine SL.pure rfl rfl rfl (PureOp.and0 rfl rfl) ?_
    refine SL.pure rfl rfl rfl (PureOp.assign rfl) ?_
    refine SL.nil_then ?_
    refine WC.ret ?_
    refine QX.ret1 rfl rfl ?_
    intro w hw
    rfl

end Go.Proofs.Ytdiegelbpdknaaa
