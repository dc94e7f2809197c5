import Derived.Test.YtngkbnaehkailaaFlF
namespace Go.Proofs.Ytngkbnaehkailaa
open Go Go.RowKit Eng
set_option linter.unusedVariables false
set_option linter.unusedSimpArgs false

set_option maxHeartbeats 4000000 in
set_option maxRecDepth 100000 in
theorem back_ok (b nu : Nat) (l : List Ed) (ea : Option Addr) (m ec : Nat) (hm : m = l.length) (hmb : m ≤ 2048) (f : List Int) (fa : Option Addr) (q fc : Nat) (hq : q = f.length) (hqm : q = m) (c la : List Int) (cb lb : Nat) (lo : Int) (hE : EdOk nu l) (hc : Bd nu lo c) (hla : la.length = nu) (hlo : -1152921504606846976 ≤ lo) (hn : nu ≤ 128) (hW : ∀ i, i < l.length → 0 ≤ nth f i ∧ nth f i ≤ (nth l i).2.2.1) (v_ : Int) (hv : 0 ≤ v_ ∧ v_ < nu) (hl2 : 0 ≤ nth la v_.toNat ∧ nth la v_.toNat < m) (w0 : World) (ho : ObjIn w0 b [.slice ea m ec, .slice fa q fc, .slice (some ⟨cb, 0, none⟩) nu nu, .slice (some ⟨lb, 0, none⟩) nu nu]) (sE : SliceIn w0 4 ea m ec (rowsF encEd l)) (sF : SliceIn w0 1 fa q fc (rowsF encI f)) (sC : SliceIn w0 1 (some ⟨cb, 0, none⟩) nu nu (rowsF encI c)) (sLa : SliceIn w0 1 (some ⟨lb, 0, none⟩) nu nu (rowsF encI la)) : FnC Try.prog 43 [.pointer (some ⟨b, 0, none⟩), .int .i64 v_] w0 fun v w' => v = .tuple #[.int .i64 (backV l f c la v_), .int .i64 (backR l f c la v_)] := by
  have hEi := hE (nth la v_.toNat).toNat (by omega)
  have hWi := hW (nth la v_.toNat).toNat (by omega)
  have hc1 := hc.bd (nth l (nth la v_.toNat).toNat).1.toNat (by omega)
  have hc2 := hc.bd v_.toNat (by omega)
  have hcl := hc.len
  refine fnc (N := 80) Try.func43 rfl rfl rfl ?_
  refine WC.seq ?_
  refine WC.region ?_
  refine SL.pure rfl rfl rfl (PureOp.assign rfl) ?_
  refine SL.pure rfl rfl rfl (PureOp.assign rfl) ?_
  refine SL.nil_then ?_
  refine WC.seq ?_
  refine WC.region ?_
  refine SL.pure rfl rfl rfl (PureOp.move rfl) ?_
  refine SL.pure rfl rfl rfl (PureOp.nilCheckp rfl) ?_
  refine SL.pure rfl rfl rfl (PureOp.fieldAddrT 3 Try.underlying67 rfl sz29 rfl rfl) ?_
  refine SL.pure rfl rfl rfl (PureOp.load (v := .slice (some ⟨lb, 0, none⟩) nu nu) Try.underlying29 rfl rfl (fun _ => (ho.cell 3 rfl))) ?_
  refine SL.pure rfl rfl rfl (PureOp.move rfl) ?_
  refine SL.pure rfl rfl rfl (PureOp.indexAddr Try.underlying29 sz3 rfl rfl (AoOk.in_ sLa) (fun _ => by omega)) ?_
  refine SL.pure rfl rfl rfl (PureOp.load (v := .int .i64 (nth la ((v_).toNat))) Try.underlying3 rfl rfl (fun _ => (CellIs.in_ sLa ((v_).toNat) 0 (by omega) (by omega)))) ?_
  refine SL.pure rfl rfl rfl (PureOp.assign rfl) ?_
  refine SL.nil_then ?_
  refine WC.seq ?_
  refine WC.region ?_
  refine SL.pure rfl rfl rfl (PureOp.move rfl) ?_
  refine SL.pure rfl rfl rfl (PureOp.nilCheckp rfl) ?_
  refine SL.pure rfl rfl rfl (PureOp.fieldAddrT 0 Try.underlying67 rfl sz22 rfl rfl) ?_
  refine SL.pure rfl rfl rfl (PureOp.load (v := .slice ea m ec) Try.underlying22 rfl rfl (fun _ => (ho.cell 0 rfl))) ?_
  refine SL.pure rfl rfl rfl (PureOp.move rfl) ?_
  refine SL.pure rfl rfl rfl (PureOp.indexAddr Try.underlying22 sz61 rfl rfl (AoOk.in_ sE) (fun _ => by omega)) ?_
  refine SL.pure rfl rfl rfl (PureOp.loads (vs := [.int .i64 ((nth l ((nth la ((v_).toNat)).toNat)).1), .int .i64 ((nth l ((nth la ((v_).toNat)).toNat)).2.1), .int .i64 ((nth l ((nth la ((v_).toNat)).toNat)).2.2.1), .int .i64 ((nth l ((nth la ((v_).toNat)).toNat)).2.2.2)]) Try.underlying61 rfl rfl (fun _ => (RowIs.in_ sE ((nth la ((v_).toNat)).toNat) 0 4 (by omega) (by omega))) sz61) ?_
  refine SL.alloc rfl rfl zero61 (fun b1 hb1 => ?_)
  refine SL.norm [_] rfl ?_
  refine SL.store 0 rfl rfl rfl rfl sz61 rfl rfl ?_
  refine SL.norm [_] rfl ?_
  refine SL.nil_then ?_
  refine WC.seq ?_
  refine WC.seq ?_
  refine WC.quiet rfl (by kernel_rfl) ?_
  refine SQ.pure rfl rfl rfl (PureOp.fieldAddrT 1 Try.underlying61 rfl sz3 rfl rfl) ?_
  refine SQ.pure rfl rfl rfl (PureOp.load (v := .int .i64 ((nth l ((nth la ((v_).toNat)).toNat)).2.1)) Try.underlying3 rfl rfl (fun _ => (CellIs.cells 0 rfl rfl))) ?_
  refine SQ.pure rfl rfl rfl (PureOp.move rfl) ?_
  refine SQ.pure rfl rfl rfl (PureOp.eql rfl rfl) ?_
  refine SQ.pure rfl rfl rfl (PureOp.move rfl) ?_
  refine SQ.newg 26 true rfl ?_
  refine SQ.gpure (c := 1) rfl rfl rfl rfl rfl rfl rfl (PureOp.move rfl) ?_
  refine SQ.gpure (c := 1) rfl rfl rfl rfl rfl rfl rfl (PureOp.nilCheckp rfl) ?_
  refine SQ.gpure (c := 1) rfl rfl rfl rfl rfl rfl rfl (PureOp.fieldAddrT 1 Try.underlying67 rfl sz29 rfl rfl) ?_
  refine SQ.gpure (c := 1) rfl rfl rfl rfl rfl rfl rfl (PureOp.load (v := .slice fa q fc) Try.underlying29 rfl rfl (fun _ => (ho.cell 1 rfl))) ?_
  refine SQ.gpure (c := 1) rfl rfl rfl rfl rfl rfl rfl (PureOp.move rfl) ?_
  refine SQ.gpure (c := 1) rfl rfl rfl rfl rfl rfl rfl (PureOp.indexAddr Try.underlying29 sz3 rfl rfl (AoOk.in_ sF) (by intro hg; simp [gval] at hg; omega)) ?_
  refine SQ.gpure (c := 1) rfl rfl rfl rfl rfl rfl rfl (PureOp.load (v := .int .i64 (nth f ((nth la ((v_).toNat)).toNat))) Try.underlying3 rfl rfl (by intro hg; simp [gval] at hg; exact (CellIs.in_ sF ((nth la ((v_).toNat)).toNat) 0 (by omega) (by omega)))) ?_
  refine SQ.gpure (c := 1) rfl rfl rfl rfl rfl rfl rfl (PureOp.fieldAddrT 2 Try.underlying61 rfl sz3 rfl rfl) ?_
  refine SQ.gpure (c := 1) rfl rfl rfl rfl rfl rfl rfl (PureOp.load (v := .int .i64 ((nth l ((nth la ((v_).toNat)).toNat)).2.2.1)) Try.underlying3 rfl rfl (fun _ => (CellIs.cells 0 rfl rfl))) ?_
  refine SQ.gpure (c := 1) rfl rfl rfl rfl rfl rfl rfl (PureOp.lss rfl rfl) ?_
  refine SQ.pure rfl rfl rfl (PureOp.and_ rfl rfl rfl rfl) ?_
  refine SQ.pure rfl rfl rfl (PureOp.move rfl) ?_
  refine SQ.newg 38 true rfl ?_
  refine SQ.gpure (c := 2) rfl rfl rfl rfl rfl rfl rfl (PureOp.move rfl) ?_
  refine SQ.gpure (c := 2) rfl rfl rfl rfl rfl rfl rfl (PureOp.nilCheckp rfl) ?_
  refine SQ.gpure (c := 2) rfl rfl rfl rfl rfl rfl rfl (PureOp.fieldAddrT 2 Try.underlying67 rfl sz29 rfl rfl) ?_
  refine SQ.gpure (c := 2) rfl rfl rfl rfl rfl rfl rfl (PureOp.load (v := .slice (some ⟨cb, 0, none⟩) nu nu) Try.underlying29 rfl rfl (fun _ => (ho.cell 2 rfl))) ?_
  refine SQ.gpure (c := 2) rfl rfl rfl rfl rfl rfl rfl (PureOp.fieldAddrT 0 Try.underlying61 rfl sz3 rfl rfl) ?_
  refine SQ.gpure (c := 2) rfl rfl rfl rfl rfl rfl rfl (PureOp.load (v := .int .i64 ((nth l ((nth la ((v_).toNat)).toNat)).1)) Try.underlying3 rfl rfl (fun _ => (CellIs.cells 0 rfl rfl))) ?_
  refine SQ.gpure (c := 2) rfl rfl rfl rfl rfl rfl rfl (PureOp.indexAddr Try.underlying29 sz3 rfl rfl (AoOk.in_ sC) (by intro hg; simp [gval] at hg; omega)) ?_
  refine SQ.gpure (c := 2) rfl rfl rfl rfl rfl rfl rfl (PureOp.load (v := .int .i64 (nth c (((nth l ((nth la ((v_).toNat)).toNat)).1).toNat))) Try.underlying3 rfl rfl (by intro hg; simp [gval] at hg; exact (CellIs.in_ sC (((nth l ((nth la ((v_).toNat)).toNat)).1).toNat) 0 (by omega) (by omega)))) ?_
  refine SQ.gpure (c := 2) rfl rfl rfl rfl rfl rfl rfl (PureOp.fieldAddrT 3 Try.underlying61 rfl sz3 rfl rfl) ?_
  refine SQ.gpure (c := 2) rfl rfl rfl rfl rfl rfl rfl (PureOp.load (v := .int .i64 ((nth l ((nth la ((v_).toNat)).toNat)).2.2.2)) Try.underlying3 rfl rfl (fun _ => (CellIs.cells 0 rfl rfl))) ?_
  refine SQ.gpure (c := 2) rfl rfl rfl rfl rfl rfl rfl (PureOp.add rfl rfl (by intro hg; simp [gval] at hg; omega)) ?_
  refine SQ.gpure (c := 2) rfl rfl rfl rfl rfl rfl rfl (PureOp.move rfl) ?_
  refine SQ.gpure (c := 2) rfl rfl rfl rfl rfl rfl rfl (PureOp.nilCheckp rfl) ?_
  refine SQ.gpure (c := 2) rfl rfl rfl rfl rfl rfl rfl (PureOp.fieldAddrT 2 Try.underlying67 rfl sz29 rfl rfl) ?_
  refine SQ.gpure (c := 2) rfl rfl rfl rfl rfl rfl rfl (PureOp.load (v := .slice (some ⟨cb, 0, none⟩) nu nu) Try.underlying29 rfl rfl (fun _ => (ho.cell 2 rfl))) ?_
  refine SQ.gpure (c := 2) rfl rfl rfl rfl rfl rfl rfl (PureOp.move rfl) ?_
  refine SQ.gpure (c := 2) rfl rfl rfl rfl rfl rfl rfl (PureOp.indexAddr Try.underlying29 sz3 rfl rfl (AoOk.in_ sC) (by intro hg; simp [gval] at hg; omega)) ?_
  refine SQ.gpure (c := 2) rfl rfl rfl rfl rfl rfl rfl (PureOp.load (v := .int .i64 (nth c ((v_).toNat))) Try.underlying3 rfl rfl (by intro hg; simp [gval] at hg; exact (CellIs.in_ sC ((v_).toNat) 0 (by omega) (by omega)))) ?_
  refine SQ.gpure (c := 2) rfl rfl rfl rfl rfl rfl rfl (PureOp.eql rfl rfl) ?_
  refine SQ.pure rfl rfl rfl (PureOp.and_ rfl rfl rfl rfl) ?_
  refine SQ.nil_then ?_
  refine WC.cond rfl (fun h1 => ?_) (fun h1 => ?_)
  · try simp only [Bool.and_eq_true, Bool.or_eq_true, Bool.not_eq_true', Bool.not_eq_false', Bool.and_eq_false_iff, Bool.or_eq_false_iff, decide_eq_true_eq, decide_eq_false_iff_not, Int.not_lt, Int.not_le, ne_eq, Decidable.not_not] at h1
    refine WC.seq ?_
    refine WC.quiet rfl (by kernel_rfl) ?_
    refine SQ.pure rfl rfl rfl (PureOp.fieldAddrT 0 Try.underlying61 rfl sz3 rfl rfl) ?_
    refine SQ.pure rfl rfl rfl (PureOp.load (v := .int .i64 ((nth l ((nth la ((v_).toNat)).toNat)).1)) Try.underlying3 rfl rfl (fun _ => (CellIs.cells 0 rfl rfl))) ?_
    refine SQ.pure rfl rfl rfl (PureOp.fieldAddrT 2 Try.underlying61 rfl sz3 rfl rfl) ?_
    refine SQ.pure rfl rfl rfl (PureOp.load (v := .int .i64 ((nth l ((nth la ((v_).toNat)).toNat)).2.2.1)) Try.underlying3 rfl rfl (fun _ => (CellIs.cells 0 rfl rfl))) ?_
    refine SQ.pure rfl rfl rfl (PureOp.move rfl) ?_
    refine SQ.pure rfl rfl rfl (PureOp.nilCheckp rfl) ?_
    refine SQ.pure rfl rfl rfl (PureOp.fieldAddrT 1 Try.underlying67 rfl sz29 rfl rfl) ?_
    refine SQ.pure rfl rfl rfl (PureOp.load (v := .slice fa q fc) Try.underlying29 rfl rfl (fun _ => (ho.cell 1 rfl))) ?_
    refine SQ.pure rfl rfl rfl (PureOp.move rfl) ?_
    refine SQ.pure rfl rfl rfl (PureOp.indexAddr Try.underlying29 sz3 rfl rfl (AoOk.in_ sF) (fun _ => by omega)) ?_
    refine SQ.pure rfl rfl rfl (PureOp.load (v := .int .i64 (nth f ((nth la ((v_).toNat)).toNat))) Try.underlying3 rfl rfl (fun _ => (CellIs.in_ sF ((nth la ((v_).toNat)).toNat) 0 (by omega) (by omega)))) ?_
    refine SQ.pure rfl rfl rfl (PureOp.sub rfl rfl (fun _ => by omega)) ?_
    refine SQ.pure rfl rfl rfl (PureOp.assign rfl) ?_
    refine SQ.pure rfl rfl rfl (PureOp.assign rfl) ?_
    refine SQ.nil_then ?_
    refine WC.ret ?_
    refine QX.ret_then ?_
    refine QX.ret2 rfl rfl rfl ?_
    intro w hw
    have e : backC l f c la v_ = true := by rw [backC, Bool.and_eq_true, Bool.and_eq_true, decide_eq_true_iff, decide_eq_true_iff, decide_eq_true_iff]; exact h1
    rw [backV, backR, if_pos e, if_pos e]
  · try simp only [Bool.and_eq_true, Bool.or_eq_true, Bool.not_eq_true', Bool.not_eq_false', Bool.and_eq_false_iff, Bool.or_eq_false_iff, decide_eq_true_eq, decide_eq_false_iff_not, Int.not_lt, Int.not_le, ne_eq, Decidable.not_not] at h1
    refine WC.skip ?_
    refine QX.then_ ?_
    refine WC.seq ?_
    refine WC.quiet rfl (by kernel_rfl) ?_
    refine SQ.pure rfl rfl rfl (PureOp.fieldAddrT 1 Try.underlying61 rfl sz3 rfl rfl) ?_
    refine SQ.pure rfl rfl rfl (PureOp.load (v := .int .i64 ((nth l ((nth la ((v_).toNat)).toNat)).2.1)) Try.underlying3 rfl rfl (fun _ => (CellIs.cells 0 rfl rfl))) ?_
    refine SQ.pure rfl rfl rfl (PureOp.move rfl) ?_
    refine SQ.pure rfl rfl rfl (PureOp.nilCheckp rfl) ?_
    refine SQ.pure rfl rfl rfl (PureOp.fieldAddrT 1 Try.underlying67 rfl sz29 rfl rfl) ?_
    refine SQ.pure rfl rfl rfl (PureOp.load (v := .slice fa q fc) Try.underlying29 rfl rfl (fun _ => (ho.cell 1 rfl))) ?_
    refine SQ.pure rfl rfl rfl (PureOp.move rfl) ?_
    refine SQ.pure rfl rfl rfl (PureOp.indexAddr Try.underlying29 sz3 rfl rfl (AoOk.in_ sF) (fun _ => by omega)) ?_
    refine SQ.pure rfl rfl rfl (PureOp.load (v := .int .i64 (nth f ((nth la ((v_).toNat)).toNat))) Try.underlying3 rfl rfl (fun _ => (CellIs.in_ sF ((nth la ((v_).toNat)).toNat) 0 (by omega) (by omega)))) ?_
    refine SQ.pure rfl rfl rfl (PureOp.assign rfl) ?_
    refine SQ.pure rfl rfl rfl (PureOp.assign rfl) ?_
    refine SQ.nil_then ?_
    refine WC.ret ?_
    refine QX.ret2 rfl rfl rfl ?_
    intro w hw
    have e : backC l f c la v_ = false := by rw [backC, Bool.and_eq_false_iff, Bool.and_eq_false_iff, decide_eq_false_iff_not, decide_eq_false_iff_not, decide_eq_false_iff_not]; exact h1.imp (fun h => h.imp id (fun h => Int.not_lt.2 h)) id
    rw [backV, backR, if_neg (by rw [e]; decide), if_neg (by rw [e]; decide)]

end Go.Proofs.Ytngkbnaehkailaa
