import Derived.Test.YtngkbnaehkailaaFlD
namespace Go.Proofs.Ytngkbnaehkailaa
open Go Go.RowKit Eng
set_option linter.unusedVariables false
set_option linter.unusedSimpArgs false

set_option maxHeartbeats 4000000 in
set_option maxRecDepth 100000 in
theorem fwa_ok (b nu : Nat) (l : List Ed) (ea : Option Addr) (m ec : Nat) (hm : m = l.length) (hmb : m ≤ 2048) (f : List Int) (fa : Option Addr) (q fc : Nat) (hq : q = f.length) (hqm : q = m) (c la : List Int) (cb lb : Nat) (lo : Int) (hE : EdOk nu l) (hc : Bd nu lo c) (hla : la.length = nu) (hlo : -1152921504606846976 ≤ lo) (hn : nu ≤ 128) (i : Nat) (hi : i < m) (w0 : World) (sE : SliceIn w0 4 ea m ec (rowsF encEd l)) (sF : SliceIn w0 1 fa q fc (rowsF encI f)) : MC Try.prog 54 [.pointer (some ⟨b, 0, none⟩), .int .i64 ((i : Nat) : Int)] w0 [Item.cells b [.slice ea m ec, .slice fa q fc, .slice (some ⟨cb, 0, none⟩) nu nu, .slice (some ⟨lb, 0, none⟩) nu nu] 67, Item.own w0.heap.size (some ⟨cb, 0, none⟩) nu nu 3 1 (cellsOf encI c), Item.own w0.heap.size (some ⟨lb, 0, none⟩) nu nu 3 1 (cellsOf encI la)] (fun _ : Unit => .bool (fwC l f c i)) (fun _ => [Item.cells b [.slice ea m ec, .slice fa q fc, .slice (some ⟨cb, 0, none⟩) nu nu, .slice (some ⟨lb, 0, none⟩) nu nu] 67, Item.own w0.heap.size (some ⟨cb, 0, none⟩) nu nu 3 1 (cellsOf encI (fwS l f i c)), Item.own w0.heap.size (some ⟨lb, 0, none⟩) nu nu 3 1 (cellsOf encI (fwL l f i c la))]) (fun _ => True) (fun _ => []) := by
  have hEi := hE i (by omega)
  have hc1 := hc.bd (nth l i).1.toNat (by omega)
  have hc2 := hc.bd (nth l i).2.1.toNat (by omega)
  have hcl := hc.len
  refine mcalls (N := 82) Try.func54 rfl rfl rfl ?_
  intro X
  show WC _ _ _ _ _ _ _ [Item.cells b [.slice ea m ec, .slice fa q fc, .slice (some ⟨cb, 0, none⟩) nu nu, .slice (some ⟨lb, 0, none⟩) nu nu] 67, Item.own w0.heap.size (some ⟨cb, 0, none⟩) nu nu 3 1 (cellsOf encI c), Item.own w0.heap.size (some ⟨lb, 0, none⟩) nu nu 3 1 (cellsOf encI la), X]
  refine WC.seq ?_
  refine WC.region ?_
  refine SL.pure rfl rfl rfl (PureOp.assign rfl) ?_
  refine SL.nil_then ?_
  refine WC.seq ?_
  refine WC.region ?_
  refine SL.pure rfl rfl rfl (PureOp.move rfl) ?_
  refine SL.pure rfl rfl rfl (PureOp.nilCheckp rfl) ?_
  refine SL.pure rfl rfl rfl (PureOp.fieldAddrT 0 Try.underlying67 rfl sz22 rfl rfl) ?_
  refine SL.pure rfl rfl rfl (PureOp.load (v := .slice ea m ec) Try.underlying22 rfl rfl (fun _ => (CellIs.cells 0 rfl rfl))) ?_
  refine SL.pure rfl rfl rfl (PureOp.move rfl) ?_
  refine SL.pure rfl rfl rfl (PureOp.indexAddrN Try.underlying22 sz61 rfl rfl (AoOk.in_ sE) (fun _ => by omega)) ?_
  refine SL.pure rfl rfl rfl (PureOp.loads (vs := [.int .i64 ((nth l i).1), .int .i64 ((nth l i).2.1), .int .i64 ((nth l i).2.2.1), .int .i64 ((nth l i).2.2.2)]) Try.underlying61 rfl rfl (fun _ => (RowIs.in_ sE i 0 4 (by omega) (by omega))) sz61) ?_
  refine SL.alloc rfl rfl zero61 (fun b1 hb1 => ?_)
  refine SL.norm [_, _, _, _, _] rfl ?_
  refine SL.store 4 rfl rfl rfl rfl sz61 rfl rfl ?_
  refine SL.norm [_, _, _, _, _] rfl ?_
  refine SL.nil_then ?_
  refine WC.seq ?_
  refine WC.seq ?_
  refine WC.quiet rfl (by kernel_rfl) ?_
  refine SQ.pure rfl rfl rfl (PureOp.move rfl) ?_
  refine SQ.pure rfl rfl rfl (PureOp.nilCheckp rfl) ?_
  refine SQ.pure rfl rfl rfl (PureOp.fieldAddrT 1 Try.underlying67 rfl sz29 rfl rfl) ?_
  refine SQ.pure rfl rfl rfl (PureOp.load (v := .slice fa q fc) Try.underlying29 rfl rfl (fun _ => (CellIs.cells 0 rfl rfl))) ?_
  refine SQ.pure rfl rfl rfl (PureOp.move rfl) ?_
  refine SQ.pure rfl rfl rfl (PureOp.indexAddrN Try.underlying29 sz3 rfl rfl (AoOk.in_ sF) (fun _ => by omega)) ?_
  refine SQ.pure rfl rfl rfl (PureOp.load (v := .int .i64 (nth f i)) Try.underlying3 rfl rfl (fun _ => (CellIs.in_ sF i 0 (by omega) (by omega)))) ?_
  refine SQ.pure rfl rfl rfl (PureOp.fieldAddrT 2 Try.underlying61 rfl sz3 rfl rfl) ?_
  refine SQ.pure rfl rfl rfl (PureOp.load (v := .int .i64 ((nth l i).2.2.1)) Try.underlying3 rfl rfl (fun _ => (CellIs.cells 4 rfl rfl))) ?_
  refine SQ.pure rfl rfl rfl (PureOp.geq rfl rfl) ?_
  refine SQ.pure rfl rfl rfl (PureOp.move rfl) ?_
  refine SQ.newg 23 false rfl ?_
  refine SQ.gpure (c := 1) rfl rfl rfl rfl rfl rfl rfl (PureOp.move rfl) ?_
  refine SQ.gpure (c := 1) rfl rfl rfl rfl rfl rfl rfl (PureOp.nilCheckp rfl) ?_
  refine SQ.gpure (c := 1) rfl rfl rfl rfl rfl rfl rfl (PureOp.fieldAddrT 2 Try.underlying67 rfl sz29 rfl rfl) ?_
  refine SQ.gpure (c := 1) rfl rfl rfl rfl rfl rfl rfl (PureOp.load (v := .slice (some ⟨cb, 0, none⟩) nu nu) Try.underlying29 rfl rfl (fun _ => (CellIs.cells 0 rfl rfl))) ?_
  refine SQ.gpure (c := 1) rfl rfl rfl rfl rfl rfl rfl (PureOp.fieldAddrT 0 Try.underlying61 rfl sz3 rfl rfl) ?_
  refine SQ.gpure (c := 1) rfl rfl rfl rfl rfl rfl rfl (PureOp.load (v := .int .i64 ((nth l i).1)) Try.underlying3 rfl rfl (fun _ => (CellIs.cells 4 rfl rfl))) ?_
  refine SQ.gpure (c := 1) rfl rfl rfl rfl rfl rfl rfl (PureOp.indexAddr Try.underlying29 sz3 rfl rfl AoOk.lit (by intro hg; simp [gval] at hg; omega)) ?_
  refine SQ.gpure (c := 1) rfl rfl rfl rfl rfl rfl rfl (PureOp.load (v := .int .i64 (nth c (((nth l i).1).toNat))) Try.underlying3 rfl rfl (by intro hg; simp [gval] at hg; exact (CellIs.ownc 1 rfl (((nth l i).1).toNat) 0 (by exact encI_get (by first | omega | (rw [hc.len]; omega) | (rw [hla]; omega)))))) ?_
  refine SQ.gpure (c := 1) rfl rfl rfl rfl rfl rfl rfl (PureOp.eql rfl rfl) ?_
  refine SQ.pure rfl rfl rfl (PureOp.or_ rfl rfl rfl rfl) ?_
  refine SQ.pure rfl rfl rfl (PureOp.move rfl) ?_
  refine SQ.newg 34 false rfl ?_
  refine SQ.gpure (c := 2) rfl rfl rfl rfl rfl rfl rfl (PureOp.move rfl) ?_
  refine SQ.gpure (c := 2) rfl rfl rfl rfl rfl rfl rfl (PureOp.nilCheckp rfl) ?_
  refine SQ.gpure (c := 2) rfl rfl rfl rfl rfl rfl rfl (PureOp.fieldAddrT 2 Try.underlying67 rfl sz29 rfl rfl) ?_
  refine SQ.gpure (c := 2) rfl rfl rfl rfl rfl rfl rfl (PureOp.load (v := .slice (some ⟨cb, 0, none⟩) nu nu) Try.underlying29 rfl rfl (fun _ => (CellIs.cells 0 rfl rfl))) ?_
  refine SQ.gpure (c := 2) rfl rfl rfl rfl rfl rfl rfl (PureOp.fieldAddrT 0 Try.underlying61 rfl sz3 rfl rfl) ?_
  refine SQ.gpure (c := 2) rfl rfl rfl rfl rfl rfl rfl (PureOp.load (v := .int .i64 ((nth l i).1)) Try.underlying3 rfl rfl (fun _ => (CellIs.cells 4 rfl rfl))) ?_
  refine SQ.gpure (c := 2) rfl rfl rfl rfl rfl rfl rfl (PureOp.indexAddr Try.underlying29 sz3 rfl rfl AoOk.lit (by intro hg; simp [gval] at hg; omega)) ?_
  refine SQ.gpure (c := 2) rfl rfl rfl rfl rfl rfl rfl (PureOp.load (v := .int .i64 (nth c (((nth l i).1).toNat))) Try.underlying3 rfl rfl (by intro hg; simp [gval] at hg; exact (CellIs.ownc 1 rfl (((nth l i).1).toNat) 0 (by exact encI_get (by first | omega | (rw [hc.len]; omega) | (rw [hla]; omega)))))) ?_
  refine SQ.gpure (c := 2) rfl rfl rfl rfl rfl rfl rfl (PureOp.fieldAddrT 3 Try.underlying61 rfl sz3 rfl rfl) ?_
  refine SQ.gpure (c := 2) rfl rfl rfl rfl rfl rfl rfl (PureOp.load (v := .int .i64 ((nth l i).2.2.2)) Try.underlying3 rfl rfl (fun _ => (CellIs.cells 4 rfl rfl))) ?_
  refine SQ.gpure (c := 2) rfl rfl rfl rfl rfl rfl rfl (PureOp.add rfl rfl (by intro hg; simp [gval] at hg; omega)) ?_
  refine SQ.gpure (c := 2) rfl rfl rfl rfl rfl rfl rfl (PureOp.move rfl) ?_
  refine SQ.gpure (c := 2) rfl rfl rfl rfl rfl rfl rfl (PureOp.nilCheckp rfl) ?_
  refine SQ.gpure (c := 2) rfl rfl rfl rfl rfl rfl rfl (PureOp.fieldAddrT 2 Try.underlying67 rfl sz29 rfl rfl) ?_
  refine SQ.gpure (c := 2) rfl rfl rfl rfl rfl rfl rfl (PureOp.load (v := .slice (some ⟨cb, 0, none⟩) nu nu) Try.underlying29 rfl rfl (fun _ => (CellIs.cells 0 rfl rfl))) ?_
  refine SQ.gpure (c := 2) rfl rfl rfl rfl rfl rfl rfl (PureOp.fieldAddrT 1 Try.underlying61 rfl sz3 rfl rfl) ?_
  refine SQ.gpure (c := 2) rfl rfl rfl rfl rfl rfl rfl (PureOp.load (v := .int .i64 ((nth l i).2.1)) Try.underlying3 rfl rfl (fun _ => (CellIs.cells 4 rfl rfl))) ?_
  refine SQ.gpure (c := 2) rfl rfl rfl rfl rfl rfl rfl (PureOp.indexAddr Try.underlying29 sz3 rfl rfl AoOk.lit (by intro hg; simp [gval] at hg; omega)) ?_
  refine SQ.gpure (c := 2) rfl rfl rfl rfl rfl rfl rfl (PureOp.load (v := .int .i64 (nth c (((nth l i).2.1).toNat))) Try.underlying3 rfl rfl (by intro hg; simp [gval] at hg; exact (CellIs.ownc 1 rfl (((nth l i).2.1).toNat) 0 (by exact encI_get (by first | omega | (rw [hc.len]; omega) | (rw [hla]; omega)))))) ?_
  refine SQ.gpure (c := 2) rfl rfl rfl rfl rfl rfl rfl (PureOp.geq rfl rfl) ?_
  refine SQ.pure rfl rfl rfl (PureOp.or_ rfl rfl rfl rfl) ?_
  refine SQ.nil_then ?_
  refine WC.cond rfl (fun h1 => ?_) (fun h1 => ?_)
  · try simp only [Bool.and_eq_true, Bool.or_eq_true, Bool.not_eq_true', Bool.not_eq_false', Bool.and_eq_false_iff, Bool.or_eq_false_iff, decide_eq_true_eq, decide_eq_false_iff_not, Int.not_lt, Int.not_le, ne_eq, Decidable.not_not] at h1
    refine WC.seq ?_
    refine WC.region ?_
    refine SL.pure rfl rfl rfl (PureOp.assign rfl) ?_
    refine SL.nil_then ?_
    refine WC.ret ?_
    refine QX.ret_then ?_
    refine QX.body1 rfl rfl ?_
    intro w hw
    have e : fwC l f c i = false := by rw [fwC, Bool.and_eq_false_iff, Bool.and_eq_false_iff, decide_eq_false_iff_not, decide_eq_false_iff_not, decide_eq_false_iff_not]; omega
    refine ⟨(), by rw [e], trivial, ?_⟩
    rw [fwS, fwL, if_neg (by rw [e]; decide), if_neg (by rw [e]; decide)]
    exact HeapOk.pick [0, 1, 2, 3] (by decide) hw
  · try simp only [Bool.and_eq_true, Bool.or_eq_true, Bool.not_eq_true', Bool.not_eq_false', Bool.and_eq_false_iff, Bool.or_eq_false_iff, decide_eq_true_eq, decide_eq_false_iff_not, Int.not_lt, Int.not_le, ne_eq, Decidable.not_not] at h1
    refine WC.skip ?_
    refine QX.then_ ?_
    refine WC.seq ?_
    refine WC.drawh ([Item.cells b [.slice ea m ec, .slice fa q fc, .slice (some ⟨cb, 0, none⟩) nu nu, .slice (some ⟨lb, 0, none⟩) nu nu] 67, Item.triv, Item.triv, X, Item.cells b1 [.int .i64 ((nth l i).1), .int .i64 ((nth l i).2.1), .int .i64 ((nth l i).2.2.1), .int .i64 ((nth l i).2.2.2)] 61]) 28 [false, false, false, false, false, false, false, false, false, false, false, false, false, false, false, false, false, false, false, false, false, false, false, false, false, false, false, false] rfl rfl rfl ?_
    refine SD.take 0 [true, false, false, false, false, false, false, false, false, false, false, false, false, false, false, false, false, false, false, false, false, false, false, false, false, false, false, false] rfl (by kernel_rfl) rfl (fun _ h => (HeapOk.settriv (HeapOk.settriv h (i := 1) rfl) (i := 2) rfl)) rfl rfl rfl (PureOp.move rfl) ?_
    refine SD.take 1 [true, true, false, false, false, false, false, false, false, false, false, false, false, false, false, false, false, false, false, false, false, false, false, false, false, false, false, false] rfl (by kernel_rfl) rfl (fun _ h => (HeapOk.settriv (HeapOk.settriv h (i := 1) rfl) (i := 2) rfl)) rfl rfl rfl (PureOp.nilCheckp rfl) ?_
    refine SD.take 2 [true, true, true, false, false, false, false, false, false, false, false, false, false, false, false, false, false, false, false, false, false, false, false, false, false, false, false, false] rfl (by kernel_rfl) rfl (fun _ h => (HeapOk.settriv (HeapOk.settriv h (i := 1) rfl) (i := 2) rfl)) rfl rfl rfl (PureOp.fieldAddrT 2 Try.underlying67 rfl sz29 rfl rfl) ?_
    refine SD.take 3 [true, true, true, true, false, false, false, false, false, false, false, false, false, false, false, false, false, false, false, false, false, false, false, false, false, false, false, false] rfl (by kernel_rfl) rfl (fun _ h => (HeapOk.settriv (HeapOk.settriv h (i := 1) rfl) (i := 2) rfl)) rfl rfl rfl (PureOp.load (v := .slice (some ⟨cb, 0, none⟩) nu nu) Try.underlying29 rfl rfl (fun _ => (CellIs.cells 0 rfl rfl))) ?_
    refine SD.take 4 [true, true, true, true, true, false, false, false, false, false, false, false, false, false, false, false, false, false, false, false, false, false, false, false, false, false, false, false] rfl (by kernel_rfl) rfl (fun _ h => (HeapOk.settriv (HeapOk.settriv h (i := 1) rfl) (i := 2) rfl)) rfl rfl rfl (PureOp.fieldAddrT 1 Try.underlying61 rfl sz3 rfl rfl) ?_
    refine SD.take 5 [true, true, true, true, true, true, false, false, false, false, false, false, false, false, false, false, false, false, false, false, false, false, false, false, false, false, false, false] rfl (by kernel_rfl) rfl (fun _ h => (HeapOk.settriv (HeapOk.settriv h (i := 1) rfl) (i := 2) rfl)) rfl rfl rfl (PureOp.load (v := .int .i64 ((nth l i).2.1)) Try.underlying3 rfl rfl (fun _ => (CellIs.cells 4 rfl rfl))) ?_
    refine SD.take 6 [true, true, true, true, true, true, true, false, false, false, false, false, false, false, false, false, false, false, false, false, false, false, false, false, false, false, false, false] rfl (by kernel_rfl) rfl (fun _ h => (HeapOk.settriv (HeapOk.settriv h (i := 1) rfl) (i := 2) rfl)) rfl rfl rfl (PureOp.move rfl) ?_
    refine SD.take 7 [true, true, true, true, true, true, true, true, false, false, false, false, false, false, false, false, false, false, false, false, false, false, false, false, false, false, false, false] rfl (by kernel_rfl) rfl (fun _ h => (HeapOk.settriv (HeapOk.settriv h (i := 1) rfl) (i := 2) rfl)) rfl rfl rfl (PureOp.nilCheckp rfl) ?_
    refine SD.take 8 [true, true, true, true, true, true, true, true, true, false, false, false, false, false, false, false, false, false, false, false, false, false, false, false, false, false, false, false] rfl (by kernel_rfl) rfl (fun _ h => (HeapOk.settriv (HeapOk.settriv h (i := 1) rfl) (i := 2) rfl)) rfl rfl rfl (PureOp.fieldAddrT 3 Try.underlying67 rfl sz29 rfl rfl) ?_
    refine SD.take 9 [true, true, true, true, true, true, true, true, true, true, false, false, false, false, false, false, false, false, false, false, false, false, false, false, false, false, false, false] rfl (by kernel_rfl) rfl (fun _ h => (HeapOk.settriv (HeapOk.settriv h (i := 1) rfl) (i := 2) rfl)) rfl rfl rfl (PureOp.load (v := .slice (some ⟨lb, 0, none⟩) nu nu) Try.underlying29 rfl rfl (fun _ => (CellIs.cells 0 rfl rfl))) ?_
    refine SD.take 10 [true, true, true, true, true, true, true, true, true, true, true, false, false, false, false, false, false, false, false, false, false, false, false, false, false, false, false, false] rfl (by kernel_rfl) rfl (fun _ h => (HeapOk.settriv (HeapOk.settriv h (i := 1) rfl) (i := 2) rfl)) rfl rfl rfl (PureOp.fieldAddrT 1 Try.underlying61 rfl sz3 rfl rfl) ?_
    refine SD.take 11 [true, true, true, true, true, true, true, true, true, true, true, true, false, false, false, false, false, false, false, false, false, false, false, false, false, false, false, false] rfl (by kernel_rfl) rfl (fun _ h => (HeapOk.settriv (HeapOk.settriv h (i := 1) rfl) (i := 2) rfl)) rfl rfl rfl (PureOp.load (v := .int .i64 ((nth l i).2.1)) Try.underlying3 rfl rfl (fun _ => (CellIs.cells 4 rfl rfl))) ?_
    refine SD.take 12 [true, true, true, true, true, true, true, true, true, true, true, true, true, false, false, false, false, false, false, false, false, false, false, false, false, false, false, false] rfl (by kernel_rfl) rfl (fun _ h => (HeapOk.settriv (HeapOk.settriv h (i := 1) rfl) (i := 2) rfl)) rfl rfl rfl (PureOp.move rfl) ?_
    refine SD.take 13 [true, true, true, true, true, true, true, true, true, true, true, true, true, true, false, false, false, false, false, false, false, false, false, false, false, false, false, false] rfl (by kernel_rfl) rfl (fun _ h => (HeapOk.settriv (HeapOk.settriv h (i := 1) rfl) (i := 2) rfl)) rfl rfl rfl (PureOp.nilCheckp rfl) ?_
    refine SD.take 14 [true, true, true, true, true, true, true, true, true, true, true, true, true, true, true, false, false, false, false, false, false, false, false, false, false, false, false, false] rfl (by kernel_rfl) rfl (fun _ h => (HeapOk.settriv (HeapOk.settriv h (i := 1) rfl) (i := 2) rfl)) rfl rfl rfl (PureOp.fieldAddrT 2 Try.underlying67 rfl sz29 rfl rfl) ?_
    refine SD.take 15 [true, true, true, true, true, true, true, true, true, true, true, true, true, true, true, true, false, false, false, false, false, false, false, false, false, false, false, false] rfl (by kernel_rfl) rfl (fun _ h => (HeapOk.settriv (HeapOk.settriv h (i := 1) rfl) (i := 2) rfl)) rfl rfl rfl (PureOp.load (v := .slice (some ⟨cb, 0, none⟩) nu nu) Try.underlying29 rfl rfl (fun _ => (CellIs.cells 0 rfl rfl))) ?_
    refine SD.take 16 [true, true, true, true, true, true, true, true, true, true, true, true, true, true, true, true, true, false, false, false, false, false, false, false, false, false, false, false] rfl (by kernel_rfl) rfl (fun _ h => (HeapOk.settriv (HeapOk.settriv h (i := 1) rfl) (i := 2) rfl)) rfl rfl rfl (PureOp.fieldAddrT 0 Try.underlying61 rfl sz3 rfl rfl) ?_
    refine SD.take 17 [true, true, true, true, true, true, true, true, true, true, true, true, true, true, true, true, true, true, false, false, false, false, false, false, false, false, false, false] rfl (by kernel_rfl) rfl (fun _ h => (HeapOk.settriv (HeapOk.settriv h (i := 1) rfl) (i := 2) rfl)) rfl rfl rfl (PureOp.load (v := .int .i64 ((nth l i).1)) Try.underlying3 rfl rfl (fun _ => (CellIs.cells 4 rfl rfl))) ?_
    refine SD.take 18 [true, true, true, true, true, true, true, true, true, true, true, true, true, true, true, true, true, true, true, false, false, false, false, false, false, false, false, false] rfl (by kernel_rfl) rfl (fun _ h => (HeapOk.settriv (HeapOk.settriv h (i := 1) rfl) (i := 2) rfl)) rfl rfl rfl (PureOp.indexAddr Try.underlying29 sz3 rfl rfl AoOk.lit (fun _ => by omega)) ?_
    refine SD.take 20 [true, true, true, true, true, true, true, true, true, true, true, true, true, true, true, true, true, true, true, false, true, false, false, false, false, false, false, false] rfl (by kernel_rfl) rfl (fun _ h => (HeapOk.settriv (HeapOk.settriv h (i := 1) rfl) (i := 2) rfl)) rfl rfl rfl (PureOp.fieldAddrT 3 Try.underlying61 rfl sz3 rfl rfl) ?_
    refine SD.take 21 [true, true, true, true, true, true, true, true, true, true, true, true, true, true, true, true, true, true, true, false, true, true, false, false, false, false, false, false] rfl (by kernel_rfl) rfl (fun _ h => (HeapOk.settriv (HeapOk.settriv h (i := 1) rfl) (i := 2) rfl)) rfl rfl rfl (PureOp.load (v := .int .i64 ((nth l i).2.2.2)) Try.underlying3 rfl rfl (fun _ => (CellIs.cells 4 rfl rfl))) ?_
    refine SD.take 23 [true, true, true, true, true, true, true, true, true, true, true, true, true, true, true, true, true, true, true, false, true, true, false, true, false, false, false, false] rfl (by kernel_rfl) rfl (fun _ h => (HeapOk.settriv (HeapOk.settriv h (i := 1) rfl) (i := 2) rfl)) rfl rfl rfl (PureOp.move rfl) ?_
    refine SD.one 19 [true, true, true, true, true, true, true, true, true, true, true, true, true, true, true, true, true, true, true, true, true, true, false, true, false, false, false, false] (by kernel_rfl) rfl rfl ?_
    refine SL.pure rfl rfl rfl (PureOp.load (v := .int .i64 (nth c (((nth l i).1).toNat))) Try.underlying3 rfl rfl (fun _ => (CellIs.ownc 1 rfl (((nth l i).1).toNat) 0 (by exact encI_get (by first | omega | (rw [hc.len]; omega) | (rw [hla]; omega)))))) ?_
    refine SD.back (fun _ h => (HeapOk.settriv (HeapOk.settriv h (i := 1) rfl) (i := 2) rfl)) ?_
    refine SD.take 22 [true, true, true, true, true, true, true, true, true, true, true, true, true, true, true, true, true, true, true, true, true, true, true, true, false, false, false, false] rfl (by kernel_rfl) rfl (fun _ h => (HeapOk.settriv (HeapOk.settriv h (i := 1) rfl) (i := 2) rfl)) rfl rfl rfl (PureOp.add rfl rfl (fun _ => by omega)) ?_
    refine SD.take 24 [true, true, true, true, true, true, true, true, true, true, true, true, true, true, true, true, true, true, true, true, true, true, true, true, true, false, false, false] rfl (by kernel_rfl) rfl (fun _ h => (HeapOk.settriv (HeapOk.settriv h (i := 1) rfl) (i := 2) rfl)) rfl rfl rfl (PureOp.indexAddr Try.underlying29 sz3 rfl rfl AoOk.lit (fun _ => by omega)) ?_
    refine SD.one 25 [true, true, true, true, true, true, true, true, true, true, true, true, true, true, true, true, true, true, true, true, true, true, true, true, true, true, false, false] (by kernel_rfl) rfl rfl ?_
    refine SL.storeown (k := (((nth l i).2.1).toNat)) (j := 0) 1 rfl rfl rfl rfl sz3 (by rw [cellsOf_length encI_len]; omega) rfl ?_
    refine SL.itemxs 1 rfl (show _ = cellsOf encI (c.set ((nth l i).2.1.toNat) (nth c (nth l i).1.toNat + (nth l i).2.2.2)) from encI_set (by omega)) ?_
    refine SL.norm [_, _, _, _, _] rfl ?_
    refine SD.back (fun _ h => (HeapOk.settriv (HeapOk.settriv h (i := 1) rfl) (i := 2) rfl)) ?_
    refine SD.take 26 [true, true, true, true, true, true, true, true, true, true, true, true, true, true, true, true, true, true, true, true, true, true, true, true, true, true, true, false] rfl (by kernel_rfl) rfl (fun _ h => (HeapOk.settriv (HeapOk.settriv h (i := 1) rfl) (i := 2) rfl)) rfl rfl rfl (PureOp.indexAddr Try.underlying29 sz3 rfl rfl AoOk.lit (fun _ => by omega)) ?_
    refine SD.one 27 [true, true, true, true, true, true, true, true, true, true, true, true, true, true, true, true, true, true, true, true, true, true, true, true, true, true, true, true] (by kernel_rfl) rfl rfl ?_
    refine SL.storeown (k := (((nth l i).2.1).toNat)) (j := 0) 2 rfl rfl rfl rfl sz3 (by rw [cellsOf_length encI_len]; omega) rfl ?_
    refine SL.itemxs 2 rfl (show _ = cellsOf encI (la.set ((nth l i).2.1.toNat) (i : Int)) from encI_set (by omega)) ?_
    refine SL.norm [_, _, _, _, _] rfl ?_
    refine SD.back (fun _ h => (HeapOk.settriv (HeapOk.settriv h (i := 1) rfl) (i := 2) rfl)) ?_
    refine SD.done (by kernel_rfl) ?_
    refine QX.ofK ?_
    refine QX.then_ ?_
    refine WC.seq ?_
    refine WC.region ?_
    refine SL.pure rfl rfl rfl (PureOp.assign rfl) ?_
    refine SL.nil_then ?_
    refine WC.ret ?_
    refine QX.body1 rfl rfl ?_
    intro w hw
    have e : fwC l f c i = true := by rw [fwC, Bool.and_eq_true, Bool.and_eq_true, decide_eq_true_iff, decide_eq_true_iff, decide_eq_true_iff]; omega
    refine ⟨(), by rw [e], trivial, ?_⟩
    rw [fwS, fwL, if_pos e, if_pos e]
    exact HeapOk.pick [0, 1, 2, 3] (by decide) hw

set_option maxHeartbeats 4000000 in
set_option maxRecDepth 100000 in
theorem bwa_ok (b nu : Nat) (l : List Ed) (ea : Option Addr) (m ec : Nat) (hm : m = l.length) (hmb : m ≤ 2048) (f : List Int) (fa : Option Addr) (q fc : Nat) (hq : q = f.length) (hqm : q = m) (c la : List Int) (cb lb : Nat) (lo : Int) (hE : EdOk nu l) (hc : Bd nu lo c) (hla : la.length = nu) (hlo : -1152921504606846976 ≤ lo) (hn : nu ≤ 128) (i : Nat) (hi : i < m) (w0 : World) (sE : SliceIn w0 4 ea m ec (rowsF encEd l)) (sF : SliceIn w0 1 fa q fc (rowsF encI f)) : MC Try.prog 55 [.pointer (some ⟨b, 0, none⟩), .int .i64 ((i : Nat) : Int)] w0 [Item.cells b [.slice ea m ec, .slice fa q fc, .slice (some ⟨cb, 0, none⟩) nu nu, .slice (some ⟨lb, 0, none⟩) nu nu] 67, Item.own w0.heap.size (some ⟨cb, 0, none⟩) nu nu 3 1 (cellsOf encI c), Item.own w0.heap.size (some ⟨lb, 0, none⟩) nu nu 3 1 (cellsOf encI la)] (fun _ : Unit => .bool (bwC l f c i)) (fun _ => [Item.cells b [.slice ea m ec, .slice fa q fc, .slice (some ⟨cb, 0, none⟩) nu nu, .slice (some ⟨lb, 0, none⟩) nu nu] 67, Item.own w0.heap.size (some ⟨cb, 0, none⟩) nu nu 3 1 (cellsOf encI (bwS l f i c)), Item.own w0.heap.size (some ⟨lb, 0, none⟩) nu nu 3 1 (cellsOf encI (bwL l f i c la))]) (fun _ => True) (fun _ => []) := by
  have hEi := hE i (by omega)
  have hc1 := hc.bd (nth l i).1.toNat (by omega)
  have hc2 := hc.bd (nth l i).2.1.toNat (by omega)
  have hcl := hc.len
  refine mcalls (N := 80) Try.func55 rfl rfl rfl ?_
  intro X
  show WC _ _ _ _ _ _ _ [Item.cells b [.slice ea m ec, .slice fa q fc, .slice (some ⟨cb, 0, none⟩) nu nu, .slice (some ⟨lb, 0, none⟩) nu nu] 67, Item.own w0.heap.size (some ⟨cb, 0, none⟩) nu nu 3 1 (cellsOf encI c), Item.own w0.heap.size (some ⟨lb, 0, none⟩) nu nu 3 1 (cellsOf encI la), X]
  refine WC.seq ?_
  refine WC.region ?_
  refine SL.pure rfl rfl rfl (PureOp.assign rfl) ?_
  refine SL.nil_then ?_
  refine WC.seq ?_
  refine WC.region ?_
  refine SL.pure rfl rfl rfl (PureOp.move rfl) ?_
  refine SL.pure rfl rfl rfl (PureOp.nilCheckp rfl) ?_
  refine SL.pure rfl rfl rfl (PureOp.fieldAddrT 0 Try.underlying67 rfl sz22 rfl rfl) ?_
  refine SL.pure rfl rfl rfl (PureOp.load (v := .slice ea m ec) Try.underlying22 rfl rfl (fun _ => (CellIs.cells 0 rfl rfl))) ?_
  refine SL.pure rfl rfl rfl (PureOp.move rfl) ?_
  refine SL.pure rfl rfl rfl (PureOp.indexAddrN Try.underlying22 sz61 rfl rfl (AoOk.in_ sE) (fun _ => by omega)) ?_
  refine SL.pure rfl rfl rfl (PureOp.loads (vs := [.int .i64 ((nth l i).1), .int .i64 ((nth l i).2.1), .int .i64 ((nth l i).2.2.1), .int .i64 ((nth l i).2.2.2)]) Try.underlying61 rfl rfl (fun _ => (RowIs.in_ sE i 0 4 (by omega) (by omega))) sz61) ?_
  refine SL.alloc rfl rfl zero61 (fun b1 hb1 => ?_)
  refine SL.norm [_, _, _, _, _] rfl ?_
  refine SL.store 4 rfl rfl rfl rfl sz61 rfl rfl ?_
  refine SL.norm [_, _, _, _, _] rfl ?_
  refine SL.nil_then ?_
  refine WC.seq ?_
  refine WC.seq ?_
  refine WC.quiet rfl (by kernel_rfl) ?_
  refine SQ.pure rfl rfl rfl (PureOp.move rfl) ?_
  refine SQ.pure rfl rfl rfl (PureOp.nilCheckp rfl) ?_
  refine SQ.pure rfl rfl rfl (PureOp.fieldAddrT 1 Try.underlying67 rfl sz29 rfl rfl) ?_
  refine SQ.pure rfl rfl rfl (PureOp.load (v := .slice fa q fc) Try.underlying29 rfl rfl (fun _ => (CellIs.cells 0 rfl rfl))) ?_
  refine SQ.pure rfl rfl rfl (PureOp.move rfl) ?_
  refine SQ.pure rfl rfl rfl (PureOp.indexAddrN Try.underlying29 sz3 rfl rfl (AoOk.in_ sF) (fun _ => by omega)) ?_
  refine SQ.pure rfl rfl rfl (PureOp.load (v := .int .i64 (nth f i)) Try.underlying3 rfl rfl (fun _ => (CellIs.in_ sF i 0 (by omega) (by omega)))) ?_
  refine SQ.pure rfl rfl rfl (PureOp.leq rfl rfl) ?_
  refine SQ.pure rfl rfl rfl (PureOp.move rfl) ?_
  refine SQ.newg 21 false rfl ?_
  refine SQ.gpure (c := 1) rfl rfl rfl rfl rfl rfl rfl (PureOp.move rfl) ?_
  refine SQ.gpure (c := 1) rfl rfl rfl rfl rfl rfl rfl (PureOp.nilCheckp rfl) ?_
  refine SQ.gpure (c := 1) rfl rfl rfl rfl rfl rfl rfl (PureOp.fieldAddrT 2 Try.underlying67 rfl sz29 rfl rfl) ?_
  refine SQ.gpure (c := 1) rfl rfl rfl rfl rfl rfl rfl (PureOp.load (v := .slice (some ⟨cb, 0, none⟩) nu nu) Try.underlying29 rfl rfl (fun _ => (CellIs.cells 0 rfl rfl))) ?_
  refine SQ.gpure (c := 1) rfl rfl rfl rfl rfl rfl rfl (PureOp.fieldAddrT 1 Try.underlying61 rfl sz3 rfl rfl) ?_
  refine SQ.gpure (c := 1) rfl rfl rfl rfl rfl rfl rfl (PureOp.load (v := .int .i64 ((nth l i).2.1)) Try.underlying3 rfl rfl (fun _ => (CellIs.cells 4 rfl rfl))) ?_
  refine SQ.gpure (c := 1) rfl rfl rfl rfl rfl rfl rfl (PureOp.indexAddr Try.underlying29 sz3 rfl rfl AoOk.lit (by intro hg; simp [gval] at hg; omega)) ?_
  refine SQ.gpure (c := 1) rfl rfl rfl rfl rfl rfl rfl (PureOp.load (v := .int .i64 (nth c (((nth l i).2.1).toNat))) Try.underlying3 rfl rfl (by intro hg; simp [gval] at hg; exact (CellIs.ownc 1 rfl (((nth l i).2.1).toNat) 0 (by exact encI_get (by first | omega | (rw [hc.len]; omega) | (rw [hla]; omega)))))) ?_
  refine SQ.gpure (c := 1) rfl rfl rfl rfl rfl rfl rfl (PureOp.eql rfl rfl) ?_
  refine SQ.pure rfl rfl rfl (PureOp.or_ rfl rfl rfl rfl) ?_
  refine SQ.pure rfl rfl rfl (PureOp.move rfl) ?_
  refine SQ.newg 32 false rfl ?_
  refine SQ.gpure (c := 2) rfl rfl rfl rfl rfl rfl rfl (PureOp.move rfl) ?_
  refine SQ.gpure (c := 2) rfl rfl rfl rfl rfl rfl rfl (PureOp.nilCheckp rfl) ?_
  refine SQ.gpure (c := 2) rfl rfl rfl rfl rfl rfl rfl (PureOp.fieldAddrT 2 Try.underlying67 rfl sz29 rfl rfl) ?_
  refine SQ.gpure (c := 2) rfl rfl rfl rfl rfl rfl rfl (PureOp.load (v := .slice (some ⟨cb, 0, none⟩) nu nu) Try.underlying29 rfl rfl (fun _ => (CellIs.cells 0 rfl rfl))) ?_
  refine SQ.gpure (c := 2) rfl rfl rfl rfl rfl rfl rfl (PureOp.fieldAddrT 1 Try.underlying61 rfl sz3 rfl rfl) ?_
  refine SQ.gpure (c := 2) rfl rfl rfl rfl rfl rfl rfl (PureOp.load (v := .int .i64 ((nth l i).2.1)) Try.underlying3 rfl rfl (fun _ => (CellIs.cells 4 rfl rfl))) ?_
  refine SQ.gpure (c := 2) rfl rfl rfl rfl rfl rfl rfl (PureOp.indexAddr Try.underlying29 sz3 rfl rfl AoOk.lit (by intro hg; simp [gval] at hg; omega)) ?_
  refine SQ.gpure (c := 2) rfl rfl rfl rfl rfl rfl rfl (PureOp.load (v := .int .i64 (nth c (((nth l i).2.1).toNat))) Try.underlying3 rfl rfl (by intro hg; simp [gval] at hg; exact (CellIs.ownc 1 rfl (((nth l i).2.1).toNat) 0 (by exact encI_get (by first | omega | (rw [hc.len]; omega) | (rw [hla]; omega)))))) ?_
  refine SQ.gpure (c := 2) rfl rfl rfl rfl rfl rfl rfl (PureOp.fieldAddrT 3 Try.underlying61 rfl sz3 rfl rfl) ?_
  refine SQ.gpure (c := 2) rfl rfl rfl rfl rfl rfl rfl (PureOp.load (v := .int .i64 ((nth l i).2.2.2)) Try.underlying3 rfl rfl (fun _ => (CellIs.cells 4 rfl rfl))) ?_
  refine SQ.gpure (c := 2) rfl rfl rfl rfl rfl rfl rfl (PureOp.sub rfl rfl (by intro hg; simp [gval] at hg; omega)) ?_
  refine SQ.gpure (c := 2) rfl rfl rfl rfl rfl rfl rfl (PureOp.move rfl) ?_
  refine SQ.gpure (c := 2) rfl rfl rfl rfl rfl rfl rfl (PureOp.nilCheckp rfl) ?_
  refine SQ.gpure (c := 2) rfl rfl rfl rfl rfl rfl rfl (PureOp.fieldAddrT 2 Try.underlying67 rfl sz29 rfl rfl) ?_
  refine SQ.gpure (c := 2) rfl rfl rfl rfl rfl rfl rfl (PureOp.load (v := .slice (some ⟨cb, 0, none⟩) nu nu) Try.underlying29 rfl rfl (fun _ => (CellIs.cells 0 rfl rfl))) ?_
  refine SQ.gpure (c := 2) rfl rfl rfl rfl rfl rfl rfl (PureOp.fieldAddrT 0 Try.underlying61 rfl sz3 rfl rfl) ?_
  refine SQ.gpure (c := 2) rfl rfl rfl rfl rfl rfl rfl (PureOp.load (v := .int .i64 ((nth l i).1)) Try.underlying3 rfl rfl (fun _ => (CellIs.cells 4 rfl rfl))) ?_
  refine SQ.gpure (c := 2) rfl rfl rfl rfl rfl rfl rfl (PureOp.indexAddr Try.underlying29 sz3 rfl rfl AoOk.lit (by intro hg; simp [gval] at hg; omega)) ?_
  refine SQ.gpure (c := 2) rfl rfl rfl rfl rfl rfl rfl (PureOp.load (v := .int .i64 (nth c (((nth l i).1).toNat))) Try.underlying3 rfl rfl (by intro hg; simp [gval] at hg; exact (CellIs.ownc 1 rfl (((nth l i).1).toNat) 0 (by exact encI_get (by first | omega | (rw [hc.len]; omega) | (rw [hla]; omega)))))) ?_
  refine SQ.gpure (c := 2) rfl rfl rfl rfl rfl rfl rfl (PureOp.geq rfl rfl) ?_
  refine SQ.pure rfl rfl rfl (PureOp.or_ rfl rfl rfl rfl) ?_
  refine SQ.nil_then ?_
  refine WC.cond rfl (fun h1 => ?_) (fun h1 => ?_)
  · try simp only [Bool.and_eq_true, Bool.or_eq_true, Bool.not_eq_true', Bool.not_eq_false', Bool.and_eq_false_iff, Bool.or_eq_false_iff, decide_eq_true_eq, decide_eq_false_iff_not, Int.not_lt, Int.not_le, ne_eq, Decidable.not_not] at h1
    refine WC.seq ?_
    refine WC.region ?_
    refine SL.pure rfl rfl rfl (PureOp.assign rfl) ?_
    refine SL.nil_then ?_
    refine WC.ret ?_
    refine QX.ret_then ?_
    refine QX.body1 rfl rfl ?_
    intro w hw
    have e : bwC l f c i = false := by rw [bwC, Bool.and_eq_false_iff, Bool.and_eq_false_iff, decide_eq_false_iff_not, decide_eq_false_iff_not, decide_eq_false_iff_not]; omega
    refine ⟨(), by rw [e], trivial, ?_⟩
    rw [bwS, bwL, if_neg (by rw [e]; decide), if_neg (by rw [e]; decide)]
    exact HeapOk.pick [0, 1, 2, 3] (by decide) hw
  · try simp only [Bool.and_eq_true, Bool.or_eq_true, Bool.not_eq_true', Bool.not_eq_false', Bool.and_eq_false_iff, Bool.or_eq_false_iff, decide_eq_true_eq, decide_eq_false_iff_not, Int.not_lt, Int.not_le, ne_eq, Decidable.not_not] at h1
    refine WC.skip ?_
    refine QX.then_ ?_
    refine WC.seq ?_
    refine WC.drawh ([Item.cells b [.slice ea m ec, .slice fa q fc, .slice (some ⟨cb, 0, none⟩) nu nu, .slice (some ⟨lb, 0, none⟩) nu nu] 67, Item.triv, Item.triv, X, Item.cells b1 [.int .i64 ((nth l i).1), .int .i64 ((nth l i).2.1), .int .i64 ((nth l i).2.2.1), .int .i64 ((nth l i).2.2.2)] 61]) 28 [false, false, false, false, false, false, false, false, false, false, false, false, false, false, false, false, false, false, false, false, false, false, false, false, false, false, false, false] rfl rfl rfl ?_
    refine SD.take 0 [true, false, false, false, false, false, false, false, false, false, false, false, false, false, false, false, false, false, false, false, false, false, false, false, false, false, false, false] rfl (by kernel_rfl) rfl (fun _ h => (HeapOk.settriv (HeapOk.settriv h (i := 1) rfl) (i := 2) rfl)) rfl rfl rfl (PureOp.move rfl) ?_
    refine SD.take 1 [true, true, false, false, false, false, false, false, false, false, false, false, false, false, false, false, false, false, false, false, false, false, false, false, false, false, false, false] rfl (by kernel_rfl) rfl (fun _ h => (HeapOk.settriv (HeapOk.settriv h (i := 1) rfl) (i := 2) rfl)) rfl rfl rfl (PureOp.nilCheckp rfl) ?_
    refine SD.take 2 [true, true, true, false, false, false, false, false, false, false, false, false, false, false, false, false, false, false, false, false, false, false, false, false, false, false, false, false] rfl (by kernel_rfl) rfl (fun _ h => (HeapOk.settriv (HeapOk.settriv h (i := 1) rfl) (i := 2) rfl)) rfl rfl rfl (PureOp.fieldAddrT 2 Try.underlying67 rfl sz29 rfl rfl) ?_
    refine SD.take 3 [true, true, true, true, false, false, false, false, false, false, false, false, false, false, false, false, false, false, false, false, false, false, false, false, false, false, false, false] rfl (by kernel_rfl) rfl (fun _ h => (HeapOk.settriv (HeapOk.settriv h (i := 1) rfl) (i := 2) rfl)) rfl rfl rfl (PureOp.load (v := .slice (some ⟨cb, 0, none⟩) nu nu) Try.underlying29 rfl rfl (fun _ => (CellIs.cells 0 rfl rfl))) ?_
    refine SD.take 4 [true, true, true, true, true, false, false, false, false, false, false, false, false, false, false, false, false, false, false, false, false, false, false, false, false, false, false, false] rfl (by kernel_rfl) rfl (fun _ h => (HeapOk.settriv (HeapOk.settriv h (i := 1) rfl) (i := 2) rfl)) rfl rfl rfl (PureOp.fieldAddrT 0 Try.underlying61 rfl sz3 rfl rfl) ?_
    refine SD.take 5 [true, true, true, true, true, true, false, false, false, false, false, false, false, false, false, false, false, false, false, false, false, false, false, false, false, false, false, false] rfl (by kernel_rfl) rfl (fun _ h => (HeapOk.settriv (HeapOk.settriv h (i := 1) rfl) (i := 2) rfl)) rfl rfl rfl (PureOp.load (v := .int .i64 ((nth l i).1)) Try.underlying3 rfl rfl (fun _ => (CellIs.cells 4 rfl rfl))) ?_
    refine SD.take 6 [true, true, true, true, true, true, true, false, false, false, false, false, false, false, false, false, false, false, false, false, false, false, false, false, false, false, false, false] rfl (by kernel_rfl) rfl (fun _ h => (HeapOk.settriv (HeapOk.settriv h (i := 1) rfl) (i := 2) rfl)) rfl rfl rfl (PureOp.move rfl) ?_
    refine SD.take 7 [true, true, true, true, true, true, true, true, false, false, false, false, false, false, false, false, false, false, false, false, false, false, false, false, false, false, false, false] rfl (by kernel_rfl) rfl (fun _ h => (HeapOk.settriv (HeapOk.settriv h (i := 1) rfl) (i := 2) rfl)) rfl rfl rfl (PureOp.nilCheckp rfl) ?_
    refine SD.take 8 [true, true, true, true, true, true, true, true, true, false, false, false, false, false, false, false, false, false, false, false, false, false, false, false, false, false, false, false] rfl (by kernel_rfl) rfl (fun _ h => (HeapOk.settriv (HeapOk.settriv h (i := 1) rfl) (i := 2) rfl)) rfl rfl rfl (PureOp.fieldAddrT 3 Try.underlying67 rfl sz29 rfl rfl) ?_
    refine SD.take 9 [true, true, true, true, true, true, true, true, true, true, false, false, false, false, false, false, false, false, false, false, false, false, false, false, false, false, false, false] rfl (by kernel_rfl) rfl (fun _ h => (HeapOk.settriv (HeapOk.settriv h (i := 1) rfl) (i := 2) rfl)) rfl rfl rfl (PureOp.load (v := .slice (some ⟨lb, 0, none⟩) nu nu) Try.underlying29 rfl rfl (fun _ => (CellIs.cells 0 rfl rfl))) ?_
    refine SD.take 10 [true, true, true, true, true, true, true, true, true, true, true, false, false, false, false, false, false, false, false, false, false, false, false, false, false, false, false, false] rfl (by kernel_rfl) rfl (fun _ h => (HeapOk.settriv (HeapOk.settriv h (i := 1) rfl) (i := 2) rfl)) rfl rfl rfl (PureOp.fieldAddrT 0 Try.underlying61 rfl sz3 rfl rfl) ?_
    refine SD.take 11 [true, true, true, true, true, true, true, true, true, true, true, true, false, false, false, false, false, false, false, false, false, false, false, false, false, false, false, false] rfl (by kernel_rfl) rfl (fun _ h => (HeapOk.settriv (HeapOk.settriv h (i := 1) rfl) (i := 2) rfl)) rfl rfl rfl (PureOp.load (v := .int .i64 ((nth l i).1)) Try.underlying3 rfl rfl (fun _ => (CellIs.cells 4 rfl rfl))) ?_
    refine SD.take 12 [true, true, true, true, true, true, true, true, true, true, true, true, true, false, false, false, false, false, false, false, false, false, false, false, false, false, false, false] rfl (by kernel_rfl) rfl (fun _ h => (HeapOk.settriv (HeapOk.settriv h (i := 1) rfl) (i := 2) rfl)) rfl rfl rfl (PureOp.move rfl) ?_
    refine SD.take 13 [true, true, true, true, true, true, true, true, true, true, true, true, true, true, false, false, false, false, false, false, false, false, false, false, false, false, false, false] rfl (by kernel_rfl) rfl (fun _ h => (HeapOk.settriv (HeapOk.settriv h (i := 1) rfl) (i := 2) rfl)) rfl rfl rfl (PureOp.nilCheckp rfl) ?_
    refine SD.take 14 [true, true, true, true, true, true, true, true, true, true, true, true, true, true, true, false, false, false, false, false, false, false, false, false, false, false, false, false] rfl (by kernel_rfl) rfl (fun _ h => (HeapOk.settriv (HeapOk.settriv h (i := 1) rfl) (i := 2) rfl)) rfl rfl rfl (PureOp.fieldAddrT 2 Try.underlying67 rfl sz29 rfl rfl) ?_
    refine SD.take 15 [true, true, true, true, true, true, true, true, true, true, true, true, true, true, true, true, false, false, false, false, false, false, false, false, false, false, false, false] rfl (by kernel_rfl) rfl (fun _ h => (HeapOk.settriv (HeapOk.settriv h (i := 1) rfl) (i := 2) rfl)) rfl rfl rfl (PureOp.load (v := .slice (some ⟨cb, 0, none⟩) nu nu) Try.underlying29 rfl rfl (fun _ => (CellIs.cells 0 rfl rfl))) ?_
    refine SD.take 16 [true, true, true, true, true, true, true, true, true, true, true, true, true, true, true, true, true, false, false, false, false, false, false, false, false, false, false, false] rfl (by kernel_rfl) rfl (fun _ h => (HeapOk.settriv (HeapOk.settriv h (i := 1) rfl) (i := 2) rfl)) rfl rfl rfl (PureOp.fieldAddrT 1 Try.underlying61 rfl sz3 rfl rfl) ?_
    refine SD.take 17 [true, true, true, true, true, true, true, true, true, true, true, true, true, true, true, true, true, true, false, false, false, false, false, false, false, false, false, false] rfl (by kernel_rfl) rfl (fun _ h => (HeapOk.settriv (HeapOk.settriv h (i := 1) rfl) (i := 2) rfl)) rfl rfl rfl (PureOp.load (v := .int .i64 ((nth l i).2.1)) Try.underlying3 rfl rfl (fun _ => (CellIs.cells 4 rfl rfl))) ?_
    refine SD.take 18 [true, true, true, true, true, true, true, true, true, true, true, true, true, true, true, true, true, true, true, false, false, false, false, false, false, false, false, false] rfl (by kernel_rfl) rfl (fun _ h => (HeapOk.settriv (HeapOk.settriv h (i := 1) rfl) (i := 2) rfl)) rfl rfl rfl (PureOp.indexAddr Try.underlying29 sz3 rfl rfl AoOk.lit (fun _ => by omega)) ?_
    refine SD.take 20 [true, true, true, true, true, true, true, true, true, true, true, true, true, true, true, true, true, true, true, false, true, false, false, false, false, false, false, false] rfl (by kernel_rfl) rfl (fun _ h => (HeapOk.settriv (HeapOk.settriv h (i := 1) rfl) (i := 2) rfl)) rfl rfl rfl (PureOp.fieldAddrT 3 Try.underlying61 rfl sz3 rfl rfl) ?_
    refine SD.take 21 [true, true, true, true, true, true, true, true, true, true, true, true, true, true, true, true, true, true, true, false, true, true, false, false, false, false, false, false] rfl (by kernel_rfl) rfl (fun _ h => (HeapOk.settriv (HeapOk.settriv h (i := 1) rfl) (i := 2) rfl)) rfl rfl rfl (PureOp.load (v := .int .i64 ((nth l i).2.2.2)) Try.underlying3 rfl rfl (fun _ => (CellIs.cells 4 rfl rfl))) ?_
    refine SD.take 23 [true, true, true, true, true, true, true, true, true, true, true, true, true, true, true, true, true, true, true, false, true, true, false, true, false, false, false, false] rfl (by kernel_rfl) rfl (fun _ h => (HeapOk.settriv (HeapOk.settriv h (i := 1) rfl) (i := 2) rfl)) rfl rfl rfl (PureOp.move rfl) ?_
    refine SD.one 19 [true, true, true, true, true, true, true, true, true, true, true, true, true, true, true, true, true, true, true, true, true, true, false, true, false, false, false, false] (by kernel_rfl) rfl rfl ?_
    refine SL.pure rfl rfl rfl (PureOp.load (v := .int .i64 (nth c (((nth l i).2.1).toNat))) Try.underlying3 rfl rfl (fun _ => (CellIs.ownc 1 rfl (((nth l i).2.1).toNat) 0 (by exact encI_get (by first | omega | (rw [hc.len]; omega) | (rw [hla]; omega)))))) ?_
    refine SD.back (fun _ h => (HeapOk.settriv (HeapOk.settriv h (i := 1) rfl) (i := 2) rfl)) ?_
    refine SD.take 22 [true, true, true, true, true, true, true, true, true, true, true, true, true, true, true, true, true, true, true, true, true, true, true, true, false, false, false, false] rfl (by kernel_rfl) rfl (fun _ h => (HeapOk.settriv (HeapOk.settriv h (i := 1) rfl) (i := 2) rfl)) rfl rfl rfl (PureOp.sub rfl rfl (fun _ => by omega)) ?_
    refine SD.take 24 [true, true, true, true, true, true, true, true, true, true, true, true, true, true, true, true, true, true, true, true, true, true, true, true, true, false, false, false] rfl (by kernel_rfl) rfl (fun _ h => (HeapOk.settriv (HeapOk.settriv h (i := 1) rfl) (i := 2) rfl)) rfl rfl rfl (PureOp.indexAddr Try.underlying29 sz3 rfl rfl AoOk.lit (fun _ => by omega)) ?_
    refine SD.one 25 [true, true, true, true, true, true, true, true, true, true, true, true, true, true, true, true, true, true, true, true, true, true, true, true, true, true, false, false] (by kernel_rfl) rfl rfl ?_
    refine SL.storeown (k := (((nth l i).1).toNat)) (j := 0) 1 rfl rfl rfl rfl sz3 (by rw [cellsOf_length encI_len]; omega) rfl ?_
    refine SL.itemxs 1 rfl (show _ = cellsOf encI (c.set ((nth l i).1.toNat) (nth c (nth l i).2.1.toNat - (nth l i).2.2.2)) from encI_set (by omega)) ?_
    refine SL.norm [_, _, _, _, _] rfl ?_
    refine SD.back (fun _ h => (HeapOk.settriv (HeapOk.settriv h (i := 1) rfl) (i := 2) rfl)) ?_
    refine SD.take 26 [true, true, true, true, true, true, true, true, true, true, true, true, true, true, true, true, true, true, true, true, true, true, true, true, true, true, true, false] rfl (by kernel_rfl) rfl (fun _ h => (HeapOk.settriv (HeapOk.settriv h (i := 1) rfl) (i := 2) rfl)) rfl rfl rfl (PureOp.indexAddr Try.underlying29 sz3 rfl rfl AoOk.lit (fun _ => by omega)) ?_
    refine SD.one 27 [true, true, true, true, true, true, true, true, true, true, true, true, true, true, true, true, true, true, true, true, true, true, true, true, true, true, true, true] (by kernel_rfl) rfl rfl ?_
    refine SL.storeown (k := (((nth l i).1).toNat)) (j := 0) 2 rfl rfl rfl rfl sz3 (by rw [cellsOf_length encI_len]; omega) rfl ?_
    refine SL.itemxs 2 rfl (show _ = cellsOf encI (la.set ((nth l i).1.toNat) (i : Int)) from encI_set (by omega)) ?_
    refine SL.norm [_, _, _, _, _] rfl ?_
    refine SD.back (fun _ h => (HeapOk.settriv (HeapOk.settriv h (i := 1) rfl) (i := 2) rfl)) ?_
    refine SD.done (by kernel_rfl) ?_
    refine QX.ofK ?_
    refine QX.then_ ?_
    refine WC.seq ?_
    refine WC.region ?_
    refine SL.pure rfl rfl rfl (PureOp.assign rfl) ?_
    refine SL.nil_then ?_
    refine WC.ret ?_
    refine QX.body1 rfl rfl ?_
    intro w hw
    have e : bwC l f c i = true := by rw [bwC, Bool.and_eq_true, Bool.and_eq_true, decide_eq_true_iff, decide_eq_true_iff, decide_eq_true_iff]; omega
    refine ⟨(), by rw [e], trivial, ?_⟩
    rw [bwS, bwL, if_pos e, if_pos e]
    exact HeapOk.pick [0, 1, 2, 3] (by decide) hw

set_option maxHeartbeats 4000000 in
set_option maxRecDepth 100000 in
theorem fwo_ok (b nu : Nat) (l : List Ed) (ea : Option Addr) (m ec : Nat) (hm : m = l.length) (hmb : m ≤ 2048) (f : List Int) (fa : Option Addr) (q fc : Nat) (hq : q = f.length) (hqm : q = m) (c la : List Int) (cb lb : Nat) (lo : Int) (hE : EdOk nu l) (hc : Bd nu lo c) (hla : la.length = nu) (hlo : -1152921504606846976 ≤ lo) (hn : nu ≤ 128) (i : Nat) (hi : i < m) (w0 : World) (sE : SliceIn w0 4 ea m ec (rowsF encEd l)) : MC Try.prog 54 [.pointer (some ⟨b, 0, none⟩), .int .i64 ((i : Nat) : Int)] w0 [Item.cells b [.slice ea m ec, .slice fa q fc, .slice (some ⟨cb, 0, none⟩) nu nu, .slice (some ⟨lb, 0, none⟩) nu nu] 67, Item.own w0.heap.size (some ⟨cb, 0, none⟩) nu nu 3 1 (cellsOf encI c), Item.own w0.heap.size (some ⟨lb, 0, none⟩) nu nu 3 1 (cellsOf encI la), Item.own w0.heap.size fa q fc 3 1 (cellsOf encI f)] (fun _ : Unit => .bool (fwC l f c i)) (fun _ => [Item.cells b [.slice ea m ec, .slice fa q fc, .slice (some ⟨cb, 0, none⟩) nu nu, .slice (some ⟨lb, 0, none⟩) nu nu] 67, Item.own w0.heap.size (some ⟨cb, 0, none⟩) nu nu 3 1 (cellsOf encI (fwS l f i c)), Item.own w0.heap.size (some ⟨lb, 0, none⟩) nu nu 3 1 (cellsOf encI (fwL l f i c la)), Item.own w0.heap.size fa q fc 3 1 (cellsOf encI f)]) (fun _ => True) (fun _ => []) := by
  have hEi := hE i (by omega)
  have hc1 := hc.bd (nth l i).1.toNat (by omega)
  have hc2 := hc.bd (nth l i).2.1.toNat (by omega)
  have hcl := hc.len
  refine mcalls (N := 82) Try.func54 rfl rfl rfl ?_
  intro X
  show WC _ _ _ _ _ _ _ [Item.cells b [.slice ea m ec, .slice fa q fc, .slice (some ⟨cb, 0, none⟩) nu nu, .slice (some ⟨lb, 0, none⟩) nu nu] 67, Item.own w0.heap.size (some ⟨cb, 0, none⟩) nu nu 3 1 (cellsOf encI c), Item.own w0.heap.size (some ⟨lb, 0, none⟩) nu nu 3 1 (cellsOf encI la), Item.own w0.heap.size fa q fc 3 1 (cellsOf encI f), X]
  refine WC.seq ?_
  refine WC.region ?_
  refine SL.pure rfl rfl rfl (PureOp.assign rfl) ?_
  refine SL.nil_then ?_
  refine WC.seq ?_
  refine WC.region ?_
  refine SL.pure rfl rfl rfl (PureOp.move rfl) ?_
  refine SL.pure rfl rfl rfl (PureOp.nilCheckp rfl) ?_
  refine SL.pure rfl rfl rfl (PureOp.fieldAddrT 0 Try.underlying67 rfl sz22 rfl rfl) ?_
  refine SL.pure rfl rfl rfl (PureOp.load (v := .slice ea m ec) Try.underlying22 rfl rfl (fun _ => (CellIs.cells 0 rfl rfl))) ?_
  refine SL.pure rfl rfl rfl (PureOp.move rfl) ?_
  refine SL.pure rfl rfl rfl (PureOp.indexAddrN Try.underlying22 sz61 rfl rfl (AoOk.in_ sE) (fun _ => by omega)) ?_
  refine SL.pure rfl rfl rfl (PureOp.loads (vs := [.int .i64 ((nth l i).1), .int .i64 ((nth l i).2.1), .int .i64 ((nth l i).2.2.1), .int .i64 ((nth l i).2.2.2)]) Try.underlying61 rfl rfl (fun _ => (RowIs.in_ sE i 0 4 (by omega) (by omega))) sz61) ?_
  refine SL.alloc rfl rfl zero61 (fun b1 hb1 => ?_)
  refine SL.norm [_, _, _, _, _, _] rfl ?_
  refine SL.store 5 rfl rfl rfl rfl sz61 rfl rfl ?_
  refine SL.norm [_, _, _, _, _, _] rfl ?_
  refine SL.nil_then ?_
  refine WC.seq ?_
  refine WC.seq ?_
  refine WC.quiet rfl (by kernel_rfl) ?_
  refine SQ.pure rfl rfl rfl (PureOp.move rfl) ?_
  refine SQ.pure rfl rfl rfl (PureOp.nilCheckp rfl) ?_
  refine SQ.pure rfl rfl rfl (PureOp.fieldAddrT 1 Try.underlying67 rfl sz29 rfl rfl) ?_
  refine SQ.pure rfl rfl rfl (PureOp.load (v := .slice fa q fc) Try.underlying29 rfl rfl (fun _ => (CellIs.cells 0 rfl rfl))) ?_
  refine SQ.pure rfl rfl rfl (PureOp.move rfl) ?_
  refine SQ.pure rfl rfl rfl (PureOp.indexAddrN Try.underlying29 sz3 rfl rfl (AoOk.own 3 rfl) (fun _ => by omega)) ?_
  refine SQ.pure rfl rfl rfl (PureOp.load (v := .int .i64 (nth f i)) Try.underlying3 rfl rfl (fun _ => (CellIs.ownc 3 rfl i 0 (by exact encI_get (by first | omega | (rw [hc.len]; omega) | (rw [hla]; omega)))))) ?_
  refine SQ.pure rfl rfl rfl (PureOp.fieldAddrT 2 Try.underlying61 rfl sz3 rfl rfl) ?_
  refine SQ.pure rfl rfl rfl (PureOp.load (v := .int .i64 ((nth l i).2.2.1)) Try.underlying3 rfl rfl (fun _ => (CellIs.cells 5 rfl rfl))) ?_
  refine SQ.pure rfl rfl rfl (PureOp.geq rfl rfl) ?_
  refine SQ.pure rfl rfl rfl (PureOp.move rfl) ?_
  refine SQ.newg 23 false rfl ?_
  refine SQ.gpure (c := 1) rfl rfl rfl rfl rfl rfl rfl (PureOp.move rfl) ?_
  refine SQ.gpure (c := 1) rfl rfl rfl rfl rfl rfl rfl (PureOp.nilCheckp rfl) ?_
  refine SQ.gpure (c := 1) rfl rfl rfl rfl rfl rfl rfl (PureOp.fieldAddrT 2 Try.underlying67 rfl sz29 rfl rfl) ?_
  refine SQ.gpure (c := 1) rfl rfl rfl rfl rfl rfl rfl (PureOp.load (v := .slice (some ⟨cb, 0, none⟩) nu nu) Try.underlying29 rfl rfl (fun _ => (CellIs.cells 0 rfl rfl))) ?_
  refine SQ.gpure (c := 1) rfl rfl rfl rfl rfl rfl rfl (PureOp.fieldAddrT 0 Try.underlying61 rfl sz3 rfl rfl) ?_
  refine SQ.gpure (c := 1) rfl rfl rfl rfl rfl rfl rfl (PureOp.load (v := .int .i64 ((nth l i).1)) Try.underlying3 rfl rfl (fun _ => (CellIs.cells 5 rfl rfl))) ?_
  refine SQ.gpure (c := 1) rfl rfl rfl rfl rfl rfl rfl (PureOp.indexAddr Try.underlying29 sz3 rfl rfl AoOk.lit (by intro hg; simp [gval] at hg; omega)) ?_
  refine SQ.gpure (c := 1) rfl rfl rfl rfl rfl rfl rfl (PureOp.load (v := .int .i64 (nth c (((nth l i).1).toNat))) Try.underlying3 rfl rfl (by intro hg; simp [gval] at hg; exact (CellIs.ownc 1 rfl (((nth l i).1).toNat) 0 (by exact encI_get (by first | omega | (rw [hc.len]; omega) | (rw [hla]; omega)))))) ?_
  refine SQ.gpure (c := 1) rfl rfl rfl rfl rfl rfl rfl (PureOp.eql rfl rfl) ?_
  refine SQ.pure rfl rfl rfl (PureOp.or_ rfl rfl rfl rfl) ?_
  refine SQ.pure rfl rfl rfl (PureOp.move rfl) ?_
  refine SQ.newg 34 false rfl ?_
  refine SQ.gpure (c := 2) rfl rfl rfl rfl rfl rfl rfl (PureOp.move rfl) ?_
  refine SQ.gpure (c := 2) rfl rfl rfl rfl rfl rfl rfl (PureOp.nilCheckp rfl) ?_
  refine SQ.gpure (c := 2) rfl rfl rfl rfl rfl rfl rfl (PureOp.fieldAddrT 2 Try.underlying67 rfl sz29 rfl rfl) ?_
  refine SQ.gpure (c := 2) rfl rfl rfl rfl rfl rfl rfl (PureOp.load (v := .slice (some ⟨cb, 0, none⟩) nu nu) Try.underlying29 rfl rfl (fun _ => (CellIs.cells 0 rfl rfl))) ?_
  refine SQ.gpure (c := 2) rfl rfl rfl rfl rfl rfl rfl (PureOp.fieldAddrT 0 Try.underlying61 rfl sz3 rfl rfl) ?_
  refine SQ.gpure (c := 2) rfl rfl rfl rfl rfl rfl rfl (PureOp.load (v := .int .i64 ((nth l i).1)) Try.underlying3 rfl rfl (fun _ => (CellIs.cells 5 rfl rfl))) ?_
  refine SQ.gpure (c := 2) rfl rfl rfl rfl rfl rfl rfl (PureOp.indexAddr Try.underlying29 sz3 rfl rfl AoOk.lit (by intro hg; simp [gval] at hg; omega)) ?_
  refine SQ.gpure (c := 2) rfl rfl rfl rfl rfl rfl rfl (PureOp.load (v := .int .i64 (nth c (((nth l i).1).toNat))) Try.underlying3 rfl rfl (by intro hg; simp [gval] at hg; exact (CellIs.ownc 1 rfl (((nth l i).1).toNat) 0 (by exact encI_get (by first | omega | (rw [hc.len]; omega) | (rw [hla]; omega)))))) ?_
  refine SQ.gpure (c := 2) rfl rfl rfl rfl rfl rfl rfl (PureOp.fieldAddrT 3 Try.underlying61 rfl sz3 rfl rfl) ?_
  refine SQ.gpure (c := 2) rfl rfl rfl rfl rfl rfl rfl (PureOp.load (v := .int .i64 ((nth l i).2.2.2)) Try.underlying3 rfl rfl (fun _ => (CellIs.cells 5 rfl rfl))) ?_
  refine SQ.gpure (c := 2) rfl rfl rfl rfl rfl rfl rfl (PureOp.add rfl rfl (by intro hg; simp [gval] at hg; omega)) ?_
  refine SQ.gpure (c := 2) rfl rfl rfl rfl rfl rfl rfl (PureOp.move rfl) ?_
  refine SQ.gpure (c := 2) rfl rfl rfl rfl rfl rfl rfl (PureOp.nilCheckp rfl) ?_
  refine SQ.gpure (c := 2) rfl rfl rfl rfl rfl rfl rfl (PureOp.fieldAddrT 2 Try.underlying67 rfl sz29 rfl rfl) ?_
  refine SQ.gpure (c := 2) rfl rfl rfl rfl rfl rfl rfl (PureOp.load (v := .slice (some ⟨cb, 0, none⟩) nu nu) Try.underlying29 rfl rfl (fun _ => (CellIs.cells 0 rfl rfl))) ?_
  refine SQ.gpure (c := 2) rfl rfl rfl rfl rfl rfl rfl (PureOp.fieldAddrT 1 Try.underlying61 rfl sz3 rfl rfl) ?_
  refine SQ.gpure (c := 2) rfl rfl rfl rfl rfl rfl rfl (PureOp.load (v := .int .i64 ((nth l i).2.1)) Try.underlying3 rfl rfl (fun _ => (CellIs.cells 5 rfl rfl))) ?_
  refine SQ.gpure (c := 2) rfl rfl rfl rfl rfl rfl rfl (PureOp.indexAddr Try.underlying29 sz3 rfl rfl AoOk.lit (by intro hg; simp [gval] at hg; omega)) ?_
  refine SQ.gpure (c := 2) rfl rfl rfl rfl rfl rfl rfl (PureOp.load (v := .int .i64 (nth c (((nth l i).2.1).toNat))) Try.underlying3 rfl rfl (by intro hg; simp [gval] at hg; exact (CellIs.ownc 1 rfl (((nth l i).2.1).toNat) 0 (by exact encI_get (by first | omega | (rw [hc.len]; omega) | (rw [hla]; omega)))))) ?_
  refine SQ.gpure (c := 2) rfl rfl rfl rfl rfl rfl rfl (PureOp.geq rfl rfl) ?_
  refine SQ.pure rfl rfl rfl (PureOp.or_ rfl rfl rfl rfl) ?_
  refine SQ.nil_then ?_
  refine WC.cond rfl (fun h1 => ?_) (fun h1 => ?_)
  · try simp only [Bool.and_eq_true, Bool.or_eq_true, Bool.not_eq_true', Bool.not_eq_false', Bool.and_eq_false_iff, Bool.or_eq_false_iff, decide_eq_true_eq, decide_eq_false_iff_not, Int.not_lt, Int.not_le, ne_eq, Decidable.not_not] at h1
    refine WC.seq ?_
    refine WC.region ?_
    refine SL.pure rfl rfl rfl (PureOp.assign rfl) ?_
    refine SL.nil_then ?_
    refine WC.ret ?_
    refine QX.ret_then ?_
    refine QX.body1 rfl rfl ?_
    intro w hw
    have e : fwC l f c i = false := by rw [fwC, Bool.and_eq_false_iff, Bool.and_eq_false_iff, decide_eq_false_iff_not, decide_eq_false_iff_not, decide_eq_false_iff_not]; omega
    refine ⟨(), by rw [e], trivial, ?_⟩
    rw [fwS, fwL, if_neg (by rw [e]; decide), if_neg (by rw [e]; decide)]
    exact HeapOk.pick [0, 1, 2, 3, 4] (by decide) hw
  · try simp only [Bool.and_eq_true, Bool.or_eq_true, Bool.not_eq_true', Bool.not_eq_false', Bool.and_eq_false_iff, Bool.or_eq_false_iff, decide_eq_true_eq, decide_eq_false_iff_not, Int.not_lt, Int.not_le, ne_eq, Decidable.not_not] at h1
    refine WC.skip ?_
    refine QX.then_ ?_
    refine WC.seq ?_
    refine WC.drawh ([Item.cells b [.slice ea m ec, .slice fa q fc, .slice (some ⟨cb, 0, none⟩) nu nu, .slice (some ⟨lb, 0, none⟩) nu nu] 67, Item.triv, Item.triv, Item.own w0.heap.size fa q fc 3 1 (cellsOf encI f), X, Item.cells b1 [.int .i64 ((nth l i).1), .int .i64 ((nth l i).2.1), .int .i64 ((nth l i).2.2.1), .int .i64 ((nth l i).2.2.2)] 61]) 28 [false, false, false, false, false, false, false, false, false, false, false, false, false, false, false, false, false, false, false, false, false, false, false, false, false, false, false, false] rfl rfl rfl ?_
    refine SD.take 0 [true, false, false, false, false, false, false, false, false, false, false, false, false, false, false, false, false, false, false, false, false, false, false, false, false, false, false, false] rfl (by kernel_rfl) rfl (fun _ h => (HeapOk.settriv (HeapOk.settriv h (i := 1) rfl) (i := 2) rfl)) rfl rfl rfl (PureOp.move rfl) ?_
    refine SD.take 1 [true, true, false, false, false, false, false, false, false, false, false, false, false, false, false, false, false, false, false, false, false, false, false, false, false, false, false, false] rfl (by kernel_rfl) rfl (fun _ h => (HeapOk.settriv (HeapOk.settriv h (i := 1) rfl) (i := 2) rfl)) rfl rfl rfl (PureOp.nilCheckp rfl) ?_
    refine SD.take 2 [true, true, true, false, false, false, false, false, false, false, false, false, false, false, false, false, false, false, false, false, false, false, false, false, false, false, false, false] rfl (by kernel_rfl) rfl (fun _ h => (HeapOk.settriv (HeapOk.settriv h (i := 1) rfl) (i := 2) rfl)) rfl rfl rfl (PureOp.fieldAddrT 2 Try.underlying67 rfl sz29 rfl rfl) ?_
    refine SD.take 3 [true, true, true, true, false, false, false, false, false, false, false, false, false, false, false, false, false, false, false, false, false, false, false, false, false, false, false, false] rfl (by kernel_rfl) rfl (fun _ h => (HeapOk.settriv (HeapOk.settriv h (i := 1) rfl) (i := 2) rfl)) rfl rfl rfl (PureOp.load (v := .slice (some ⟨cb, 0, none⟩) nu nu) Try.underlying29 rfl rfl (fun _ => (CellIs.cells 0 rfl rfl))) ?_
    refine SD.take 4 [true, true, true, true, true, false, false, false, false, false, false, false, false, false, false, false, false, false, false, false, false, false, false, false, false, false, false, false] rfl (by kernel_rfl) rfl (fun _ h => (HeapOk.settriv (HeapOk.settriv h (i := 1) rfl) (i := 2) rfl)) rfl rfl rfl (PureOp.fieldAddrT 1 Try.underlying61 rfl sz3 rfl rfl) ?_
    refine SD.take 5 [true, true, true, true, true, true, false, false, false, false, false, false, false, false, false, false, false, false, false, false, false, false, false, false, false, false, false, false] rfl (by kernel_rfl) rfl (fun _ h => (HeapOk.settriv (HeapOk.settriv h (i := 1) rfl) (i := 2) rfl)) rfl rfl rfl (PureOp.load (v := .int .i64 ((nth l i).2.1)) Try.underlying3 rfl rfl (fun _ => (CellIs.cells 5 rfl rfl))) ?_
    refine SD.take 6 [true, true, true, true, true, true, true, false, false, false, false, false, false, false, false, false, false, false, false, false, false, false, false, false, false, false, false, false] rfl (by kernel_rfl) rfl (fun _ h => (HeapOk.settriv (HeapOk.settriv h (i := 1) rfl) (i := 2) rfl)) rfl rfl rfl (PureOp.move rfl) ?_
    refine SD.take 7 [true, true, true, true, true, true, true, true, false, false, false, false, false, false, false, false, false, false, false, false, false, false, false, false, false, false, false, false] rfl (by kernel_rfl) rfl (fun _ h => (HeapOk.settriv (HeapOk.settriv h (i := 1) rfl) (i := 2) rfl)) rfl rfl rfl (PureOp.nilCheckp rfl) ?_
    refine SD.take 8 [true, true, true, true, true, true, true, true, true, false, false, false, false, false, false, false, false, false, false, false, false, false, false, false, false, false, false, false] rfl (by kernel_rfl) rfl (fun _ h => (HeapOk.settriv (HeapOk.settriv h (i := 1) rfl) (i := 2) rfl)) rfl rfl rfl (PureOp.fieldAddrT 3 Try.underlying67 rfl sz29 rfl rfl) ?_
    refine SD.take 9 [true, true, true, true, true, true, true, true, true, true, false, false, false, false, false, false, false, false, false, false, false, false, false, false, false, false, false, false] rfl (by kernel_rfl) rfl (fun _ h => (HeapOk.settriv (HeapOk.settriv h (i := 1) rfl) (i := 2) rfl)) rfl rfl rfl (PureOp.load (v := .slice (some ⟨lb, 0, none⟩) nu nu) Try.underlying29 rfl rfl (fun _ => (CellIs.cells 0 rfl rfl))) ?_
    refine SD.take 10 [true, true, true, true, true, true, true, true, true, true, true, false, false, false, false, false, false, false, false, false, false, false, false, false, false, false, false, false] rfl (by kernel_rfl) rfl (fun _ h => (HeapOk.settriv (HeapOk.settriv h (i := 1) rfl) (i := 2) rfl)) rfl rfl rfl (PureOp.fieldAddrT 1 Try.underlying61 rfl sz3 rfl rfl) ?_
    refine SD.take 11 [true, true, true, true, true, true, true, true, true, true, true, true, false, false, false, false, false, false, false, false, false, false, false, false, false, false, false, false] rfl (by kernel_rfl) rfl (fun _ h => (HeapOk.settriv (HeapOk.settriv h (i := 1) rfl) (i := 2) rfl)) rfl rfl rfl (PureOp.load (v := .int .i64 ((nth l i).2.1)) Try.underlying3 rfl rfl (fun _ => (CellIs.cells 5 rfl rfl))) ?_
    refine SD.take 12 [true, true, true, true, true, true, true, true, true, true, true, true, true, false, false, false, false, false, false, false, false, false, false, false, false, false, false, false] rfl (by kernel_rfl) rfl (fun _ h => (HeapOk.settriv (HeapOk.settriv h (i := 1) rfl) (i := 2) rfl)) rfl rfl rfl (PureOp.move rfl) ?_
    refine SD.take 13 [true, true, true, true, true, true, true, true, true, true, true, true, true, true, false, false, false, false, false, false, false, false, false, false, false, false, false, false] rfl (by kernel_rfl) rfl (fun _ h => (HeapOk.settriv (HeapOk.settriv h (i := 1) rfl) (i := 2) rfl)) rfl rfl rfl (PureOp.nilCheckp rfl) ?_
    refine SD.take 14 [true, true, true, true, true, true, true, true, true, true, true, true, true, true, true, false, false, false, false, false, false, false, false, false, false, false, false, false] rfl (by kernel_rfl) rfl (fun _ h => (HeapOk.settriv (HeapOk.settriv h (i := 1) rfl) (i := 2) rfl)) rfl rfl rfl (PureOp.fieldAddrT 2 Try.underlying67 rfl sz29 rfl rfl) ?_
    refine SD.take 15 [true, true, true, true, true, true, true, true, true, true, true, true, true, true, true, true, false, false, false, false, false, false, false, false, false, false, false, false] rfl (by kernel_rfl) rfl (fun _ h => (HeapOk.settriv (HeapOk.settriv h (i := 1) rfl) (i := 2) rfl)) rfl rfl rfl (PureOp.load (v := .slice (some ⟨cb, 0, none⟩) nu nu) Try.underlying29 rfl rfl (fun _ => (CellIs.cells 0 rfl rfl))) ?_
    refine SD.take 16 [true, true, true, true, true, true, true, true, true, true, true, true, true, true, true, true, true, false, false, false, false, false, false, false, false, false, false, false] rfl (by kernel_rfl) rfl (fun _ h => (HeapOk.settriv (HeapOk.settriv h (i := 1) rfl) (i := 2) rfl)) rfl rfl rfl (PureOp.fieldAddrT 0 Try.underlying61 rfl sz3 rfl rfl) ?_
    refine SD.take 17 [true, true, true, true, true, true, true, true, true, true, true, true, true, true, true, true, true, true, false, false, false, false, false, false, false, false, false, false] rfl (by kernel_rfl) rfl (fun _ h => (HeapOk.settriv (HeapOk.settriv h (i := 1) rfl) (i := 2) rfl)) rfl rfl rfl (PureOp.load (v := .int .i64 ((nth l i).1)) Try.underlying3 rfl rfl (fun _ => (CellIs.cells 5 rfl rfl))) ?_
    refine SD.take 18 [true, true, true, true, true, true, true, true, true, true, true, true, true, true, true, true, true, true, true, false, false, false, false, false, false, false, false, false] rfl (by kernel_rfl) rfl (fun _ h => (HeapOk.settriv (HeapOk.settriv h (i := 1) rfl) (i := 2) rfl)) rfl rfl rfl (PureOp.indexAddr Try.underlying29 sz3 rfl rfl AoOk.lit (fun _ => by omega)) ?_
    refine SD.take 20 [true, true, true, true, true, true, true, true, true, true, true, true, true, true, true, true, true, true, true, false, true, false, false, false, false, false, false, false] rfl (by kernel_rfl) rfl (fun _ h => (HeapOk.settriv (HeapOk.settriv h (i := 1) rfl) (i := 2) rfl)) rfl rfl rfl (PureOp.fieldAddrT 3 Try.underlying61 rfl sz3 rfl rfl) ?_
    refine SD.take 21 [true, true, true, true, true, true, true, true, true, true, true, true, true, true, true, true, true, true, true, false, true, true, false, false, false, false, false, false] rfl (by kernel_rfl) rfl (fun _ h => (HeapOk.settriv (HeapOk.settriv h (i := 1) rfl) (i := 2) rfl)) rfl rfl rfl (PureOp.load (v := .int .i64 ((nth l i).2.2.2)) Try.underlying3 rfl rfl (fun _ => (CellIs.cells 5 rfl rfl))) ?_
    refine SD.take 23 [true, true, true, true, true, true, true, true, true, true, true, true, true, true, true, true, true, true, true, false, true, true, false, true, false, false, false, false] rfl (by kernel_rfl) rfl (fun _ h => (HeapOk.settriv (HeapOk.settriv h (i := 1) rfl) (i := 2) rfl)) rfl rfl rfl (PureOp.move rfl) ?_
    refine SD.one 19 [true, true, true, true, true, true, true, true, true, true, true, true, true, true, true, true, true, true, true, true, true, true, false, true, false, false, false, false] (by kernel_rfl) rfl rfl ?_
    refine SL.pure rfl rfl rfl (PureOp.load (v := .int .i64 (nth c (((nth l i).1).toNat))) Try.underlying3 rfl rfl (fun _ => (CellIs.ownc 1 rfl (((nth l i).1).toNat) 0 (by exact encI_get (by first | omega | (rw [hc.len]; omega) | (rw [hla]; omega)))))) ?_
    refine SD.back (fun _ h => (HeapOk.settriv (HeapOk.settriv h (i := 1) rfl) (i := 2) rfl)) ?_
    refine SD.take 22 [true, true, true, true, true, true, true, true, true, true, true, true, true, true, true, true, true, true, true, true, true, true, true, true, false, false, false, false] rfl (by kernel_rfl) rfl (fun _ h => (HeapOk.settriv (HeapOk.settriv h (i := 1) rfl) (i := 2) rfl)) rfl rfl rfl (PureOp.add rfl rfl (fun _ => by omega)) ?_
    refine SD.take 24 [true, true, true, true, true, true, true, true, true, true, true, true, true, true, true, true, true, true, true, true, true, true, true, true, true, false, false, false] rfl (by kernel_rfl) rfl (fun _ h => (HeapOk.settriv (HeapOk.settriv h (i := 1) rfl) (i := 2) rfl)) rfl rfl rfl (PureOp.indexAddr Try.underlying29 sz3 rfl rfl AoOk.lit (fun _ => by omega)) ?_
    refine SD.one 25 [true, true, true, true, true, true, true, true, true, true, true, true, true, true, true, true, true, true, true, true, true, true, true, true, true, true, false, false] (by kernel_rfl) rfl rfl ?_
    refine SL.storeown (k := (((nth l i).2.1).toNat)) (j := 0) 1 rfl rfl rfl rfl sz3 (by rw [cellsOf_length encI_len]; omega) rfl ?_
    refine SL.itemxs 1 rfl (show _ = cellsOf encI (c.set ((nth l i).2.1.toNat) (nth c (nth l i).1.toNat + (nth l i).2.2.2)) from encI_set (by omega)) ?_
    refine SL.norm [_, _, _, _, _, _] rfl ?_
    refine SD.back (fun _ h => (HeapOk.settriv (HeapOk.settriv h (i := 1) rfl) (i := 2) rfl)) ?_
    refine SD.take 26 [true, true, true, true, true, true, true, true, true, true, true, true, true, true, true, true, true, true, true, true, true, true, true, true, true, true, true, false] rfl (by kernel_rfl) rfl (fun _ h => (HeapOk.settriv (HeapOk.settriv h (i := 1) rfl) (i := 2) rfl)) rfl rfl rfl (PureOp.indexAddr Try.underlying29 sz3 rfl rfl AoOk.lit (fun _ => by omega)) ?_
    refine SD.one 27 [true, true, true, true, true, true, true, true, true, true, true, true, true, true, true, true, true, true, true, true, true, true, true, true, true, true, true, true] (by kernel_rfl) rfl rfl ?_
    refine SL.storeown (k := (((nth l i).2.1).toNat)) (j := 0) 2 rfl rfl rfl rfl sz3 (by rw [cellsOf_length encI_len]; omega) rfl ?_
    refine SL.itemxs 2 rfl (show _ = cellsOf encI (la.set ((nth l i).2.1.toNat) (i : Int)) from encI_set (by omega)) ?_
    refine SL.norm [_, _, _, _, _, _] rfl ?_
    refine SD.back (fun _ h => (HeapOk.settriv (HeapOk.settriv h (i := 1) rfl) (i := 2) rfl)) ?_
    refine SD.done (by kernel_rfl) ?_
    refine QX.ofK ?_
    refine QX.then_ ?_
    refine WC.seq ?_
    refine WC.region ?_
    refine SL.pure rfl rfl rfl (PureOp.assign rfl) ?_
    refine SL.nil_then ?_
    refine WC.ret ?_
    refine QX.body1 rfl rfl ?_
    intro w hw
    have e : fwC l f c i = true := by rw [fwC, Bool.and_eq_true, Bool.and_eq_true, decide_eq_true_iff, decide_eq_true_iff, decide_eq_true_iff]; omega
    refine ⟨(), by rw [e], trivial, ?_⟩
    rw [fwS, fwL, if_pos e, if_pos e]
    exact HeapOk.pick [0, 1, 2, 3, 4] (by decide) hw

set_option maxHeartbeats 4000000 in
set_option maxRecDepth 100000 in
theorem bwo_ok (b nu : Nat) (l : List Ed) (ea : Option Addr) (m ec : Nat) (hm : m = l.length) (hmb : m ≤ 2048) (f : List Int) (fa : Option Addr) (q fc : Nat) (hq : q = f.length) (hqm : q = m) (c la : List Int) (cb lb : Nat) (lo : Int) (hE : EdOk nu l) (hc : Bd nu lo c) (hla : la.length = nu) (hlo : -1152921504606846976 ≤ lo) (hn : nu ≤ 128) (i : Nat) (hi : i < m) (w0 : World) (sE : SliceIn w0 4 ea m ec (rowsF encEd l)) : MC Try.prog 55 [.pointer (some ⟨b, 0, none⟩), .int .i64 ((i : Nat) : Int)] w0 [Item.cells b [.slice ea m ec, .slice fa q fc, .slice (some ⟨cb, 0, none⟩) nu nu, .slice (some ⟨lb, 0, none⟩) nu nu] 67, Item.own w0.heap.size (some ⟨cb, 0, none⟩) nu nu 3 1 (cellsOf encI c), Item.own w0.heap.size (some ⟨lb, 0, none⟩) nu nu 3 1 (cellsOf encI la), Item.own w0.heap.size fa q fc 3 1 (cellsOf encI f)] (fun _ : Unit => .bool (bwC l f c i)) (fun _ => [Item.cells b [.slice ea m ec, .slice fa q fc, .slice (some ⟨cb, 0, none⟩) nu nu, .slice (some ⟨lb, 0, none⟩) nu nu] 67, Item.own w0.heap.size (some ⟨cb, 0, none⟩) nu nu 3 1 (cellsOf encI (bwS l f i c)), Item.own w0.heap.size (some ⟨lb, 0, none⟩) nu nu 3 1 (cellsOf encI (bwL l f i c la)), Item.own w0.heap.size fa q fc 3 1 (cellsOf encI f)]) (fun _ => True) (fun _ => []) := by
  have hEi := hE i (by omega)
  have hc1 := hc.bd (nth l i).1.toNat (by omega)
  have hc2 := hc.bd (nth l i).2.1.toNat (by omega)
  have hcl := hc.len
  refine mcalls (N := 80) Try.func55 rfl rfl rfl ?_
  intro X
  show WC _ _ _ _ _ _ _ [Item.cells b [.slice ea m ec, .slice fa q fc, .slice (some ⟨cb, 0, none⟩) nu nu, .slice (some ⟨lb, 0, none⟩) nu nu] 67, Item.own w0.heap.size (some ⟨cb, 0, none⟩) nu nu 3 1 (cellsOf encI c), Item.own w0.heap.size (some ⟨lb, 0, none⟩) nu nu 3 1 (cellsOf encI la), Item.own w0.heap.size fa q fc 3 1 (cellsOf encI f), X]
  refine WC.seq ?_
  refine WC.region ?_
  refine SL.pure rfl rfl rfl (PureOp.assign rfl) ?_
  refine SL.nil_then ?_
  refine WC.seq ?_
  refine WC.region ?_
  refine SL.pure rfl rfl rfl (PureOp.move rfl) ?_
  refine SL.pure rfl rfl rfl (PureOp.nilCheckp rfl) ?_
  refine SL.pure rfl rfl rfl (PureOp.fieldAddrT 0 Try.underlying67 rfl sz22 rfl rfl) ?_
  refine SL.pure rfl rfl rfl (PureOp.load (v := .slice ea m ec) Try.underlying22 rfl rfl (fun _ => (CellIs.cells 0 rfl rfl))) ?_
  refine SL.pure rfl rfl rfl (PureOp.move rfl) ?_
  refine SL.pure rfl rfl rfl (PureOp.indexAddrN Try.underlying22 sz61 rfl rfl (AoOk.in_ sE) (fun _ => by omega)) ?_
  refine SL.pure rfl rfl rfl (PureOp.loads (vs := [.int .i64 ((nth l i).1), .int .i64 ((nth l i).2.1), .int .i64 ((nth l i).2.2.1), .int .i64 ((nth l i).2.2.2)]) Try.underlying61 rfl rfl (fun _ => (RowIs.in_ sE i 0 4 (by omega) (by omega))) sz61) ?_
  refine SL.alloc rfl rfl zero61 (fun b1 hb1 => ?_)
  refine SL.norm [_, _, _, _, _, _] rfl ?_
  refine SL.store 5 rfl rfl rfl rfl sz61 rfl rfl ?_
  refine SL.norm [_, _, _, _, _, _] rfl ?_
  refine SL.nil_then ?_
  refine WC.seq ?_
  refine WC.seq ?_
  refine WC.quiet rfl (by kernel_rfl) ?_
  refine SQ.pure rfl rfl rfl (PureOp.move rfl) ?_
  refine SQ.pure rfl rfl rfl (PureOp.nilCheckp rfl) ?_
  refine SQ.pure rfl rfl rfl (PureOp.fieldAddrT 1 Try.underlying67 rfl sz29 rfl rfl) ?_
  refine SQ.pure rfl rfl rfl (PureOp.load (v := .slice fa q fc) Try.underlying29 rfl rfl (fun _ => (CellIs.cells 0 rfl rfl))) ?_
  refine SQ.pure rfl rfl rfl (PureOp.move rfl) ?_
  refine SQ.pure rfl rfl rfl (PureOp.indexAddrN Try.underlying29 sz3 rfl rfl (AoOk.own 3 rfl) (fun _ => by omega)) ?_
  refine SQ.pure rfl rfl rfl (PureOp.load (v := .int .i64 (nth f i)) Try.underlying3 rfl rfl (fun _ => (CellIs.ownc 3 rfl i 0 (by exact encI_get (by first | omega | (rw [hc.len]; omega) | (rw [hla]; omega)))))) ?_
  refine SQ.pure rfl rfl rfl (PureOp.leq rfl rfl) ?_
  refine SQ.pure rfl rfl rfl (PureOp.move rfl) ?_
  refine SQ.newg 21 false rfl ?_
  refine SQ.gpure (c := 1) rfl rfl rfl rfl rfl rfl rfl (PureOp.move rfl) ?_
  refine SQ.gpure (c := 1) rfl rfl rfl rfl rfl rfl rfl (PureOp.nilCheckp rfl) ?_
  refine SQ.gpure (c := 1) rfl rfl rfl rfl rfl rfl rfl (PureOp.fieldAddrT 2 Try.underlying67 rfl sz29 rfl rfl) ?_
  refine SQ.gpure (c := 1) rfl rfl rfl rfl rfl rfl rfl (PureOp.load (v := .slice (some ⟨cb, 0, none⟩) nu nu) Try.underlying29 rfl rfl (fun _ => (CellIs.cells 0 rfl rfl))) ?_
  refine SQ.gpure (c := 1) rfl rfl rfl rfl rfl rfl rfl (PureOp.fieldAddrT 1 Try.underlying61 rfl sz3 rfl rfl) ?_
  refine SQ.gpure (c := 1) rfl rfl rfl rfl rfl rfl rfl (PureOp.load (v := .int .i64 ((nth l i).2.1)) Try.underlying3 rfl rfl (fun _ => (CellIs.cells 5 rfl rfl))) ?_
  refine SQ.gpure (c := 1) rfl rfl rfl rfl rfl rfl rfl (PureOp.indexAddr Try.underlying29 sz3 rfl rfl AoOk.lit (by intro hg; simp [gval] at hg; omega)) ?_
  refine SQ.gpure (c := 1) rfl rfl rfl rfl rfl rfl rfl (PureOp.load (v := .int .i64 (nth c (((nth l i).2.1).toNat))) Try.underlying3 rfl rfl (by intro hg; simp [gval] at hg; exact (CellIs.ownc 1 rfl (((nth l i).2.1).toNat) 0 (by exact encI_get (by first | omega | (rw [hc.len]; omega) | (rw [hla]; omega)))))) ?_
  refine SQ.gpure (c := 1) rfl rfl rfl rfl rfl rfl rfl (PureOp.eql rfl rfl) ?_
  refine SQ.pure rfl rfl rfl (PureOp.or_ rfl rfl rfl rfl) ?_
  refine SQ.pure rfl rfl rfl (PureOp.move rfl) ?_
  refine SQ.newg 32 false rfl ?_
  refine SQ.gpure (c := 2) rfl rfl rfl rfl rfl rfl rfl (PureOp.move rfl) ?_
  refine SQ.gpure (c := 2) rfl rfl rfl rfl rfl rfl rfl (PureOp.nilCheckp rfl) ?_
  refine SQ.gpure (c := 2) rfl rfl rfl rfl rfl rfl rfl (PureOp.fieldAddrT 2 Try.underlying67 rfl sz29 rfl rfl) ?_
  refine SQ.gpure (c := 2) rfl rfl rfl rfl rfl rfl rfl (PureOp.load (v := .slice (some ⟨cb, 0, none⟩) nu nu) Try.underlying29 rfl rfl (fun _ => (CellIs.cells 0 rfl rfl))) ?_
  refine SQ.gpure (c := 2) rfl rfl rfl rfl rfl rfl rfl (PureOp.fieldAddrT 1 Try.underlying61 rfl sz3 rfl rfl) ?_
  refine SQ.gpure (c := 2) rfl rfl rfl rfl rfl rfl rfl (PureOp.load (v := .int .i64 ((nth l i).2.1)) Try.underlying3 rfl rfl (fun _ => (CellIs.cells 5 rfl rfl))) ?_
  refine SQ.gpure (c := 2) rfl rfl rfl rfl rfl rfl rfl (PureOp.indexAddr Try.underlying29 sz3 rfl rfl AoOk.lit (by intro hg; simp [gval] at hg; omega)) ?_
  refine SQ.gpure (c := 2) rfl rfl rfl rfl rfl rfl rfl (PureOp.load (v := .int .i64 (nth c (((nth l i).2.1).toNat))) Try.underlying3 rfl rfl (by intro hg; simp [gval] at hg; exact (CellIs.ownc 1 rfl (((nth l i).2.1).toNat) 0 (by exact encI_get (by first | omega | (rw [hc.len]; omega) | (rw [hla]; omega)))))) ?_
  refine SQ.gpure (c := 2) rfl rfl rfl rfl rfl rfl rfl (PureOp.fieldAddrT 3 Try.underlying61 rfl sz3 rfl rfl) ?_
  refine SQ.gpure (c := 2) rfl rfl rfl rfl rfl rfl rfl (PureOp.load (v := .int .i64 ((nth l i).2.2.2)) Try.underlying3 rfl rfl (fun _ => (CellIs.cells 5 rfl rfl))) ?_
  refine SQ.gpure (c := 2) rfl rfl rfl rfl rfl rfl rfl (PureOp.sub rfl rfl (by intro hg; simp [gval] at hg; omega)) ?_
  refine SQ.gpure (c := 2) rfl rfl rfl rfl rfl rfl rfl (PureOp.move rfl) ?_
  refine SQ.gpure (c := 2) rfl rfl rfl rfl rfl rfl rfl (PureOp.nilCheckp rfl) ?_
  refine SQ.gpure (c := 2) rfl rfl rfl rfl rfl rfl rfl (PureOp.fieldAddrT 2 Try.underlying67 rfl sz29 rfl rfl) ?_
  refine SQ.gpure (c := 2) rfl rfl rfl rfl rfl rfl rfl (PureOp.load (v := .slice (some ⟨cb, 0, none⟩) nu nu) Try.underlying29 rfl rfl (fun _ => (CellIs.cells 0 rfl rfl))) ?_
  refine SQ.gpure (c := 2) rfl rfl rfl rfl rfl rfl rfl (PureOp.fieldAddrT 0 Try.underlying61 rfl sz3 rfl rfl) ?_
  refine SQ.gpure (c := 2) rfl rfl rfl rfl rfl rfl rfl (PureOp.load (v := .int .i64 ((nth l i).1)) Try.underlying3 rfl rfl (fun _ => (CellIs.cells 5 rfl rfl))) ?_
  refine SQ.gpure (c := 2) rfl rfl rfl rfl rfl rfl rfl (PureOp.indexAddr Try.underlying29 sz3 rfl rfl AoOk.lit (by intro hg; simp [gval] at hg; omega)) ?_
  refine SQ.gpure (c := 2) rfl rfl rfl rfl rfl rfl rfl (PureOp.load (v := .int .i64 (nth c (((nth l i).1).toNat))) Try.underlying3 rfl rfl (by intro hg; simp [gval] at hg; exact (CellIs.ownc 1 rfl (((nth l i).1).toNat) 0 (by exact encI_get (by first | omega | (rw [hc.len]; omega) | (rw [hla]; omega)))))) ?_
  refine SQ.gpure (c := 2) rfl rfl rfl rfl rfl rfl rfl (PureOp.geq rfl rfl) ?_
  refine SQ.pure rfl rfl rfl (PureOp.or_ rfl rfl rfl rfl) ?_
  refine SQ.nil_then ?_
  refine WC.cond rfl (fun h1 => ?_) (fun h1 => ?_)
  · try simp only [Bool.and_eq_true, Bool.or_eq_true, Bool.not_eq_true', Bool.not_eq_false', Bool.and_eq_false_iff, Bool.or_eq_false_iff, decide_eq_true_eq, decide_eq_false_iff_not, Int.not_lt, Int.not_le, ne_eq, Decidable.not_not] at h1
    refine WC.seq ?_
    refine WC.region ?_
    refine SL.pure rfl rfl rfl (PureOp.assign rfl) ?_
    refine SL.nil_then ?_
    refine WC.ret ?_
    refine QX.ret_then ?_
    refine QX.body1 rfl rfl ?_
    intro w hw
    have e : bwC l f c i = false := by rw [bwC, Bool.and_eq_false_iff, Bool.and_eq_false_iff, decide_eq_false_iff_not, decide_eq_false_iff_not, decide_eq_false_iff_not]; omega
    refine ⟨(), by rw [e], trivial, ?_⟩
    rw [bwS, bwL, if_neg (by rw [e]; decide), if_neg (by rw [e]; decide)]
    exact HeapOk.pick [0, 1, 2, 3, 4] (by decide) hw
  · try simp only [Bool.and_eq_true, Bool.or_eq_true, Bool.not_eq_true', Bool.not_eq_false', Bool.and_eq_false_iff, Bool.or_eq_false_iff, decide_eq_true_eq, decide_eq_false_iff_not, Int.not_lt, Int.not_le, ne_eq, Decidable.not_not] at h1
    refine WC.skip ?_
    refine QX.then_ ?_
    refine WC.seq ?_
    refine WC.drawh ([Item.cells b [.slice ea m ec, .slice fa q fc, .slice (some ⟨cb, 0, none⟩) nu nu, .slice (some ⟨lb, 0, none⟩) nu nu] 67, Item.triv, Item.triv, Item.own w0.heap.size fa q fc 3 1 (cellsOf encI f), X, Item.cells b1 [.int .i64 ((nth l i).1), .int .i64 ((nth l i).2.1), .int .i64 ((nth l i).2.2.1), .int .i64 ((nth l i).2.2.2)] 61]) 28 [false, false, false, false, false, false, false, false, false, false, false, false, false, false, false, false, false, false, false, false, false, false, false, false, false, false, false, false] rfl rfl rfl ?_
    refine SD.take 0 [true, false, false, false, false, false, false, false, false, false, false, false, false, false, false, false, false, false, false, false, false, false, false, false, false, false, false, false] rfl (by kernel_rfl) rfl (fun _ h => (HeapOk.settriv (HeapOk.settriv h (i := 1) rfl) (i := 2) rfl)) rfl rfl rfl (PureOp.move rfl) ?_
    refine SD.take 1 [true, true, false, false, false, false, false, false, false, false, false, false, false, false, false, false, false, false, false, false, false, false, false, false, false, false, false, false] rfl (by kernel_rfl) rfl (fun _ h => (HeapOk.settriv (HeapOk.settriv h (i := 1) rfl) (i := 2) rfl)) rfl rfl rfl (PureOp.nilCheckp rfl) ?_
    refine SD.take 2 [true, true, true, false, false, false, false, false, false, false, false, false, false, false, false, false, false, false, false, false, false, false, false, false, false, false, false, false] rfl (by kernel_rfl) rfl (fun _ h => (HeapOk.settriv (HeapOk.settriv h (i := 1) rfl) (i := 2) rfl)) rfl rfl rfl (PureOp.fieldAddrT 2 Try.underlying67 rfl sz29 rfl rfl) ?_
    refine SD.take 3 [true, true, true, true, false, false, false, false, false, false, false, false, false, false, false, false, false, false, false, false, false, false, false, false, false, false, false, false] rfl (by kernel_rfl) rfl (fun _ h => (HeapOk.settriv (HeapOk.settriv h (i := 1) rfl) (i := 2) rfl)) rfl rfl rfl (PureOp.load (v := .slice (some ⟨cb, 0, none⟩) nu nu) Try.underlying29 rfl rfl (fun _ => (CellIs.cells 0 rfl rfl))) ?_
    refine SD.take 4 [true, true, true, true, true, false, false, false, false, false, false, false, false, false, false, false, false, false, false, false, false, false, false, false, false, false, false, false] rfl (by kernel_rfl) rfl (fun _ h => (HeapOk.settriv (HeapOk.settriv h (i := 1) rfl) (i := 2) rfl)) rfl rfl rfl (PureOp.fieldAddrT 0 Try.underlying61 rfl sz3 rfl rfl) ?_
    refine SD.take 5 [true, true, true, true, true, true, false, false, false, false, false, false, false, false, false, false, false, false, false, false, false, false, false, false, false, false, false, false] rfl (by kernel_rfl) rfl (fun _ h => (HeapOk.settriv (HeapOk.settriv h (i := 1) rfl) (i := 2) rfl)) rfl rfl rfl (PureOp.load (v := .int .i64 ((nth l i).1)) Try.underlying3 rfl rfl (fun _ => (CellIs.cells 5 rfl rfl))) ?_
    refine SD.take 6 [true, true, true, true, true, true, true, false, false, false, false, false, false, false, false, false, false, false, false, false, false, false, false, false, false, false, false, false] rfl (by kernel_rfl) rfl (fun _ h => (HeapOk.settriv (HeapOk.settriv h (i := 1) rfl) (i := 2) rfl)) rfl rfl rfl (PureOp.move rfl) ?_
    refine SD.take 7 [true, true, true, true, true, true, true, true, false, false, false, false, false, false, false, false, false, false, false, false, false, false, false, false, false, false, false, false] rfl (by kernel_rfl) rfl (fun _ h => (HeapOk.settriv (HeapOk.settriv h (i := 1) rfl) (i := 2) rfl)) rfl rfl rfl (PureOp.nilCheckp rfl) ?_
    refine SD.take 8 [true, true, true, true, true, true, true, true, true, false, false, false, false, false, false, false, false, false, false, false, false, false, false, false, false, false, false, false] rfl (by kernel_rfl) rfl (fun _ h => (HeapOk.settriv (HeapOk.settriv h (i := 1) rfl) (i := 2) rfl)) rfl rfl rfl (PureOp.fieldAddrT 3 Try.underlying67 rfl sz29 rfl rfl) ?_
    refine SD.take 9 [true, true, true, true, true, true, true, true, true, true, false, false, false, false, false, false, false, false, false, false, false, false, false, false, false, false, false, false] rfl (by kernel_rfl) rfl (fun _ h => (HeapOk.settriv (HeapOk.settriv h (i := 1) rfl) (i := 2) rfl)) rfl rfl rfl (PureOp.load (v := .slice (some ⟨lb, 0, none⟩) nu nu) Try.underlying29 rfl rfl (fun _ => (CellIs.cells 0 rfl rfl))) ?_
    refine SD.take 10 [true, true, true, true, true, true, true, true, true, true, true, false, false, false, false, false, false, false, false, false, false, false, false, false, false, false, false, false] rfl (by kernel_rfl) rfl (fun _ h => (HeapOk.settriv (HeapOk.settriv h (i := 1) rfl) (i := 2) rfl)) rfl rfl rfl (PureOp.fieldAddrT 0 Try.underlying61 rfl sz3 rfl rfl) ?_
    refine SD.take 11 [true, true, true, true, true, true, true, true, true, true, true, true, false, false, false, false, false, false, false, false, false, false, false, false, false, false, false, false] rfl (by kernel_rfl) rfl (fun _ h => (HeapOk.settriv (HeapOk.settriv h (i := 1) rfl) (i := 2) rfl)) rfl rfl rfl (PureOp.load (v := .int .i64 ((nth l i).1)) Try.underlying3 rfl rfl (fun _ => (CellIs.cells 5 rfl rfl))) ?_
    refine SD.take 12 [true, true, true, true, true, true, true, true, true, true, true, true, true, false, false, false, false, false, false, false, false, false, false, false, false, false, false, false] rfl (by kernel_rfl) rfl (fun _ h => (HeapOk.settriv (HeapOk.settriv h (i := 1) rfl) (i := 2) rfl)) rfl rfl rfl (PureOp.move rfl) ?_
    refine SD.take 13 [true, true, true, true, true, true, true, true, true, true, true, true, true, true, false, false, false, false, false, false, false, false, false, false, false, false, false, false] rfl (by kernel_rfl) rfl (fun _ h => (HeapOk.settriv (HeapOk.settriv h (i := 1) rfl) (i := 2) rfl)) rfl rfl rfl (PureOp.nilCheckp rfl) ?_
    refine SD.take 14 [true, true, true, true, true, true, true, true, true, true, true, true, true, true, true, false, false, false, false, false, false, false, false, false, false, false, false, false] rfl (by kernel_rfl) rfl (fun _ h => (HeapOk.settriv (HeapOk.settriv h (i := 1) rfl) (i := 2) rfl)) rfl rfl rfl (PureOp.fieldAddrT 2 Try.underlying67 rfl sz29 rfl rfl) ?_
    refine SD.take 15 [true, true, true, true, true, true, true, true, true, true, true, true, true, true, true, true, false, false, false, false, false, false, false, false, false, false, false, false] rfl (by kernel_rfl) rfl (fun _ h => (HeapOk.settriv (HeapOk.settriv h (i := 1) rfl) (i := 2) rfl)) rfl rfl rfl (PureOp.load (v := .slice (some ⟨cb, 0, none⟩) nu nu) Try.underlying29 rfl rfl (fun _ => (CellIs.cells 0 rfl rfl))) ?_
    refine SD.take 16 [true, true, true, true, true, true, true, true, true, true, true, true, true, true, true, true, true, false, false, false, false, false, false, false, false, false, false, false] rfl (by kernel_rfl) rfl (fun _ h => (HeapOk.settriv (HeapOk.settriv h (i := 1) rfl) (i := 2) rfl)) rfl rfl rfl (PureOp.fieldAddrT 1 Try.underlying61 rfl sz3 rfl rfl) ?_
    refine SD.take 17 [true, true, true, true, true, true, true, true, true, true, true, true, true, true, true, true, true, true, false, false, false, false, false, false, false, false, false, false] rfl (by kernel_rfl) rfl (fun _ h => (HeapOk.settriv (HeapOk.settriv h (i := 1) rfl) (i := 2) rfl)) rfl rfl rfl (PureOp.load (v := .int .i64 ((nth l i).2.1)) Try.underlying3 rfl rfl (fun _ => (CellIs.cells 5 rfl rfl))) ?_
    refine SD.take 18 [true, true, true, true, true, true, true, true, true, true, true, true, true, true, true, true, true, true, true, false, false, false, false, false, false, false, false, false] rfl (by kernel_rfl) rfl (fun _ h => (HeapOk.settriv (HeapOk.settriv h (i := 1) rfl) (i := 2) rfl)) rfl rfl rfl (PureOp.indexAddr Try.underlying29 sz3 rfl rfl AoOk.lit (fun _ => by omega)) ?_
    refine SD.take 20 [true, true, true, true, true, true, true, true, true, true, true, true, true, true, true, true, true, true, true, false, true, false, false, false, false, false, false, false] rfl (by kernel_rfl) rfl (fun _ h => (HeapOk.settriv (HeapOk.settriv h (i := 1) rfl) (i := 2) rfl)) rfl rfl rfl (PureOp.fieldAddrT 3 Try.underlying61 rfl sz3 rfl rfl) ?_
    refine SD.take 21 [true, true, true, true, true, true, true, true, true, true, true, true, true, true, true, true, true, true, true, false, true, true, false, false, false, false, false, false] rfl (by kernel_rfl) rfl (fun _ h => (HeapOk.settriv (HeapOk.settriv h (i := 1) rfl) (i := 2) rfl)) rfl rfl rfl (PureOp.load (v := .int .i64 ((nth l i).2.2.2)) Try.underlying3 rfl rfl (fun _ => (CellIs.cells 5 rfl rfl))) ?_
    refine SD.take 23 [true, true, true, true, true, true, true, true, true, true, true, true, true, true, true, true, true, true, true, false, true, true, false, true, false, false, false, false] rfl (by kernel_rfl) rfl (fun _ h => (HeapOk.settriv (HeapOk.settriv h (i := 1) rfl) (i := 2) rfl)) rfl rfl rfl (PureOp.move rfl) ?_
    refine SD.one 19 [true, true, true, true, true, true, true, true, true, true, true, true, true, true, true, true, true, true, true, true, true, true, false, true, false, false, false, false] (by kernel_rfl) rfl rfl ?_
    refine SL.pure rfl rfl rfl (PureOp.load (v := .int .i64 (nth c (((nth l i).2.1).toNat))) Try.underlying3 rfl rfl (fun _ => (CellIs.ownc 1 rfl (((nth l i).2.1).toNat) 0 (by exact encI_get (by first | omega | (rw [hc.len]; omega) | (rw [hla]; omega)))))) ?_
    refine SD.back (fun _ h => (HeapOk.settriv (HeapOk.settriv h (i := 1) rfl) (i := 2) rfl)) ?_
    refine SD.take 22 [true, true, true, true, true, true, true, true, true, true, true, true, true, true, true, true, true, true, true, true, true, true, true, true, false, false, false, false] rfl (by kernel_rfl) rfl (fun _ h => (HeapOk.settriv (HeapOk.settriv h (i := 1) rfl) (i := 2) rfl)) rfl rfl rfl (PureOp.sub rfl rfl (fun _ => by omega)) ?_
    refine SD.take 24 [true, true, true, true, true, true, true, true, true, true, true, true, true, true, true, true, true, true, true, true, true, true, true, true, true, false, false, false] rfl (by kernel_rfl) rfl (fun _ h => (HeapOk.settriv (HeapOk.settriv h (i := 1) rfl) (i := 2) rfl)) rfl rfl rfl (PureOp.indexAddr Try.underlying29 sz3 rfl rfl AoOk.lit (fun _ => by omega)) ?_
    refine SD.one 25 [true, true, true, true, true, true, true, true, true, true, true, true, true, true, true, true, true, true, true, true, true, true, true, true, true, true, false, false] (by kernel_rfl) rfl rfl ?_
    refine SL.storeown (k := (((nth l i).1).toNat)) (j := 0) 1 rfl rfl rfl rfl sz3 (by rw [cellsOf_length encI_len]; omega) rfl ?_
    refine SL.itemxs 1 rfl (show _ = cellsOf encI (c.set ((nth l i).1.toNat) (nth c (nth l i).2.1.toNat - (nth l i).2.2.2)) from encI_set (by omega)) ?_
    refine SL.norm [_, _, _, _, _, _] rfl ?_
    refine SD.back (fun _ h => (HeapOk.settriv (HeapOk.settriv h (i := 1) rfl) (i := 2) rfl)) ?_
    refine SD.take 26 [true, true, true, true, true, true, true, true, true, true, true, true, true, true, true, true, true, true, true, true, true, true, true, true, true, true, true, false] rfl (by kernel_rfl) rfl (fun _ h => (HeapOk.settriv (HeapOk.settriv h (i := 1) rfl) (i := 2) rfl)) rfl rfl rfl (PureOp.indexAddr Try.underlying29 sz3 rfl rfl AoOk.lit (fun _ => by omega)) ?_
    refine SD.one 27 [true, true, true, true, true, true, true, true, true, true, true, true, true, true, true, true, true, true, true, true, true, true, true, true, true, true, true, true] (by kernel_rfl) rfl rfl ?_
    refine SL.storeown (k := (((nth l i).1).toNat)) (j := 0) 2 rfl rfl rfl rfl sz3 (by rw [cellsOf_length encI_len]; omega) rfl ?_
    refine SL.itemxs 2 rfl (show _ = cellsOf encI (la.set ((nth l i).1.toNat) (i : Int)) from encI_set (by omega)) ?_
    refine SL.norm [_, _, _, _, _, _] rfl ?_
    refine SD.back (fun _ h => (HeapOk.settriv (HeapOk.settriv h (i := 1) rfl) (i := 2) rfl)) ?_
    refine SD.done (by kernel_rfl) ?_
    refine QX.ofK ?_
    refine QX.then_ ?_
    refine WC.seq ?_
    refine WC.region ?_
    refine SL.pure rfl rfl rfl (PureOp.assign rfl) ?_
    refine SL.nil_then ?_
    refine WC.ret ?_
    refine QX.body1 rfl rfl ?_
    intro w hw
    have e : bwC l f c i = true := by rw [bwC, Bool.and_eq_true, Bool.and_eq_true, decide_eq_true_iff, decide_eq_true_iff, decide_eq_true_iff]; omega
    refine ⟨(), by rw [e], trivial, ?_⟩
    rw [bwS, bwL, if_pos e, if_pos e]
    exact HeapOk.pick [0, 1, 2, 3, 4] (by decide) hw

end Go.Proofs.Ytngkbnaehkailaa
