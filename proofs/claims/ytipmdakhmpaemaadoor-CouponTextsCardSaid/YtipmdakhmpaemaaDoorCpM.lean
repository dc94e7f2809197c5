import Derived.Test.YtipmdakhmpaemaaDoorCpB
import Derived.Test.YtipmdakhmpaemaaDoorMore
namespace Go.Proofs.YtipmdakhmpaemaaDoor
open Go Go.RowKit Eng
set_option linter.unusedVariables false
set_option linter.unusedSimpArgs false

set_option maxHeartbeats 4000000 in
set_option maxRecDepth 100000 in
theorem clone_ok (l : List Cp) (ao : Option Addr) (n cap : Nat) (hn : n = l.length) (w0 : World) (hz : SliceIn w0 11 ao n cap (rowsF enc50 l)) (hnb : n ≤ 1000) : FnC Tryd.prog 28 [.slice ao n cap] w0 fun v w' => ∃ a c, v = .slice a n c ∧ w'.ownsRow w0.heap.size 50 11 (.slice a n c) n (cellsOf enc50 l) := by
  refine fnc (N := 8) Tryd.func28 rfl rfl rfl ?_
  refine WC.seq ?_
  refine WC.region ?_
  refine SL.pure rfl rfl rfl (PureOp.assign rfl) ?_
  refine SL.nil_then ?_
  refine WC.seq ?_
  refine WC.seq ?_
  refine WC.region ?_
  refine SL.pure rfl rfl rfl (PureOp.move rfl) ?_
  refine SL.pure rfl rfl rfl (PureOp.eqlnil rfl rfl Tryd.underlying31) ?_
  refine SL.nil_then ?_
  refine WC.cond rfl (fun h1 => ?_) (fun h1 => ?_)
  · try simp only [Bool.and_eq_true, Bool.or_eq_true, Bool.not_eq_true', Bool.not_eq_false', Bool.and_eq_false_iff, Bool.or_eq_false_iff, decide_eq_true_eq, decide_eq_false_iff_not, Int.not_lt, Int.not_le, ne_eq, Decidable.not_not] at h1
    refine WC.seq ?_
    refine WC.region ?_
    refine SL.pure rfl rfl rfl (PureOp.assign rfl) ?_
    refine SL.nil_then ?_
    refine WC.ret ?_
    refine QX.ret_then ?_
    refine QX.ret1 rfl rfl ?_
    intro w hw
    obtain rfl : ao = none := by simpa using h1
    obtain rfl : n = 0 := by rcases hz.there with h | ⟨a, ha, _⟩; exact h; cases ha
    obtain rfl : l = [] := List.eq_nil_of_length_eq_zero hn.symm
    exact ⟨none, 0, rfl, ownsRow_nil⟩
  · try simp only [Bool.and_eq_true, Bool.or_eq_true, Bool.not_eq_true', Bool.not_eq_false', Bool.and_eq_false_iff, Bool.or_eq_false_iff, decide_eq_true_eq, decide_eq_false_iff_not, Int.not_lt, Int.not_le, ne_eq, Decidable.not_not] at h1
    refine WC.skip ?_
    refine QX.then_ ?_
    refine WC.seq ?_
    refine WC.region ?_
    refine SL.buildSlice0 rfl rfl Tryd.underlying31 elem50 (fun b1 hb1 => ?_)
    refine SL.pure rfl rfl rfl (PureOp.move rfl) ?_
    refine SL.append 0 rfl rfl Tryd.underlying31 elem50 rfl rfl rfl rfl (SrcIs.in_ hz enc50_len hn) (by exact all_one_cells (fun x => rfl) l) (by omega) (by omega) (fun ao1_ cap1_ => ?_)
    refine SL.pure rfl rfl rfl (PureOp.assign rfl) ?_
    refine SL.nil_then ?_
    refine WC.ret ?_
    refine QX.ret1 rfl rfl ?_
    intro w hw
    have h := hw.mem (i := 0) rfl
    rw [Nat.zero_add] at h ⊢
    exact ⟨_, _, rfl, h⟩

set_option maxHeartbeats 4000000 in
set_option maxRecDepth 100000 in
theorem move_ok (t : TK) (l : List Cp) (ao : Option Addr) (n cap : Nat) (hn : n = l.length) (w0 : World) (hz : SliceIn w0 11 ao n cap (rowsF enc50 l)) (hnb : n ≤ 1000) (at_ e : Int) : FnC Tryd.prog 17 [.agg (tkv t (.slice ao n cap)).toArray, .int .i64 at_, .int .i64 e] w0 fun v w' => ∃ a c, v = .tuple #[.agg (tkv (tkM t l at_ e) (.slice a (lM l at_ e).length c)).toArray, .int .i64 (errM l at_ e)] ∧ w'.ownsRow w0.heap.size 50 11 (.slice a (lM l at_ e).length c) (lM l at_ e).length (cellsOf enc50 (lM l at_ e)) := by
  refine fnc (N := 46) Tryd.func17 rfl rfl rfl ?_
  refine WC.seq ?_
  refine WC.region ?_
  refine SL.box rfl rfl rfl (fun b1 hb1 => ?_)
  refine SL.alloc rfl rfl zero34 (fun b2 hb2 => ?_)
  refine SL.pure rfl rfl rfl (PureOp.assign rfl) ?_
  refine SL.nil_then ?_
  refine WC.seq ?_
  refine WC.seq ?_
  refine WC.region ?_
  refine SL.pure rfl rfl rfl (PureOp.move rfl) ?_
  refine SL.pure rfl rfl rfl (PureOp.lss rfl rfl) ?_
  refine SL.pure rfl rfl rfl (PureOp.move rfl) ?_
  refine SL.newg 12 false rfl ?_
  refine SL.gpure (c := 1) rfl rfl rfl rfl rfl rfl rfl (PureOp.move rfl) ?_
  refine SL.gpure (c := 1) rfl rfl rfl rfl rfl rfl rfl (PureOp.fieldAddrT 5 Tryd.underlying34 rfl sz31 rfl rfl) ?_
  refine SL.gpure (c := 1) rfl rfl rfl rfl rfl rfl rfl (PureOp.load Tryd.underlying31 rfl rfl (fun _ => (CellIs.cells 0 rfl rfl))) ?_
  refine SL.gpure (c := 1) rfl rfl rfl rfl rfl rfl rfl (PureOp.len rfl Tryd.underlying31) ?_
  refine SL.gpure (c := 1) rfl rfl rfl rfl rfl rfl rfl (PureOp.geq rfl rfl) ?_
  refine SL.pure rfl rfl rfl (PureOp.or_ rfl rfl rfl rfl) ?_
  refine SL.nil_then ?_
  refine WC.cond rfl (fun h1 => ?_) (fun h1 => ?_)
  · try simp only [Bool.and_eq_true, Bool.or_eq_true, Bool.not_eq_true', Bool.not_eq_false', Bool.and_eq_false_iff, Bool.or_eq_false_iff, decide_eq_true_eq, decide_eq_false_iff_not, Int.not_lt, Int.not_le, ne_eq, Decidable.not_not] at h1
    refine WC.seq ?_
    refine WC.region ?_
    refine SL.pure rfl rfl rfl (PureOp.build bld34 rfl rfl) ?_
    refine SL.store 1 rfl rfl rfl rfl sz34 rfl rfl ?_
    refine SL.pure rfl rfl rfl (PureOp.assign rfl) ?_
    refine SL.nil_then ?_
    refine WC.ret ?_
    refine QX.ret_then ?_
    refine QX.retv rfl (RVs.cons (RV.cell rfl Tryd.underlying34 rfl (RowIs.cells 1 0 10 rfl rfl) sz34) (RVs.cons (RV.tmp rfl) RVs.nil)) ?_
    intro w hw
    have q : errM l at_ e = 7 := by rw [errM, if_pos (by omega)]
    have q1 : tkM t l at_ e = tk0 := by rw [tkM, if_neg (by rw [q]; decide)]
    have q2 : lM l at_ e = [] := by rw [lM, if_neg (by rw [q]; decide)]
    rw [q, q1, q2]
    exact ⟨none, 0, rfl, ownsRow_nil⟩
  · try simp only [Bool.and_eq_true, Bool.or_eq_true, Bool.not_eq_true', Bool.not_eq_false', Bool.and_eq_false_iff, Bool.or_eq_false_iff, decide_eq_true_eq, decide_eq_false_iff_not, Int.not_lt, Int.not_le, ne_eq, Decidable.not_not] at h1
    refine WC.skip ?_
    refine QX.then_ ?_
    refine WC.seq ?_
    refine WC.region ?_
    refine SL.pure rfl rfl rfl (PureOp.fieldAddrT 5 Tryd.underlying34 rfl sz31 rfl rfl) ?_
    refine SL.pure rfl rfl rfl (PureOp.load Tryd.underlying31 rfl rfl (fun _ => (CellIs.cells 0 rfl rfl))) ?_
    refine SL.pure rfl rfl rfl (PureOp.move rfl) ?_
    refine SL.pure rfl rfl rfl (PureOp.indexAddr Tryd.underlying31 sz50 rfl rfl (AoOk.in_ hz) (fun _ => by (first | omega | (have q := cellsOf_length enc50_len l; first | omega | (simp only [List.nil_append]; omega))))) ?_
    refine SL.pure rfl rfl rfl (PureOp.fieldAddr 9 Tryd.underlying50 rfl rfl sz3 rfl) ?_
    refine SL.pure rfl rfl rfl (PureOp.load Tryd.underlying3 rfl rfl (fun _ => (CellIs.in_ hz at_.toNat 9 (by omega) (by omega)))) ?_
    refine SL.pure rfl rfl rfl (PureOp.move rfl) ?_
    refine SL.calle rfl rfl rfl rfl rfl rfl callable8 (fun w hw => Next_ok (nth l at_.toNat).2.2.1 e w) ?_
    refine SL.pure rfl rfl rfl (PureOp.move rfl) ?_
    refine SL.pure rfl rfl rfl (PureOp.extract rfl rfl) ?_
    refine SL.pure rfl rfl rfl (PureOp.extract rfl rfl) ?_
    refine SL.pure rfl rfl rfl (PureOp.assign rfl) ?_
    refine SL.pure rfl rfl rfl (PureOp.assign rfl) ?_
    refine SL.nil_then ?_
    refine WC.seq ?_
    refine WC.seq ?_
    refine WC.region ?_
    refine SL.pure rfl rfl rfl (PureOp.move rfl) ?_
    refine SL.pure rfl rfl rfl (PureOp.neq rfl rfl) ?_
    refine SL.nil_then ?_
    refine WC.cond rfl (fun h2 => ?_) (fun h2 => ?_)
    · try simp only [Bool.and_eq_true, Bool.or_eq_true, Bool.not_eq_true', Bool.not_eq_false', Bool.and_eq_false_iff, Bool.or_eq_false_iff, decide_eq_true_eq, decide_eq_false_iff_not, Int.not_lt, Int.not_le, ne_eq, Decidable.not_not] at h2
      refine WC.seq ?_
      refine WC.region ?_
      refine SL.pure rfl rfl rfl (PureOp.build bld34 rfl rfl) ?_
      refine SL.pure rfl rfl rfl (PureOp.move rfl) ?_
      refine SL.store 1 rfl rfl rfl rfl sz34 rfl rfl ?_
      refine SL.pure rfl rfl rfl (PureOp.assign rfl) ?_
      refine SL.nil_then ?_
      refine WC.ret ?_
      refine QX.ret_then ?_
      refine QX.retv rfl (RVs.cons (RV.cell rfl Tryd.underlying34 rfl (RowIs.cells 1 0 10 rfl rfl) sz34) (RVs.cons (RV.tmp rfl) RVs.nil)) ?_
      intro w hw
      have q : errM l at_ e = (nextE (nth l at_.toNat).2.2.1 e).2 := by rw [errM, if_neg (by omega)]
      have q1 : tkM t l at_ e = tk0 := by rw [tkM, if_neg (by rw [q]; exact h2)]
      have q2 : lM l at_ e = [] := by rw [lM, if_neg (by rw [q]; exact h2)]
      rw [q, q1, q2]
      exact ⟨none, 0, rfl, ownsRow_nil⟩
    · try simp only [Bool.and_eq_true, Bool.or_eq_true, Bool.not_eq_true', Bool.not_eq_false', Bool.and_eq_false_iff, Bool.or_eq_false_iff, decide_eq_true_eq, decide_eq_false_iff_not, Int.not_lt, Int.not_le, ne_eq, Decidable.not_not] at h2
      refine WC.skip ?_
      refine QX.then_ ?_
      refine WC.seq ?_
      refine WC.region ?_
      refine SL.pure rfl rfl rfl (PureOp.fieldAddrT 5 Tryd.underlying34 rfl sz31 rfl rfl) ?_
      refine SL.pure rfl rfl rfl (PureOp.load Tryd.underlying31 rfl rfl (fun _ => (CellIs.cells 0 rfl rfl))) ?_
      refine SL.callo (fun a c => .slice a n c) rfl rfl rfl rfl rfl rfl callable28 (fun w hw => clone_ok l ao n cap hn w (hz.below hw.below) hnb) (fun ka1 kc1 => ?_)
      refine SL.pure rfl rfl rfl (PureOp.fieldAddrT 5 Tryd.underlying34 rfl sz31 rfl rfl) ?_
      refine SL.store 0 rfl rfl rfl rfl sz31 rfl rfl ?_
      refine SL.nil_then ?_
      refine WC.seq ?_
      refine WC.region ?_
      refine SL.pure rfl rfl rfl (PureOp.fieldAddrT 5 Tryd.underlying34 rfl sz31 rfl rfl) ?_
      refine SL.pure rfl rfl rfl (PureOp.load Tryd.underlying31 rfl rfl (fun _ => (CellIs.cells 0 rfl rfl))) ?_
      refine SL.pure rfl rfl rfl (PureOp.move rfl) ?_
      refine SL.pure rfl rfl rfl (PureOp.move rfl) ?_
      refine SL.pure rfl rfl rfl (PureOp.indexAddr Tryd.underlying31 sz50 rfl rfl (AoOk.own 2 rfl) (fun _ => by (first | omega | (have q := cellsOf_length enc50_len l; first | omega | (simp only [List.nil_append]; omega))))) ?_
      refine SL.pure rfl rfl rfl (PureOp.fieldAddr 9 Tryd.underlying50 rfl rfl sz3 rfl) ?_
      refine SL.storeown 2 rfl rfl rfl rfl sz3 (by (first | omega | (have q := cellsOf_length enc50_len l; first | omega | (simp only [List.nil_append]; omega)))) rfl ?_
      refine SL.nil_then ?_
      refine WC.seq ?_
      refine WC.region ?_
      refine SL.pure rfl rfl rfl (PureOp.loads Tryd.underlying34 rfl rfl (fun _ => (RowIs.cells 0 0 10 rfl rfl)) sz34) ?_
      refine SL.store 1 rfl rfl rfl rfl sz34 rfl rfl ?_
      refine SL.pure rfl rfl rfl (PureOp.assign rfl) ?_
      refine SL.nil_then ?_
      refine WC.ret ?_
      refine QX.retv rfl (RVs.cons (RV.cell rfl Tryd.underlying34 rfl (RowIs.cells 1 0 10 rfl rfl) sz34) (RVs.cons (RV.tmp rfl) RVs.nil)) ?_
      intro w hw
      have q : errM l at_ e = 0 := by rw [errM, if_neg (by omega)]; omega
      have q1 : tkM t l at_ e = t := by rw [tkM, if_pos q]
      have q2 : lM l at_ e = l.set at_.toNat ((nth l at_.toNat).1, (nth l at_.toNat).2.1, (nextE (nth l at_.toNat).2.2.1 e).1, (nth l at_.toNat).2.2.2) := by rw [lM, if_pos q]
      have h := hw.mem (i := 2) rfl
      have q3 := cellsOf_set enc50_len l at_.toNat 9 (.int .i64 (nextE (nth l at_.toNat).2.2.1 e).1) ((nth l at_.toNat).1, (nth l at_.toNat).2.1, (nextE (nth l at_.toNat).2.2.1 e).1, (nth l at_.toNat).2.2.2) (by omega) (by omega) rfl
      rw [q, q1, q2, List.length_set, ← hn, ← q3]
      exact ⟨_, _, rfl, h⟩

set_option maxHeartbeats 4000000 in
set_option maxRecDepth 100000 in
theorem rmove_ok (t : TK) (l : List Cp) (ao : Option Addr) (n cap : Nat) (hn : n = l.length) (w0 : World) (hz : SliceIn w0 11 ao n cap (rowsF enc50 l)) (hnb : n ≤ 1000) (at_ e : Int) : FnC Tryd.prog 18 [.agg (tkv t (.slice ao n cap)).toArray, .int .i64 at_, .int .i64 e] w0 fun v w' => ∃ a c, v = .tuple #[.agg (tkv (tkM t l at_ e) (.slice a (lM l at_ e).length c)).toArray, .int .i64 (errM l at_ e)] ∧ w'.ownsRow w0.heap.size 50 11 (.slice a (lM l at_ e).length c) (lM l at_ e).length (cellsOf enc50 (lM l at_ e)) := by
  refine fnc (N := 48) Tryd.func18 rfl rfl rfl ?_
  refine WC.seq ?_
  refine WC.region ?_
  refine SL.box rfl rfl rfl (fun b1 hb1 => ?_)
  refine SL.alloc rfl rfl zero34 (fun b2 hb2 => ?_)
  refine SL.pure rfl rfl rfl (PureOp.assign rfl) ?_
  refine SL.nil_then ?_
  refine WC.seq ?_
  refine WC.seq ?_
  refine WC.region ?_
  refine SL.pure rfl rfl rfl (PureOp.move rfl) ?_
  refine SL.pure rfl rfl rfl (PureOp.lss rfl rfl) ?_
  refine SL.pure rfl rfl rfl (PureOp.move rfl) ?_
  refine SL.newg 13 false rfl ?_
  refine SL.gpure (c := 1) rfl rfl rfl rfl rfl rfl rfl (PureOp.move rfl) ?_
  refine SL.gpure (c := 1) rfl rfl rfl rfl rfl rfl rfl (PureOp.fieldAddrT 5 Tryd.underlying34 rfl sz31 rfl rfl) ?_
  refine SL.gpure (c := 1) rfl rfl rfl rfl rfl rfl rfl (PureOp.load Tryd.underlying31 rfl rfl (fun _ => (CellIs.cells 0 rfl rfl))) ?_
  refine SL.gpure (c := 1) rfl rfl rfl rfl rfl rfl rfl (PureOp.len rfl Tryd.underlying31) ?_
  refine SL.gpure (c := 1) rfl rfl rfl rfl rfl rfl rfl (PureOp.geq rfl rfl) ?_
  refine SL.pure rfl rfl rfl (PureOp.or_ rfl rfl rfl rfl) ?_
  refine SL.nil_then ?_
  refine WC.cond rfl (fun h1 => ?_) (fun h1 => ?_)
  · try simp only [Bool.and_eq_true, Bool.or_eq_true, Bool.not_eq_true', Bool.not_eq_false', Bool.and_eq_false_iff, Bool.or_eq_false_iff, decide_eq_true_eq, decide_eq_false_iff_not, Int.not_lt, Int.not_le, ne_eq, Decidable.not_not] at h1
    refine WC.seq ?_
    refine WC.region ?_
    refine SL.pure rfl rfl rfl (PureOp.build bld34 rfl rfl) ?_
    refine SL.store 1 rfl rfl rfl rfl sz34 rfl rfl ?_
    refine SL.pure rfl rfl rfl (PureOp.assign rfl) ?_
    refine SL.nil_then ?_
    refine WC.ret ?_
    refine QX.ret_then ?_
    refine QX.retv rfl (RVs.cons (RV.cell rfl Tryd.underlying34 rfl (RowIs.cells 1 0 10 rfl rfl) sz34) (RVs.cons (RV.tmp rfl) RVs.nil)) ?_
    intro w hw
    have q : errM l at_ e = 7 := by rw [errM, if_pos (by omega)]
    have q1 : tkM t l at_ e = tk0 := by rw [tkM, if_neg (by rw [q]; decide)]
    have q2 : lM l at_ e = [] := by rw [lM, if_neg (by rw [q]; decide)]
    rw [q, q1, q2]
    exact ⟨none, 0, rfl, ownsRow_nil⟩
  · try simp only [Bool.and_eq_true, Bool.or_eq_true, Bool.not_eq_true', Bool.not_eq_false', Bool.and_eq_false_iff, Bool.or_eq_false_iff, decide_eq_true_eq, decide_eq_false_iff_not, Int.not_lt, Int.not_le, ne_eq, Decidable.not_not] at h1
    refine WC.skip ?_
    refine QX.then_ ?_
    refine WC.seq ?_
    refine WC.region ?_
    refine SL.pure rfl rfl rfl (PureOp.fieldAddrT 5 Tryd.underlying34 rfl sz31 rfl rfl) ?_
    refine SL.pure rfl rfl rfl (PureOp.load Tryd.underlying31 rfl rfl (fun _ => (CellIs.cells 0 rfl rfl))) ?_
    refine SL.pure rfl rfl rfl (PureOp.move rfl) ?_
    refine SL.pure rfl rfl rfl (PureOp.indexAddr Tryd.underlying31 sz50 rfl rfl (AoOk.in_ hz) (fun _ => by (first | omega | (have q := cellsOf_length enc50_len l; first | omega | (simp only [List.nil_append]; omega))))) ?_
    refine SL.pure rfl rfl rfl (PureOp.fieldAddr 9 Tryd.underlying50 rfl rfl sz3 rfl) ?_
    refine SL.pure rfl rfl rfl (PureOp.load Tryd.underlying3 rfl rfl (fun _ => (CellIs.in_ hz at_.toNat 9 (by omega) (by omega)))) ?_
    refine SL.pure rfl rfl rfl (PureOp.move rfl) ?_
    refine SL.calle rfl rfl rfl rfl rfl rfl callable9 (fun w hw => RNext_ok (nth l at_.toNat).2.2.1 e w) ?_
    refine SL.pure rfl rfl rfl (PureOp.move rfl) ?_
    refine SL.pure rfl rfl rfl (PureOp.extract rfl rfl) ?_
    refine SL.pure rfl rfl rfl (PureOp.extract rfl rfl) ?_
    refine SL.pure rfl rfl rfl (PureOp.assign rfl) ?_
    refine SL.pure rfl rfl rfl (PureOp.assign rfl) ?_
    refine SL.nil_then ?_
    refine WC.seq ?_
    refine WC.seq ?_
    refine WC.region ?_
    refine SL.pure rfl rfl rfl (PureOp.move rfl) ?_
    refine SL.pure rfl rfl rfl (PureOp.neq rfl rfl) ?_
    refine SL.nil_then ?_
    refine WC.cond rfl (fun h2 => ?_) (fun h2 => ?_)
    · try simp only [Bool.and_eq_true, Bool.or_eq_true, Bool.not_eq_true', Bool.not_eq_false', Bool.and_eq_false_iff, Bool.or_eq_false_iff, decide_eq_true_eq, decide_eq_false_iff_not, Int.not_lt, Int.not_le, ne_eq, Decidable.not_not] at h2
      refine WC.seq ?_
      refine WC.region ?_
      refine SL.pure rfl rfl rfl (PureOp.build bld34 rfl rfl) ?_
      refine SL.pure rfl rfl rfl (PureOp.move rfl) ?_
      refine SL.store 1 rfl rfl rfl rfl sz34 rfl rfl ?_
      refine SL.pure rfl rfl rfl (PureOp.assign rfl) ?_
      refine SL.nil_then ?_
      refine WC.ret ?_
      refine QX.ret_then ?_
      refine QX.retv rfl (RVs.cons (RV.cell rfl Tryd.underlying34 rfl (RowIs.cells 1 0 10 rfl rfl) sz34) (RVs.cons (RV.tmp rfl) RVs.nil)) ?_
      intro w hw
      have q : errM l at_ e = (nextE (nth l at_.toNat).2.2.1 e).2 := by rw [errM, if_neg (by omega)]
      have q1 : tkM t l at_ e = tk0 := by rw [tkM, if_neg (by rw [q]; exact h2)]
      have q2 : lM l at_ e = [] := by rw [lM, if_neg (by rw [q]; exact h2)]
      rw [q, q1, q2]
      exact ⟨none, 0, rfl, ownsRow_nil⟩
    · try simp only [Bool.and_eq_true, Bool.or_eq_true, Bool.not_eq_true', Bool.not_eq_false', Bool.and_eq_false_iff, Bool.or_eq_false_iff, decide_eq_true_eq, decide_eq_false_iff_not, Int.not_lt, Int.not_le, ne_eq, Decidable.not_not] at h2
      refine WC.skip ?_
      refine QX.then_ ?_
      refine WC.seq ?_
      refine WC.region ?_
      refine SL.buildSlice0 rfl rfl Tryd.underlying31 elem50 (fun b3 hb3 => ?_)
      refine SL.pure rfl rfl rfl (PureOp.fieldAddrT 5 Tryd.underlying34 rfl sz31 rfl rfl) ?_
      refine SL.pure rfl rfl rfl (PureOp.load Tryd.underlying31 rfl rfl (fun _ => (CellIs.cells 0 rfl rfl))) ?_
      refine SL.append 2 rfl rfl Tryd.underlying31 elem50 rfl rfl rfl rfl (SrcIs.in_ hz enc50_len hn) (by exact all_one_cells (fun x => rfl) l) (by (first | omega | (have q := cellsOf_length enc50_len l; first | omega | (simp only [List.nil_append]; omega)))) (by (first | omega | (have q := cellsOf_length enc50_len l; first | omega | (simp only [List.nil_append]; omega)))) (fun ao1_ cap1_ => ?_)
      refine SL.pure rfl rfl rfl (PureOp.assign rfl) ?_
      refine SL.nil_then ?_
      refine WC.seq ?_
      refine WC.region ?_
      refine SL.pure rfl rfl rfl (PureOp.move rfl) ?_
      refine SL.pure rfl rfl rfl (PureOp.move rfl) ?_
      refine SL.pure rfl rfl rfl (PureOp.move rfl) ?_
      refine SL.pure rfl rfl rfl (PureOp.indexAddr Tryd.underlying31 sz50 rfl rfl (AoOk.own 2 rfl) (fun _ => by (first | omega | (have q := cellsOf_length enc50_len l; first | omega | (simp only [List.nil_append]; omega))))) ?_
      refine SL.pure rfl rfl rfl (PureOp.fieldAddr 9 Tryd.underlying50 rfl rfl sz3 rfl) ?_
      refine SL.storeown 2 rfl rfl rfl rfl sz3 (by (first | omega | (have q := cellsOf_length enc50_len l; first | omega | (simp only [List.nil_append]; omega)))) rfl ?_
      refine SL.nil_then ?_
      refine WC.seq ?_
      refine WC.region ?_
      refine SL.pure rfl rfl rfl (PureOp.move rfl) ?_
      refine SL.pure rfl rfl rfl (PureOp.fieldAddrT 5 Tryd.underlying34 rfl sz31 rfl rfl) ?_
      refine SL.store 0 rfl rfl rfl rfl sz31 rfl rfl ?_
      refine SL.nil_then ?_
      refine WC.seq ?_
      refine WC.region ?_
      refine SL.pure rfl rfl rfl (PureOp.loads Tryd.underlying34 rfl rfl (fun _ => (RowIs.cells 0 0 10 rfl rfl)) sz34) ?_
      refine SL.store 1 rfl rfl rfl rfl sz34 rfl rfl ?_
      refine SL.pure rfl rfl rfl (PureOp.assign rfl) ?_
      refine SL.nil_then ?_
      refine WC.ret ?_
      refine QX.retv rfl (RVs.cons (RV.cell rfl Tryd.underlying34 rfl (RowIs.cells 1 0 10 rfl rfl) sz34) (RVs.cons (RV.tmp rfl) RVs.nil)) ?_
      intro w hw
      have q : errM l at_ e = 0 := by rw [errM, if_neg (by omega)]; omega
      have q1 : tkM t l at_ e = t := by rw [tkM, if_pos q]
      have q2 : lM l at_ e = l.set at_.toNat ((nth l at_.toNat).1, (nth l at_.toNat).2.1, (nextE (nth l at_.toNat).2.2.1 e).1, (nth l at_.toNat).2.2.2) := by rw [lM, if_pos q]
      have h := hw.mem (i := 2) rfl
      rw [Nat.zero_add] at h ⊢
      have q3 := cellsOf_set enc50_len l at_.toNat 9 (.int .i64 (nextE (nth l at_.toNat).2.2.1 e).1) ((nth l at_.toNat).1, (nth l at_.toNat).2.1, (nextE (nth l at_.toNat).2.2.1 e).1, (nth l at_.toNat).2.2.2) (by omega) (by omega) rfl
      rw [q, q1, q2, List.length_set, ← hn, ← q3]
      exact ⟨_, _, rfl, h⟩

end Go.Proofs.YtipmdakhmpaemaaDoor
