import Derived.Test.YtblmafknmeicfaaMtA
import Derived.Test.YtblmafknmeicfaaKnB
namespace Go.Proofs.Ytblmafknmeicfaa
open Go Go.RowKit Eng
set_option linter.unusedVariables false
set_option linter.unusedSimpArgs false

set_option maxHeartbeats 4000000 in
set_option maxRecDepth 100000 in
theorem lev_step (x : Cd) (l : List Cd) (hl : l.length = x.2.1.l.length) (w0 : World) (sL : SliceIn w0 8 x.2.1.ao x.2.1.l.length x.2.1.cap (rowsF enc72 l)) (ih : ∀ i, i < x.2.1.l.length → ∀ w, Below w0.heap.size w0 w → FnC Try.prog 77 [.agg #[.int .i64 ((nth l i).1), .slice ((nth l i).2.1.ao) ((nth l i).2.1.l.length) ((nth l i).2.1.cap), .int .i64 ((nth l i).2.2.1), .int .i64 ((nth l i).2.2.2.1), .int .i64 ((nth l i).2.2.2.2.1.1), .int .i64 ((nth l i).2.2.2.2.1.2.1), .int .i64 ((nth l i).2.2.2.2.1.2.2), .slice ((nth l i).2.2.2.2.2.ao) ((nth l i).2.2.2.2.2.l.length) ((nth l i).2.2.2.2.2.cap)]] w fun v _ => ∃ e, v = .int .i64 e) : FnC Try.prog 77 [.agg #[.int .i64 x.1, .slice x.2.1.ao x.2.1.l.length x.2.1.cap, .int .i64 x.2.2.1, .int .i64 x.2.2.2.1, .int .i64 x.2.2.2.2.1.1, .int .i64 x.2.2.2.2.1.2.1, .int .i64 x.2.2.2.2.1.2.2, .slice x.2.2.2.2.2.ao x.2.2.2.2.2.l.length x.2.2.2.2.2.cap]] w0 fun v w' => ∃ e, v = .int .i64 e := by
  have hnm : (x.2.1.l.length : Int) ≤ 9223372036854775807 := by
    have q1 := sL.le; have q2 := sL.max; simp only [maxLen] at q2; omega
  refine fnc (N := 22) Try.func77 rfl rfl rfl ?_
  refine WC.seq ?_
  refine WC.region ?_
  refine SL.box rfl rfl rfl (fun b1 hb1 => ?_)
  refine SL.norm [_] rfl ?_
  refine SL.pure rfl rfl rfl (PureOp.assign rfl) ?_
  refine SL.nil_then ?_
  refine WC.seq ?_
  refine WC.region ?_
  refine SL.pure rfl rfl rfl (PureOp.assign rfl) ?_
  refine SL.nil_then ?_
  refine WC.seq ?_
  refine WC.seq ?_
  refine WC.region ?_
  refine SL.pure rfl rfl rfl (PureOp.assign rfl) ?_
  refine SL.nil_then ?_
  refine WC.block ?_
  refine WC.loop (σ := Nat × Int) (fun q_ => [(0, 0, .agg #[.int .i64 x.1, .slice x.2.1.ao x.2.1.l.length x.2.1.cap, .int .i64 x.2.2.1, .int .i64 x.2.2.2.1, .int .i64 x.2.2.2.2.1.1, .int .i64 x.2.2.2.2.1.2.1, .int .i64 x.2.2.2.2.1.2.2, .slice x.2.2.2.2.2.ao x.2.2.2.2.2.l.length x.2.2.2.2.2.cap]), (1, 0, .pointer (some ⟨b1, 0, none⟩)), (2, 0, .int .i64 0), (4, 0, .int .i64 ((q_.1 : Nat) : Int)), (3, 0, .int .i64 q_.2)]) (fun q_ => [Item.cells b1 [.int .i64 x.1, .slice x.2.1.ao x.2.1.l.length x.2.1.cap, .int .i64 x.2.2.1, .int .i64 x.2.2.2.1, .int .i64 x.2.2.2.2.1.1, .int .i64 x.2.2.2.2.1.2.1, .int .i64 x.2.2.2.2.1.2.2, .slice x.2.2.2.2.2.ao x.2.2.2.2.2.l.length x.2.2.2.2.2.cap] 72]) (fun q_ => q_.1 ≤ x.2.1.l.length) (fun q_ => x.2.1.l.length - q_.1) 1 ((0, 0)) (Nat.zero_le _) ⟨rfl, rfl, rfl, rfl, rfl, rfl, rfl, rfl, rfl, rfl, trivial⟩ rfl ?_
  rintro ⟨k, y⟩ hk
  try dsimp only at *
  refine WC.seq ?_
  refine WC.seq ?_
  refine WC.region ?_
  refine SL.pure rfl rfl rfl (PureOp.move rfl) ?_
  refine SL.pure rfl rfl rfl (PureOp.fieldAddrT 1 Try.underlying72 rfl sz67 rfl rfl) ?_
  refine SL.pure rfl rfl rfl (PureOp.load (v := .slice x.2.1.ao x.2.1.l.length x.2.1.cap) Try.underlying67 rfl rfl (fun _ => (CellIs.cells 0 rfl rfl))) ?_
  refine SL.pure rfl rfl rfl (PureOp.len rfl Try.underlying67) ?_
  refine SL.pure rfl rfl rfl (PureOp.lss rfl rfl) ?_
  refine SL.nil_then ?_
  refine WC.cond rfl (fun h1 => ?_) (fun h1 => ?_)
  · try simp only [Bool.and_eq_true, Bool.or_eq_true, Bool.not_eq_true', Bool.not_eq_false', Bool.and_eq_false_iff, Bool.or_eq_false_iff, decide_eq_true_eq, decide_eq_false_iff_not, Int.not_lt, Int.not_le, ne_eq, Decidable.not_not] at h1
    refine WC.skip ?_
    refine QX.then_ ?_
    refine WC.seq ?_
    refine WC.block ?_
    refine WC.region ?_
    refine SL.pure rfl rfl rfl (PureOp.move rfl) ?_
    refine SL.pure rfl rfl rfl (PureOp.fieldAddrT 1 Try.underlying72 rfl sz67 rfl rfl) ?_
    refine SL.pure rfl rfl rfl (PureOp.load (v := .slice x.2.1.ao x.2.1.l.length x.2.1.cap) Try.underlying67 rfl rfl (fun _ => (CellIs.cells 0 rfl rfl))) ?_
    refine SL.pure rfl rfl rfl (PureOp.move rfl) ?_
    refine SL.pure rfl rfl rfl (PureOp.indexAddrN Try.underlying67 sz72 rfl rfl (AoOk.in_ sL) (fun _ => by omega)) ?_
    refine SL.pure rfl rfl rfl (PureOp.loads (vs := [.int .i64 ((nth l k).1), .slice ((nth l k).2.1.ao) ((nth l k).2.1.l.length) ((nth l k).2.1.cap), .int .i64 ((nth l k).2.2.1), .int .i64 ((nth l k).2.2.2.1), .int .i64 ((nth l k).2.2.2.2.1.1), .int .i64 ((nth l k).2.2.2.2.1.2.1), .int .i64 ((nth l k).2.2.2.2.1.2.2), .slice ((nth l k).2.2.2.2.2.ao) ((nth l k).2.2.2.2.2.l.length) ((nth l k).2.2.2.2.2.cap)]) Try.underlying72 rfl rfl (fun _ => (RowIs.in_ sL k 0 8 (by omega) (by omega))) sz72) ?_
    refine SL.callv rfl rfl rfl rfl rfl rfl callable77 (fun w hw => ih k (by omega) w hw.below) ?_
    rintro v ⟨nn, rfl⟩
    refine SL.norm [_] rfl ?_
    refine SL.pure rfl rfl rfl (PureOp.max_ rfl rfl) ?_
    refine SL.pure rfl rfl rfl (PureOp.assign rfl) ?_
    refine SL.nil ?_
    refine QX.normal_in ?_
    refine QX.then_ ?_
    refine WC.region ?_
    refine SL.pure rfl rfl rfl (PureOp.move rfl) ?_
    refine SL.pure rfl rfl rfl (PureOp.addN (k := 1) rfl rfl (fun _ => by omega)) ?_
    refine SL.pure rfl rfl rfl (PureOp.assign rfl) ?_
    refine SL.nil ?_
    refine QX.round (σ := Nat × Int) (Ef := fun q_ => [(0, 0, .agg #[.int .i64 x.1, .slice x.2.1.ao x.2.1.l.length x.2.1.cap, .int .i64 x.2.2.1, .int .i64 x.2.2.2.1, .int .i64 x.2.2.2.2.1.1, .int .i64 x.2.2.2.2.1.2.1, .int .i64 x.2.2.2.2.1.2.2, .slice x.2.2.2.2.2.ao x.2.2.2.2.2.l.length x.2.2.2.2.2.cap]), (1, 0, .pointer (some ⟨b1, 0, none⟩)), (2, 0, .int .i64 0), (4, 0, .int .i64 ((q_.1 : Nat) : Int)), (3, 0, .int .i64 q_.2)]) (Hf := fun q_ => [Item.cells b1 [.int .i64 x.1, .slice x.2.1.ao x.2.1.l.length x.2.1.cap, .int .i64 x.2.2.1, .int .i64 x.2.2.2.1, .int .i64 x.2.2.2.2.1.1, .int .i64 x.2.2.2.2.1.2.1, .int .i64 x.2.2.2.2.1.2.2, .slice x.2.2.2.2.2.ao x.2.2.2.2.2.l.length x.2.2.2.2.2.cap] 72]) (I := fun q_ => q_.1 ≤ x.2.1.l.length) (μ := fun q_ => x.2.1.l.length - q_.1) (s := (k, y)) 1 ((k + 1, max y nn)) ⟨(by first | omega | (dsimp only; omega)), by first | omega | (dsimp only; omega)⟩ ⟨rfl, rfl, rfl, rfl, rfl, rfl, rfl, rfl, rfl, rfl, trivial⟩ rfl
  · try simp only [Bool.and_eq_true, Bool.or_eq_true, Bool.not_eq_true', Bool.not_eq_false', Bool.and_eq_false_iff, Bool.or_eq_false_iff, decide_eq_true_eq, decide_eq_false_iff_not, Int.not_lt, Int.not_le, ne_eq, Decidable.not_not] at h1
    refine WC.exit ?_
    refine QX.exit_then ?_
    refine QX.exit_then ?_
    refine QX.exit_hit ?_
    refine QX.then_ ?_
    refine WC.seq ?_
    refine WC.region ?_
    refine SL.pure rfl rfl rfl (PureOp.move rfl) ?_
    refine SL.pure rfl rfl rfl (PureOp.addw rfl rfl) ?_
    refine SL.pure rfl rfl rfl (PureOp.assign rfl) ?_
    refine SL.nil_then ?_
    refine WC.ret ?_
    refine QX.ret1 rfl rfl ?_
    intro w hw
    exact ⟨_, rfl⟩

set_option maxHeartbeats 4000000 in
set_option maxRecDepth 100000 in
theorem siz_step (x : Cd) (l : List Cd) (hl : l.length = x.2.1.l.length) (w0 : World) (sL : SliceIn w0 8 x.2.1.ao x.2.1.l.length x.2.1.cap (rowsF enc72 l)) (ih : ∀ i, i < x.2.1.l.length → ∀ w, Below w0.heap.size w0 w → FnC Try.prog 78 [.agg #[.int .i64 ((nth l i).1), .slice ((nth l i).2.1.ao) ((nth l i).2.1.l.length) ((nth l i).2.1.cap), .int .i64 ((nth l i).2.2.1), .int .i64 ((nth l i).2.2.2.1), .int .i64 ((nth l i).2.2.2.2.1.1), .int .i64 ((nth l i).2.2.2.2.1.2.1), .int .i64 ((nth l i).2.2.2.2.1.2.2), .slice ((nth l i).2.2.2.2.2.ao) ((nth l i).2.2.2.2.2.l.length) ((nth l i).2.2.2.2.2.cap)]] w fun v _ => ∃ e, v = .int .i64 e) : FnC Try.prog 78 [.agg #[.int .i64 x.1, .slice x.2.1.ao x.2.1.l.length x.2.1.cap, .int .i64 x.2.2.1, .int .i64 x.2.2.2.1, .int .i64 x.2.2.2.2.1.1, .int .i64 x.2.2.2.2.1.2.1, .int .i64 x.2.2.2.2.1.2.2, .slice x.2.2.2.2.2.ao x.2.2.2.2.2.l.length x.2.2.2.2.2.cap]] w0 fun v w' => ∃ e, v = .int .i64 e := by
  have hnm : (x.2.1.l.length : Int) ≤ 9223372036854775807 := by
    have q1 := sL.le; have q2 := sL.max; simp only [maxLen] at q2; omega
  refine fnc (N := 21) Try.func78 rfl rfl rfl ?_
  refine WC.seq ?_
  refine WC.region ?_
  refine SL.box rfl rfl rfl (fun b1 hb1 => ?_)
  refine SL.norm [_] rfl ?_
  refine SL.pure rfl rfl rfl (PureOp.assign rfl) ?_
  refine SL.nil_then ?_
  refine WC.seq ?_
  refine WC.region ?_
  refine SL.pure rfl rfl rfl (PureOp.assign rfl) ?_
  refine SL.nil_then ?_
  refine WC.seq ?_
  refine WC.seq ?_
  refine WC.region ?_
  refine SL.pure rfl rfl rfl (PureOp.assign rfl) ?_
  refine SL.nil_then ?_
  refine WC.block ?_
  refine WC.loop (σ := Nat × Int) (fun q_ => [(0, 0, .agg #[.int .i64 x.1, .slice x.2.1.ao x.2.1.l.length x.2.1.cap, .int .i64 x.2.2.1, .int .i64 x.2.2.2.1, .int .i64 x.2.2.2.2.1.1, .int .i64 x.2.2.2.2.1.2.1, .int .i64 x.2.2.2.2.1.2.2, .slice x.2.2.2.2.2.ao x.2.2.2.2.2.l.length x.2.2.2.2.2.cap]), (1, 0, .pointer (some ⟨b1, 0, none⟩)), (2, 0, .int .i64 0), (4, 0, .int .i64 ((q_.1 : Nat) : Int)), (3, 0, .int .i64 q_.2)]) (fun q_ => [Item.cells b1 [.int .i64 x.1, .slice x.2.1.ao x.2.1.l.length x.2.1.cap, .int .i64 x.2.2.1, .int .i64 x.2.2.2.1, .int .i64 x.2.2.2.2.1.1, .int .i64 x.2.2.2.2.1.2.1, .int .i64 x.2.2.2.2.1.2.2, .slice x.2.2.2.2.2.ao x.2.2.2.2.2.l.length x.2.2.2.2.2.cap] 72]) (fun q_ => q_.1 ≤ x.2.1.l.length) (fun q_ => x.2.1.l.length - q_.1) 1 ((0, 1)) (Nat.zero_le _) ⟨rfl, rfl, rfl, rfl, rfl, rfl, rfl, rfl, rfl, rfl, trivial⟩ rfl ?_
  rintro ⟨k, y⟩ hk
  try dsimp only at *
  refine WC.seq ?_
  refine WC.seq ?_
  refine WC.region ?_
  refine SL.pure rfl rfl rfl (PureOp.move rfl) ?_
  refine SL.pure rfl rfl rfl (PureOp.fieldAddrT 1 Try.underlying72 rfl sz67 rfl rfl) ?_
  refine SL.pure rfl rfl rfl (PureOp.load (v := .slice x.2.1.ao x.2.1.l.length x.2.1.cap) Try.underlying67 rfl rfl (fun _ => (CellIs.cells 0 rfl rfl))) ?_
  refine SL.pure rfl rfl rfl (PureOp.len rfl Try.underlying67) ?_
  refine SL.pure rfl rfl rfl (PureOp.lss rfl rfl) ?_
  refine SL.nil_then ?_
  refine WC.cond rfl (fun h1 => ?_) (fun h1 => ?_)
  · try simp only [Bool.and_eq_true, Bool.or_eq_true, Bool.not_eq_true', Bool.not_eq_false', Bool.and_eq_false_iff, Bool.or_eq_false_iff, decide_eq_true_eq, decide_eq_false_iff_not, Int.not_lt, Int.not_le, ne_eq, Decidable.not_not] at h1
    refine WC.skip ?_
    refine QX.then_ ?_
    refine WC.seq ?_
    refine WC.block ?_
    refine WC.region ?_
    refine SL.pure rfl rfl rfl (PureOp.move rfl) ?_
    refine SL.pure rfl rfl rfl (PureOp.fieldAddrT 1 Try.underlying72 rfl sz67 rfl rfl) ?_
    refine SL.pure rfl rfl rfl (PureOp.load (v := .slice x.2.1.ao x.2.1.l.length x.2.1.cap) Try.underlying67 rfl rfl (fun _ => (CellIs.cells 0 rfl rfl))) ?_
    refine SL.pure rfl rfl rfl (PureOp.move rfl) ?_
    refine SL.pure rfl rfl rfl (PureOp.indexAddrN Try.underlying67 sz72 rfl rfl (AoOk.in_ sL) (fun _ => by omega)) ?_
    refine SL.pure rfl rfl rfl (PureOp.loads (vs := [.int .i64 ((nth l k).1), .slice ((nth l k).2.1.ao) ((nth l k).2.1.l.length) ((nth l k).2.1.cap), .int .i64 ((nth l k).2.2.1), .int .i64 ((nth l k).2.2.2.1), .int .i64 ((nth l k).2.2.2.2.1.1), .int .i64 ((nth l k).2.2.2.2.1.2.1), .int .i64 ((nth l k).2.2.2.2.1.2.2), .slice ((nth l k).2.2.2.2.2.ao) ((nth l k).2.2.2.2.2.l.length) ((nth l k).2.2.2.2.2.cap)]) Try.underlying72 rfl rfl (fun _ => (RowIs.in_ sL k 0 8 (by omega) (by omega))) sz72) ?_
    refine SL.callv rfl rfl rfl rfl rfl rfl callable78 (fun w hw => ih k (by omega) w hw.below) ?_
    rintro v ⟨nn, rfl⟩
    refine SL.norm [_] rfl ?_
    refine SL.pure rfl rfl rfl (PureOp.addw rfl rfl) ?_
    refine SL.pure rfl rfl rfl (PureOp.assign rfl) ?_
    refine SL.nil ?_
    refine QX.normal_in ?_
    refine QX.then_ ?_
    refine WC.region ?_
    refine SL.pure rfl rfl rfl (PureOp.move rfl) ?_
    refine SL.pure rfl rfl rfl (PureOp.addN (k := 1) rfl rfl (fun _ => by omega)) ?_
    refine SL.pure rfl rfl rfl (PureOp.assign rfl) ?_
    refine SL.nil ?_
    refine QX.round (σ := Nat × Int) (Ef := fun q_ => [(0, 0, .agg #[.int .i64 x.1, .slice x.2.1.ao x.2.1.l.length x.2.1.cap, .int .i64 x.2.2.1, .int .i64 x.2.2.2.1, .int .i64 x.2.2.2.2.1.1, .int .i64 x.2.2.2.2.1.2.1, .int .i64 x.2.2.2.2.1.2.2, .slice x.2.2.2.2.2.ao x.2.2.2.2.2.l.length x.2.2.2.2.2.cap]), (1, 0, .pointer (some ⟨b1, 0, none⟩)), (2, 0, .int .i64 0), (4, 0, .int .i64 ((q_.1 : Nat) : Int)), (3, 0, .int .i64 q_.2)]) (Hf := fun q_ => [Item.cells b1 [.int .i64 x.1, .slice x.2.1.ao x.2.1.l.length x.2.1.cap, .int .i64 x.2.2.1, .int .i64 x.2.2.2.1, .int .i64 x.2.2.2.2.1.1, .int .i64 x.2.2.2.2.1.2.1, .int .i64 x.2.2.2.2.1.2.2, .slice x.2.2.2.2.2.ao x.2.2.2.2.2.l.length x.2.2.2.2.2.cap] 72]) (I := fun q_ => q_.1 ≤ x.2.1.l.length) (μ := fun q_ => x.2.1.l.length - q_.1) (s := (k, y)) 1 ((k + 1, wrap64 (y + nn))) ⟨(by first | omega | (dsimp only; omega)), by first | omega | (dsimp only; omega)⟩ ⟨rfl, rfl, rfl, rfl, rfl, rfl, rfl, rfl, rfl, rfl, trivial⟩ rfl
  · try simp only [Bool.and_eq_true, Bool.or_eq_true, Bool.not_eq_true', Bool.not_eq_false', Bool.and_eq_false_iff, Bool.or_eq_false_iff, decide_eq_true_eq, decide_eq_false_iff_not, Int.not_lt, Int.not_le, ne_eq, Decidable.not_not] at h1
    refine WC.exit ?_
    refine QX.exit_then ?_
    refine QX.exit_then ?_
    refine QX.exit_hit ?_
    refine QX.then_ ?_
    refine WC.seq ?_
    refine WC.region ?_
    refine SL.pure rfl rfl rfl (PureOp.move rfl) ?_
    refine SL.pure rfl rfl rfl (PureOp.assign rfl) ?_
    refine SL.nil_then ?_
    refine WC.ret ?_
    refine QX.ret1 rfl rfl ?_
    intro w hw
    exact ⟨_, rfl⟩

set_option maxHeartbeats 4000000 in
set_option maxRecDepth 100000 in
theorem extra_any (x : Cd) (w0 : World) : FnC Try.prog 82 [.agg #[.int .i64 x.1, .slice x.2.1.ao x.2.1.l.length x.2.1.cap, .int .i64 x.2.2.1, .int .i64 x.2.2.2.1, .int .i64 x.2.2.2.2.1.1, .int .i64 x.2.2.2.2.1.2.1, .int .i64 x.2.2.2.2.1.2.2, .slice x.2.2.2.2.2.ao x.2.2.2.2.2.l.length x.2.2.2.2.2.cap]] w0 fun v w' => ∃ b, v = .bool b := by
  refine fnc (N := 57) Try.func82 rfl rfl rfl ?_
  refine WC.seq ?_
  refine WC.region ?_
  refine SL.box rfl rfl rfl (fun b1 hb1 => ?_)
  refine SL.norm [_] rfl ?_
  refine SL.pure rfl rfl rfl (PureOp.assign rfl) ?_
  refine SL.nil_then ?_
  refine WC.seq ?_
  refine WC.seq ?_
  refine WC.region ?_
  refine SL.pure rfl rfl rfl (PureOp.fieldAddrT 0 Try.underlying72 rfl sz3 rfl rfl) ?_
  refine SL.pure rfl rfl rfl (PureOp.load (v := .int .i64 x.1) Try.underlying3 rfl rfl (fun _ => (CellIs.cells 0 rfl rfl))) ?_
  refine SL.calle rfl rfl rfl rfl rfl rfl callable89 (fun w hw => listk_ok x.1 w) ?_
  refine SL.norm [_] rfl ?_
  refine SL.pure rfl rfl rfl (PureOp.not rfl) ?_
  refine SL.pure rfl rfl rfl (PureOp.move rfl) ?_
  refine SL.newg 7 true rfl ?_
  refine SL.gpure (c := 1) rfl rfl rfl rfl rfl rfl rfl (PureOp.fieldAddrT 1 Try.underlying72 rfl sz67 rfl rfl) ?_
  refine SL.gpure (c := 1) rfl rfl rfl rfl rfl rfl rfl (PureOp.load (v := .slice x.2.1.ao x.2.1.l.length x.2.1.cap) Try.underlying67 rfl rfl (fun _ => (CellIs.cells 0 rfl rfl))) ?_
  refine SL.gpure (c := 1) rfl rfl rfl rfl rfl rfl rfl (PureOp.len rfl Try.underlying67) ?_
  refine SL.gpure (c := 1) rfl rfl rfl rfl rfl rfl rfl (PureOp.gtr rfl rfl) ?_
  refine SL.pure rfl rfl rfl (PureOp.and_ rfl rfl rfl rfl) ?_
  refine SL.pure rfl rfl rfl (PureOp.move rfl) ?_
  refine SL.newg 13 false rfl ?_
  refine SL.gpure (c := 2) rfl rfl rfl rfl rfl rfl rfl (PureOp.fieldAddrT 0 Try.underlying72 rfl sz3 rfl rfl) ?_
  refine SL.gpure (c := 2) rfl rfl rfl rfl rfl rfl rfl (PureOp.load (v := .int .i64 x.1) Try.underlying3 rfl rfl (fun _ => (CellIs.cells 0 rfl rfl))) ?_
  refine SL.gcalle (c := 2) rfl rfl rfl rfl rfl rfl rfl rfl rfl rfl callable86 (by intro hg; simp [gval] at hg; exact (fun w hw => codesk_ok x.1 w)) ?_
  refine SL.norm [_] rfl ?_
  refine SL.gpure (c := 2) rfl rfl rfl rfl rfl rfl rfl (PureOp.not rfl) ?_
  refine SL.gpure (c := 2) rfl rfl rfl rfl rfl rfl rfl (PureOp.move rfl) ?_
  refine SL.newg 18 true rfl ?_
  refine SL.gpure (c := 3) rfl rfl rfl rfl rfl rfl rfl (PureOp.fieldAddrT 7 Try.underlying72 rfl sz70 rfl rfl) ?_
  refine SL.gpure (c := 3) rfl rfl rfl rfl rfl rfl rfl (PureOp.load (v := .slice x.2.2.2.2.2.ao x.2.2.2.2.2.l.length x.2.2.2.2.2.cap) Try.underlying70 rfl rfl (fun _ => (CellIs.cells 0 rfl rfl))) ?_
  refine SL.gpure (c := 3) rfl rfl rfl rfl rfl rfl rfl (PureOp.len rfl Try.underlying70) ?_
  refine SL.gpure (c := 3) rfl rfl rfl rfl rfl rfl rfl (PureOp.gtr rfl rfl) ?_
  refine SL.gpure (c := 2) rfl rfl rfl rfl rfl rfl rfl (PureOp.and_ rfl rfl rfl rfl) ?_
  refine SL.pure rfl rfl rfl (PureOp.or_ rfl rfl rfl rfl) ?_
  refine SL.nil_then ?_
  refine WC.cond rfl (fun h1 => ?_) (fun h1 => ?_)
  · try simp only [Bool.and_eq_true, Bool.or_eq_true, Bool.not_eq_true', Bool.not_eq_false', Bool.and_eq_false_iff, Bool.or_eq_false_iff, decide_eq_true_eq, decide_eq_false_iff_not, Int.not_lt, Int.not_le, ne_eq, Decidable.not_not] at h1
    refine WC.seq ?_
    refine WC.region ?_
    refine SL.pure rfl rfl rfl (PureOp.assign rfl) ?_
    refine SL.nil_then ?_
    refine WC.ret ?_
    refine QX.ret_then ?_
    refine QX.ret1 rfl rfl ?_
    intro w hw
    exact ⟨_, rfl⟩
  · try simp only [Bool.and_eq_true, Bool.or_eq_true, Bool.not_eq_true', Bool.not_eq_false', Bool.and_eq_false_iff, Bool.or_eq_false_iff, decide_eq_true_eq, decide_eq_false_iff_not, Int.not_lt, Int.not_le, ne_eq, Decidable.not_not] at h1
    refine WC.skip ?_
    refine QX.then_ ?_
    refine WC.seq ?_
    refine WC.region ?_
    refine SL.pure rfl rfl rfl (PureOp.fieldAddrT 0 Try.underlying72 rfl sz3 rfl rfl) ?_
    refine SL.pure rfl rfl rfl (PureOp.load (v := .int .i64 x.1) Try.underlying3 rfl rfl (fun _ => (CellIs.cells 0 rfl rfl))) ?_
    refine SL.calle rfl rfl rfl rfl rfl rfl callable84 (fun w hw => periodk_ok x.1 w) ?_
    refine SL.norm [_] rfl ?_
    refine SL.pure rfl rfl rfl (PureOp.not rfl) ?_
    refine SL.pure rfl rfl rfl (PureOp.move rfl) ?_
    refine SL.newg 29 true rfl ?_
    refine SL.gpure (c := 4) rfl rfl rfl rfl rfl rfl rfl (PureOp.fieldAddrT 4 Try.underlying72 rfl sz69 rfl rfl) ?_
    refine SL.gpure (c := 4) rfl rfl rfl rfl rfl rfl rfl (PureOp.loads (vs := [.int .i64 x.2.2.2.2.1.1, .int .i64 x.2.2.2.2.1.2.1, .int .i64 x.2.2.2.2.1.2.2]) Try.underlying69 rfl rfl (fun _ => (RowIs.cells 0 4 3 rfl rfl)) sz69) ?_
    refine SL.gpure (c := 4) rfl rfl rfl rfl rfl rfl rfl (PureOp.build bld69 rfl rfl) ?_
    refine SL.gpure (c := 4) rfl rfl rfl rfl rfl rfl rfl (PureOp.neqa rfl rfl flat69 rfl) ?_
    refine SL.pure rfl rfl rfl (PureOp.and_ rfl rfl rfl rfl) ?_
    refine SL.pure rfl rfl rfl (PureOp.move rfl) ?_
    refine SL.newg 35 false rfl ?_
    refine SL.gpure (c := 5) rfl rfl rfl rfl rfl rfl rfl (PureOp.fieldAddrT 0 Try.underlying72 rfl sz3 rfl rfl) ?_
    refine SL.gpure (c := 5) rfl rfl rfl rfl rfl rfl rfl (PureOp.load (v := .int .i64 x.1) Try.underlying3 rfl rfl (fun _ => (CellIs.cells 0 rfl rfl))) ?_
    refine SL.gcalle (c := 5) rfl rfl rfl rfl rfl rfl rfl rfl rfl rfl callable90 (by intro hg; simp [gval] at hg; exact (fun w hw => numbersk_ok x.1 w)) ?_
    refine SL.norm [_] rfl ?_
    refine SL.gpure (c := 5) rfl rfl rfl rfl rfl rfl rfl (PureOp.lss rfl rfl) ?_
    refine SL.gpure (c := 5) rfl rfl rfl rfl rfl rfl rfl (PureOp.move rfl) ?_
    refine SL.newg 40 true rfl ?_
    refine SL.gpure (c := 6) rfl rfl rfl rfl rfl rfl rfl (PureOp.fieldAddrT 2 Try.underlying72 rfl sz3 rfl rfl) ?_
    refine SL.gpure (c := 6) rfl rfl rfl rfl rfl rfl rfl (PureOp.load (v := .int .i64 x.2.2.1) Try.underlying3 rfl rfl (fun _ => (CellIs.cells 0 rfl rfl))) ?_
    refine SL.gpure (c := 6) rfl rfl rfl rfl rfl rfl rfl (PureOp.neq rfl rfl) ?_
    refine SL.gpure (c := 5) rfl rfl rfl rfl rfl rfl rfl (PureOp.and_ rfl rfl rfl rfl) ?_
    refine SL.pure rfl rfl rfl (PureOp.or_ rfl rfl rfl rfl) ?_
    refine SL.pure rfl rfl rfl (PureOp.move rfl) ?_
    refine SL.newg 46 false rfl ?_
    refine SL.gpure (c := 7) rfl rfl rfl rfl rfl rfl rfl (PureOp.fieldAddrT 0 Try.underlying72 rfl sz3 rfl rfl) ?_
    refine SL.gpure (c := 7) rfl rfl rfl rfl rfl rfl rfl (PureOp.load (v := .int .i64 x.1) Try.underlying3 rfl rfl (fun _ => (CellIs.cells 0 rfl rfl))) ?_
    refine SL.gcalle (c := 7) rfl rfl rfl rfl rfl rfl rfl rfl rfl rfl callable90 (by intro hg; simp [gval] at hg; exact (fun w hw => numbersk_ok x.1 w)) ?_
    refine SL.norm [_] rfl ?_
    refine SL.gpure (c := 7) rfl rfl rfl rfl rfl rfl rfl (PureOp.lss rfl rfl) ?_
    refine SL.gpure (c := 7) rfl rfl rfl rfl rfl rfl rfl (PureOp.move rfl) ?_
    refine SL.newg 51 true rfl ?_
    refine SL.gpure (c := 8) rfl rfl rfl rfl rfl rfl rfl (PureOp.fieldAddrT 3 Try.underlying72 rfl sz3 rfl rfl) ?_
    refine SL.gpure (c := 8) rfl rfl rfl rfl rfl rfl rfl (PureOp.load (v := .int .i64 x.2.2.2.1) Try.underlying3 rfl rfl (fun _ => (CellIs.cells 0 rfl rfl))) ?_
    refine SL.gpure (c := 8) rfl rfl rfl rfl rfl rfl rfl (PureOp.neq rfl rfl) ?_
    refine SL.gpure (c := 7) rfl rfl rfl rfl rfl rfl rfl (PureOp.and_ rfl rfl rfl rfl) ?_
    refine SL.pure rfl rfl rfl (PureOp.or_ rfl rfl rfl rfl) ?_
    refine SL.pure rfl rfl rfl (PureOp.assign rfl) ?_
    refine SL.nil_then ?_
    refine WC.ret ?_
    refine QX.ret1 rfl rfl ?_
    intro w hw
    exact ⟨_, rfl⟩

set_option maxHeartbeats 4000000 in
set_option maxRecDepth 100000 in
theorem wrong_any (x : Cd) (w0 : World) : FnC Try.prog 83 [.agg #[.int .i64 x.1, .slice x.2.1.ao x.2.1.l.length x.2.1.cap, .int .i64 x.2.2.1, .int .i64 x.2.2.2.1, .int .i64 x.2.2.2.2.1.1, .int .i64 x.2.2.2.2.1.2.1, .int .i64 x.2.2.2.2.1.2.2, .slice x.2.2.2.2.2.ao x.2.2.2.2.2.l.length x.2.2.2.2.2.cap]] w0 fun v w' => ∃ b, v = .bool b := by
  refine fnc (N := 76) Try.func83 rfl rfl rfl ?_
  refine WC.seq ?_
  refine WC.region ?_
  refine SL.box rfl rfl rfl (fun b1 hb1 => ?_)
  refine SL.norm [_] rfl ?_
  refine SL.pure rfl rfl rfl (PureOp.assign rfl) ?_
  refine SL.nil_then ?_
  refine WC.seq ?_
  refine WC.seq ?_
  refine WC.region ?_
  refine SL.pure rfl rfl rfl (PureOp.fieldAddrT 0 Try.underlying72 rfl sz3 rfl rfl) ?_
  refine SL.pure rfl rfl rfl (PureOp.load (v := .int .i64 x.1) Try.underlying3 rfl rfl (fun _ => (CellIs.cells 0 rfl rfl))) ?_
  refine SL.nil_then ?_
  refine WC.block ?_
  refine WC.seq ?_
  refine WC.seq ?_
  refine WC.region ?_
  refine SL.pure rfl rfl rfl (PureOp.eql rfl rfl) ?_
  refine SL.pure rfl rfl rfl (PureOp.assign rfl) ?_
  refine SL.nil_then ?_
  refine WC.cond rfl (fun h1 => ?_) (fun h1 => ?_)
  · try simp only [Bool.and_eq_true, Bool.or_eq_true, Bool.not_eq_true', Bool.not_eq_false', Bool.and_eq_false_iff, Bool.or_eq_false_iff, decide_eq_true_eq, decide_eq_false_iff_not, Int.not_lt, Int.not_le, ne_eq, Decidable.not_not] at h1
    refine WC.skip ?_
    refine QX.then_ ?_
    refine WC.cond rfl (fun h2 => ?_) (fun h2 => ?_)
    · try simp only [Bool.and_eq_true, Bool.or_eq_true, Bool.not_eq_true', Bool.not_eq_false', Bool.and_eq_false_iff, Bool.or_eq_false_iff, decide_eq_true_eq, decide_eq_false_iff_not, Int.not_lt, Int.not_le, ne_eq, Decidable.not_not] at h2
      refine WC.seq ?_
      refine WC.region ?_
      refine SL.pure rfl rfl rfl (PureOp.fieldAddrT 1 Try.underlying72 rfl sz67 rfl rfl) ?_
      refine SL.pure rfl rfl rfl (PureOp.load (v := .slice x.2.1.ao x.2.1.l.length x.2.1.cap) Try.underlying67 rfl rfl (fun _ => (CellIs.cells 0 rfl rfl))) ?_
      refine SL.pure rfl rfl rfl (PureOp.len rfl Try.underlying67) ?_
      refine SL.pure rfl rfl rfl (PureOp.eql rfl rfl) ?_
      refine SL.pure rfl rfl rfl (PureOp.assign rfl) ?_
      refine SL.nil_then ?_
      refine WC.ret ?_
      refine QX.ret_in ?_
      refine QX.ret_then ?_
      refine QX.ret1 rfl rfl ?_
      intro w hw
      exact ⟨_, rfl⟩
    · try simp only [Bool.and_eq_true, Bool.or_eq_true, Bool.not_eq_true', Bool.not_eq_false', Bool.and_eq_false_iff, Bool.or_eq_false_iff, decide_eq_true_eq, decide_eq_false_iff_not, Int.not_lt, Int.not_le, ne_eq, Decidable.not_not] at h2
      refine WC.seq ?_
      refine WC.region ?_
      refine SL.pure rfl rfl rfl (PureOp.eql rfl rfl) ?_
      refine SL.pure rfl rfl rfl (PureOp.assign rfl) ?_
      refine SL.nil_then ?_
      refine WC.cond rfl (fun h3 => ?_) (fun h3 => ?_)
      · try simp only [Bool.and_eq_true, Bool.or_eq_true, Bool.not_eq_true', Bool.not_eq_false', Bool.and_eq_false_iff, Bool.or_eq_false_iff, decide_eq_true_eq, decide_eq_false_iff_not, Int.not_lt, Int.not_le, ne_eq, Decidable.not_not] at h3
        refine WC.seq ?_
        refine WC.region ?_
        refine SL.pure rfl rfl rfl (PureOp.fieldAddrT 1 Try.underlying72 rfl sz67 rfl rfl) ?_
        refine SL.pure rfl rfl rfl (PureOp.load (v := .slice x.2.1.ao x.2.1.l.length x.2.1.cap) Try.underlying67 rfl rfl (fun _ => (CellIs.cells 0 rfl rfl))) ?_
        refine SL.pure rfl rfl rfl (PureOp.len rfl Try.underlying67) ?_
        refine SL.pure rfl rfl rfl (PureOp.neq rfl rfl) ?_
        refine SL.pure rfl rfl rfl (PureOp.assign rfl) ?_
        refine SL.nil_then ?_
        refine WC.ret ?_
        refine QX.ret_in ?_
        refine QX.ret_then ?_
        refine QX.ret1 rfl rfl ?_
        intro w hw
        exact ⟨_, rfl⟩
      · try simp only [Bool.and_eq_true, Bool.or_eq_true, Bool.not_eq_true', Bool.not_eq_false', Bool.and_eq_false_iff, Bool.or_eq_false_iff, decide_eq_true_eq, decide_eq_false_iff_not, Int.not_lt, Int.not_le, ne_eq, Decidable.not_not] at h3
        refine WC.seq ?_
        refine WC.region ?_
        refine SL.pure rfl rfl rfl (PureOp.eql rfl rfl) ?_
        refine SL.pure rfl rfl rfl (PureOp.assign rfl) ?_
        refine SL.nil_then ?_
        refine WC.cond rfl (fun h4 => ?_) (fun h4 => ?_)
        · try simp only [Bool.and_eq_true, Bool.or_eq_true, Bool.not_eq_true', Bool.not_eq_false', Bool.and_eq_false_iff, Bool.or_eq_false_iff, decide_eq_true_eq, decide_eq_false_iff_not, Int.not_lt, Int.not_le, ne_eq, Decidable.not_not] at h4
          refine WC.seq ?_
          refine WC.region ?_
          refine SL.pure rfl rfl rfl (PureOp.fieldAddrT 2 Try.underlying72 rfl sz3 rfl rfl) ?_
          refine SL.pure rfl rfl rfl (PureOp.load (v := .int .i64 x.2.2.1) Try.underlying3 rfl rfl (fun _ => (CellIs.cells 0 rfl rfl))) ?_
          refine SL.pure rfl rfl rfl (PureOp.lss rfl rfl) ?_
          refine SL.pure rfl rfl rfl (PureOp.move rfl) ?_
          refine SL.newg 23 false rfl ?_
          refine SL.gpure (c := 1) rfl rfl rfl rfl rfl rfl rfl (PureOp.fieldAddrT 2 Try.underlying72 rfl sz3 rfl rfl) ?_
          refine SL.gpure (c := 1) rfl rfl rfl rfl rfl rfl rfl (PureOp.load (v := .int .i64 x.2.2.1) Try.underlying3 rfl rfl (fun _ => (CellIs.cells 0 rfl rfl))) ?_
          refine SL.gpure (c := 1) rfl rfl rfl rfl rfl rfl rfl (PureOp.geq rfl rfl) ?_
          refine SL.pure rfl rfl rfl (PureOp.or_ rfl rfl rfl rfl) ?_
          refine SL.pure rfl rfl rfl (PureOp.assign rfl) ?_
          refine SL.nil_then ?_
          refine WC.ret ?_
          refine QX.ret_in ?_
          refine QX.ret_then ?_
          refine QX.ret1 rfl rfl ?_
          intro w hw
          exact ⟨_, rfl⟩
        · try simp only [Bool.and_eq_true, Bool.or_eq_true, Bool.not_eq_true', Bool.not_eq_false', Bool.and_eq_false_iff, Bool.or_eq_false_iff, decide_eq_true_eq, decide_eq_false_iff_not, Int.not_lt, Int.not_le, ne_eq, Decidable.not_not] at h4
          refine WC.seq ?_
          refine WC.region ?_
          refine SL.pure rfl rfl rfl (PureOp.eql rfl rfl) ?_
          refine SL.pure rfl rfl rfl (PureOp.assign rfl) ?_
          refine SL.nil_then ?_
          refine WC.cond rfl (fun h5 => ?_) (fun h5 => ?_)
          · try simp only [Bool.and_eq_true, Bool.or_eq_true, Bool.not_eq_true', Bool.not_eq_false', Bool.and_eq_false_iff, Bool.or_eq_false_iff, decide_eq_true_eq, decide_eq_false_iff_not, Int.not_lt, Int.not_le, ne_eq, Decidable.not_not] at h5
            refine WC.seq ?_
            refine WC.region ?_
            refine SL.pure rfl rfl rfl (PureOp.fieldAddrT 2 Try.underlying72 rfl sz3 rfl rfl) ?_
            refine SL.pure rfl rfl rfl (PureOp.load (v := .int .i64 x.2.2.1) Try.underlying3 rfl rfl (fun _ => (CellIs.cells 0 rfl rfl))) ?_
            refine SL.pure rfl rfl rfl (PureOp.lss rfl rfl) ?_
            refine SL.pure rfl rfl rfl (PureOp.move rfl) ?_
            refine SL.newg 33 false rfl ?_
            refine SL.gpure (c := 1) rfl rfl rfl rfl rfl rfl rfl (PureOp.fieldAddrT 2 Try.underlying72 rfl sz3 rfl rfl) ?_
            refine SL.gpure (c := 1) rfl rfl rfl rfl rfl rfl rfl (PureOp.load (v := .int .i64 x.2.2.1) Try.underlying3 rfl rfl (fun _ => (CellIs.cells 0 rfl rfl))) ?_
            refine SL.gpure (c := 1) rfl rfl rfl rfl rfl rfl rfl (PureOp.geq rfl rfl) ?_
            refine SL.pure rfl rfl rfl (PureOp.or_ rfl rfl rfl rfl) ?_
            refine SL.pure rfl rfl rfl (PureOp.move rfl) ?_
            refine SL.newg 38 false rfl ?_
            refine SL.gpure (c := 2) rfl rfl rfl rfl rfl rfl rfl (PureOp.fieldAddrT 3 Try.underlying72 rfl sz3 rfl rfl) ?_
            refine SL.gpure (c := 2) rfl rfl rfl rfl rfl rfl rfl (PureOp.load (v := .int .i64 x.2.2.2.1) Try.underlying3 rfl rfl (fun _ => (CellIs.cells 0 rfl rfl))) ?_
            refine SL.gpure (c := 2) rfl rfl rfl rfl rfl rfl rfl (PureOp.lss rfl rfl) ?_
            refine SL.pure rfl rfl rfl (PureOp.or_ rfl rfl rfl rfl) ?_
            refine SL.pure rfl rfl rfl (PureOp.move rfl) ?_
            refine SL.newg 43 false rfl ?_
            refine SL.gpure (c := 3) rfl rfl rfl rfl rfl rfl rfl (PureOp.fieldAddrT 3 Try.underlying72 rfl sz3 rfl rfl) ?_
            refine SL.gpure (c := 3) rfl rfl rfl rfl rfl rfl rfl (PureOp.load (v := .int .i64 x.2.2.2.1) Try.underlying3 rfl rfl (fun _ => (CellIs.cells 0 rfl rfl))) ?_
            refine SL.gpure (c := 3) rfl rfl rfl rfl rfl rfl rfl (PureOp.geq rfl rfl) ?_
            refine SL.pure rfl rfl rfl (PureOp.or_ rfl rfl rfl rfl) ?_
            refine SL.pure rfl rfl rfl (PureOp.assign rfl) ?_
            refine SL.nil_then ?_
            refine WC.ret ?_
            refine QX.ret_in ?_
            refine QX.ret_then ?_
            refine QX.ret1 rfl rfl ?_
            intro w hw
            exact ⟨_, rfl⟩
          · try simp only [Bool.and_eq_true, Bool.or_eq_true, Bool.not_eq_true', Bool.not_eq_false', Bool.and_eq_false_iff, Bool.or_eq_false_iff, decide_eq_true_eq, decide_eq_false_iff_not, Int.not_lt, Int.not_le, ne_eq, Decidable.not_not] at h5
            refine WC.seq ?_
            refine WC.seq ?_
            refine WC.region ?_
            refine SL.pure rfl rfl rfl (PureOp.eql rfl rfl) ?_
            refine SL.pure rfl rfl rfl (PureOp.assign rfl) ?_
            refine SL.nil_then ?_
            refine WC.cond rfl (fun h6 => ?_) (fun h6 => ?_)
            · try simp only [Bool.and_eq_true, Bool.or_eq_true, Bool.not_eq_true', Bool.not_eq_false', Bool.and_eq_false_iff, Bool.or_eq_false_iff, decide_eq_true_eq, decide_eq_false_iff_not, Int.not_lt, Int.not_le, ne_eq, Decidable.not_not] at h6
              refine WC.skip ?_
              refine QX.then_ ?_
              refine WC.cond rfl (fun h7 => ?_) (fun h7 => ?_)
              · try simp only [Bool.and_eq_true, Bool.or_eq_true, Bool.not_eq_true', Bool.not_eq_false', Bool.and_eq_false_iff, Bool.or_eq_false_iff, decide_eq_true_eq, decide_eq_false_iff_not, Int.not_lt, Int.not_le, ne_eq, Decidable.not_not] at h7
                refine WC.seq ?_
                refine WC.region ?_
                refine SL.pure rfl rfl rfl (PureOp.fieldAddrT 2 Try.underlying72 rfl sz3 rfl rfl) ?_
                refine SL.pure rfl rfl rfl (PureOp.load (v := .int .i64 x.2.2.1) Try.underlying3 rfl rfl (fun _ => (CellIs.cells 0 rfl rfl))) ?_
                refine SL.pure rfl rfl rfl (PureOp.lss rfl rfl) ?_
                refine SL.pure rfl rfl rfl (PureOp.move rfl) ?_
                refine SL.newg 54 false rfl ?_
                refine SL.gpure (c := 1) rfl rfl rfl rfl rfl rfl rfl (PureOp.fieldAddrT 2 Try.underlying72 rfl sz3 rfl rfl) ?_
                refine SL.gpure (c := 1) rfl rfl rfl rfl rfl rfl rfl (PureOp.load (v := .int .i64 x.2.2.1) Try.underlying3 rfl rfl (fun _ => (CellIs.cells 0 rfl rfl))) ?_
                refine SL.gpure (c := 1) rfl rfl rfl rfl rfl rfl rfl (PureOp.gtr rfl rfl) ?_
                refine SL.pure rfl rfl rfl (PureOp.or_ rfl rfl rfl rfl) ?_
                refine SL.pure rfl rfl rfl (PureOp.assign rfl) ?_
                refine SL.nil_then ?_
                refine WC.ret ?_
                refine QX.ret_in ?_
                refine QX.ret_then ?_
                refine QX.ret1 rfl rfl ?_
                intro w hw
                exact ⟨_, rfl⟩
              · try simp only [Bool.and_eq_true, Bool.or_eq_true, Bool.not_eq_true', Bool.not_eq_false', Bool.and_eq_false_iff, Bool.or_eq_false_iff, decide_eq_true_eq, decide_eq_false_iff_not, Int.not_lt, Int.not_le, ne_eq, Decidable.not_not] at h7
                refine WC.seq ?_
                refine WC.region ?_
                refine SL.pure rfl rfl rfl (PureOp.eql rfl rfl) ?_
                refine SL.pure rfl rfl rfl (PureOp.assign rfl) ?_
                refine SL.nil_then ?_
                refine WC.cond rfl (fun h8 => ?_) (fun h8 => ?_)
                · try simp only [Bool.and_eq_true, Bool.or_eq_true, Bool.not_eq_true', Bool.not_eq_false', Bool.and_eq_false_iff, Bool.or_eq_false_iff, decide_eq_true_eq, decide_eq_false_iff_not, Int.not_lt, Int.not_le, ne_eq, Decidable.not_not] at h8
                  refine WC.seq ?_
                  refine WC.region ?_
                  refine SL.pure rfl rfl rfl (PureOp.fieldAddrT 2 Try.underlying72 rfl sz3 rfl rfl) ?_
                  refine SL.pure rfl rfl rfl (PureOp.load (v := .int .i64 x.2.2.1) Try.underlying3 rfl rfl (fun _ => (CellIs.cells 0 rfl rfl))) ?_
                  refine SL.pure rfl rfl rfl (PureOp.lss rfl rfl) ?_
                  refine SL.pure rfl rfl rfl (PureOp.move rfl) ?_
                  refine SL.newg 64 false rfl ?_
                  refine SL.gpure (c := 1) rfl rfl rfl rfl rfl rfl rfl (PureOp.fieldAddrT 2 Try.underlying72 rfl sz3 rfl rfl) ?_
                  refine SL.gpure (c := 1) rfl rfl rfl rfl rfl rfl rfl (PureOp.load (v := .int .i64 x.2.2.1) Try.underlying3 rfl rfl (fun _ => (CellIs.cells 0 rfl rfl))) ?_
                  refine SL.gpure (c := 1) rfl rfl rfl rfl rfl rfl rfl (PureOp.fieldAddrT 3 Try.underlying72 rfl sz3 rfl rfl) ?_
                  refine SL.gpure (c := 1) rfl rfl rfl rfl rfl rfl rfl (PureOp.load (v := .int .i64 x.2.2.2.1) Try.underlying3 rfl rfl (fun _ => (CellIs.cells 0 rfl rfl))) ?_
                  refine SL.gpure (c := 1) rfl rfl rfl rfl rfl rfl rfl (PureOp.gtr rfl rfl) ?_
                  refine SL.pure rfl rfl rfl (PureOp.or_ rfl rfl rfl rfl) ?_
                  refine SL.pure rfl rfl rfl (PureOp.move rfl) ?_
                  refine SL.newg 71 false rfl ?_
                  refine SL.gpure (c := 2) rfl rfl rfl rfl rfl rfl rfl (PureOp.fieldAddrT 3 Try.underlying72 rfl sz3 rfl rfl) ?_
                  refine SL.gpure (c := 2) rfl rfl rfl rfl rfl rfl rfl (PureOp.load (v := .int .i64 x.2.2.2.1) Try.underlying3 rfl rfl (fun _ => (CellIs.cells 0 rfl rfl))) ?_
                  refine SL.gpure (c := 2) rfl rfl rfl rfl rfl rfl rfl (PureOp.gtr rfl rfl) ?_
                  refine SL.pure rfl rfl rfl (PureOp.or_ rfl rfl rfl rfl) ?_
                  refine SL.pure rfl rfl rfl (PureOp.assign rfl) ?_
                  refine SL.nil_then ?_
                  refine WC.ret ?_
                  refine QX.ret_in ?_
                  refine QX.ret_then ?_
                  refine QX.ret1 rfl rfl ?_
                  intro w hw
                  exact ⟨_, rfl⟩
                · try simp only [Bool.and_eq_true, Bool.or_eq_true, Bool.not_eq_true', Bool.not_eq_false', Bool.and_eq_false_iff, Bool.or_eq_false_iff, decide_eq_true_eq, decide_eq_false_iff_not, Int.not_lt, Int.not_le, ne_eq, Decidable.not_not] at h8
                  refine WC.skip ?_
                  refine QX.normal_in ?_
                  refine QX.then_ ?_
                  refine WC.seq ?_
                  refine WC.region ?_
                  refine SL.pure rfl rfl rfl (PureOp.assign rfl) ?_
                  refine SL.nil_then ?_
                  refine WC.ret ?_
                  refine QX.ret1 rfl rfl ?_
                  intro w hw
                  exact ⟨_, rfl⟩
            · try simp only [Bool.and_eq_true, Bool.or_eq_true, Bool.not_eq_true', Bool.not_eq_false', Bool.and_eq_false_iff, Bool.or_eq_false_iff, decide_eq_true_eq, decide_eq_false_iff_not, Int.not_lt, Int.not_le, ne_eq, Decidable.not_not] at h6
              refine WC.region ?_
              refine SL.pure rfl rfl rfl (PureOp.eql rfl rfl) ?_
              refine SL.pure rfl rfl rfl (PureOp.assign rfl) ?_
              refine SL.nil_then ?_
              refine WC.cond rfl (fun h9 => ?_) (fun h9 => ?_)
              · try simp only [Bool.and_eq_true, Bool.or_eq_true, Bool.not_eq_true', Bool.not_eq_false', Bool.and_eq_false_iff, Bool.or_eq_false_iff, decide_eq_true_eq, decide_eq_false_iff_not, Int.not_lt, Int.not_le, ne_eq, Decidable.not_not] at h9
                refine WC.seq ?_
                refine WC.region ?_
                refine SL.pure rfl rfl rfl (PureOp.fieldAddrT 2 Try.underlying72 rfl sz3 rfl rfl) ?_
                refine SL.pure rfl rfl rfl (PureOp.load (v := .int .i64 x.2.2.1) Try.underlying3 rfl rfl (fun _ => (CellIs.cells 0 rfl rfl))) ?_
                refine SL.pure rfl rfl rfl (PureOp.lss rfl rfl) ?_
                refine SL.pure rfl rfl rfl (PureOp.move rfl) ?_
                refine SL.newg 54 false rfl ?_
                refine SL.gpure (c := 1) rfl rfl rfl rfl rfl rfl rfl (PureOp.fieldAddrT 2 Try.underlying72 rfl sz3 rfl rfl) ?_
                refine SL.gpure (c := 1) rfl rfl rfl rfl rfl rfl rfl (PureOp.load (v := .int .i64 x.2.2.1) Try.underlying3 rfl rfl (fun _ => (CellIs.cells 0 rfl rfl))) ?_
                refine SL.gpure (c := 1) rfl rfl rfl rfl rfl rfl rfl (PureOp.gtr rfl rfl) ?_
                refine SL.pure rfl rfl rfl (PureOp.or_ rfl rfl rfl rfl) ?_
                refine SL.pure rfl rfl rfl (PureOp.assign rfl) ?_
                refine SL.nil_then ?_
                refine WC.ret ?_
                refine QX.ret_in ?_
                refine QX.ret_then ?_
                refine QX.ret1 rfl rfl ?_
                intro w hw
                exact ⟨_, rfl⟩
              · try simp only [Bool.and_eq_true, Bool.or_eq_true, Bool.not_eq_true', Bool.not_eq_false', Bool.and_eq_false_iff, Bool.or_eq_false_iff, decide_eq_true_eq, decide_eq_false_iff_not, Int.not_lt, Int.not_le, ne_eq, Decidable.not_not] at h9
                refine WC.seq ?_
                refine WC.region ?_
                refine SL.pure rfl rfl rfl (PureOp.eql rfl rfl) ?_
                refine SL.pure rfl rfl rfl (PureOp.assign rfl) ?_
                refine SL.nil_then ?_
                refine WC.cond rfl (fun h10 => ?_) (fun h10 => ?_)
                · try simp only [Bool.and_eq_true, Bool.or_eq_true, Bool.not_eq_true', Bool.not_eq_false', Bool.and_eq_false_iff, Bool.or_eq_false_iff, decide_eq_true_eq, decide_eq_false_iff_not, Int.not_lt, Int.not_le, ne_eq, Decidable.not_not] at h10
                  refine WC.seq ?_
                  refine WC.region ?_
                  refine SL.pure rfl rfl rfl (PureOp.fieldAddrT 2 Try.underlying72 rfl sz3 rfl rfl) ?_
                  refine SL.pure rfl rfl rfl (PureOp.load (v := .int .i64 x.2.2.1) Try.underlying3 rfl rfl (fun _ => (CellIs.cells 0 rfl rfl))) ?_
                  refine SL.pure rfl rfl rfl (PureOp.lss rfl rfl) ?_
                  refine SL.pure rfl rfl rfl (PureOp.move rfl) ?_
                  refine SL.newg 64 false rfl ?_
                  refine SL.gpure (c := 1) rfl rfl rfl rfl rfl rfl rfl (PureOp.fieldAddrT 2 Try.underlying72 rfl sz3 rfl rfl) ?_
                  refine SL.gpure (c := 1) rfl rfl rfl rfl rfl rfl rfl (PureOp.load (v := .int .i64 x.2.2.1) Try.underlying3 rfl rfl (fun _ => (CellIs.cells 0 rfl rfl))) ?_
                  refine SL.gpure (c := 1) rfl rfl rfl rfl rfl rfl rfl (PureOp.fieldAddrT 3 Try.underlying72 rfl sz3 rfl rfl) ?_
                  refine SL.gpure (c := 1) rfl rfl rfl rfl rfl rfl rfl (PureOp.load (v := .int .i64 x.2.2.2.1) Try.underlying3 rfl rfl (fun _ => (CellIs.cells 0 rfl rfl))) ?_
                  refine SL.gpure (c := 1) rfl rfl rfl rfl rfl rfl rfl (PureOp.gtr rfl rfl) ?_
                  refine SL.pure rfl rfl rfl (PureOp.or_ rfl rfl rfl rfl) ?_
                  refine SL.pure rfl rfl rfl (PureOp.move rfl) ?_
                  refine SL.newg 71 false rfl ?_
                  refine SL.gpure (c := 2) rfl rfl rfl rfl rfl rfl rfl (PureOp.fieldAddrT 3 Try.underlying72 rfl sz3 rfl rfl) ?_
                  refine SL.gpure (c := 2) rfl rfl rfl rfl rfl rfl rfl (PureOp.load (v := .int .i64 x.2.2.2.1) Try.underlying3 rfl rfl (fun _ => (CellIs.cells 0 rfl rfl))) ?_
                  refine SL.gpure (c := 2) rfl rfl rfl rfl rfl rfl rfl (PureOp.gtr rfl rfl) ?_
                  refine SL.pure rfl rfl rfl (PureOp.or_ rfl rfl rfl rfl) ?_
                  refine SL.pure rfl rfl rfl (PureOp.assign rfl) ?_
                  refine SL.nil_then ?_
                  refine WC.ret ?_
                  refine QX.ret_in ?_
                  refine QX.ret_then ?_
                  refine QX.ret1 rfl rfl ?_
                  intro w hw
                  exact ⟨_, rfl⟩
                · try simp only [Bool.and_eq_true, Bool.or_eq_true, Bool.not_eq_true', Bool.not_eq_false', Bool.and_eq_false_iff, Bool.or_eq_false_iff, decide_eq_true_eq, decide_eq_false_iff_not, Int.not_lt, Int.not_le, ne_eq, Decidable.not_not] at h10
                  refine WC.skip ?_
                  refine QX.normal_in ?_
                  refine QX.then_ ?_
                  refine WC.seq ?_
                  refine WC.region ?_
                  refine SL.pure rfl rfl rfl (PureOp.assign rfl) ?_
                  refine SL.nil_then ?_
                  refine WC.ret ?_
                  refine QX.ret1 rfl rfl ?_
                  intro w hw
                  exact ⟨_, rfl⟩
  · try simp only [Bool.and_eq_true, Bool.or_eq_true, Bool.not_eq_true', Bool.not_eq_false', Bool.and_eq_false_iff, Bool.or_eq_false_iff, decide_eq_true_eq, decide_eq_false_iff_not, Int.not_lt, Int.not_le, ne_eq, Decidable.not_not] at h1
    refine WC.region ?_
    refine SL.pure rfl rfl rfl (PureOp.eql rfl rfl) ?_
    refine SL.pure rfl rfl rfl (PureOp.assign rfl) ?_
    refine SL.nil_then ?_
    refine WC.cond rfl (fun h11 => ?_) (fun h11 => ?_)
    · try simp only [Bool.and_eq_true, Bool.or_eq_true, Bool.not_eq_true', Bool.not_eq_false', Bool.and_eq_false_iff, Bool.or_eq_false_iff, decide_eq_true_eq, decide_eq_false_iff_not, Int.not_lt, Int.not_le, ne_eq, Decidable.not_not] at h11
      refine WC.seq ?_
      refine WC.region ?_
      refine SL.pure rfl rfl rfl (PureOp.fieldAddrT 1 Try.underlying72 rfl sz67 rfl rfl) ?_
      refine SL.pure rfl rfl rfl (PureOp.load (v := .slice x.2.1.ao x.2.1.l.length x.2.1.cap) Try.underlying67 rfl rfl (fun _ => (CellIs.cells 0 rfl rfl))) ?_
      refine SL.pure rfl rfl rfl (PureOp.len rfl Try.underlying67) ?_
      refine SL.pure rfl rfl rfl (PureOp.eql rfl rfl) ?_
      refine SL.pure rfl rfl rfl (PureOp.assign rfl) ?_
      refine SL.nil_then ?_
      refine WC.ret ?_
      refine QX.ret_in ?_
      refine QX.ret_then ?_
      refine QX.ret1 rfl rfl ?_
      intro w hw
      exact ⟨_, rfl⟩
    · try simp only [Bool.and_eq_true, Bool.or_eq_true, Bool.not_eq_true', Bool.not_eq_false', Bool.and_eq_false_iff, Bool.or_eq_false_iff, decide_eq_true_eq, decide_eq_false_iff_not, Int.not_lt, Int.not_le, ne_eq, Decidable.not_not] at h11
      refine WC.seq ?_
      refine WC.region ?_
      refine SL.pure rfl rfl rfl (PureOp.eql rfl rfl) ?_
      refine SL.pure rfl rfl rfl (PureOp.assign rfl) ?_
      refine SL.nil_then ?_
      refine WC.cond rfl (fun h12 => ?_) (fun h12 => ?_)
      · try simp only [Bool.and_eq_true, Bool.or_eq_true, Bool.not_eq_true', Bool.not_eq_false', Bool.and_eq_false_iff, Bool.or_eq_false_iff, decide_eq_true_eq, decide_eq_false_iff_not, Int.not_lt, Int.not_le, ne_eq, Decidable.not_not] at h12
        refine WC.seq ?_
        refine WC.region ?_
        refine SL.pure rfl rfl rfl (PureOp.fieldAddrT 1 Try.underlying72 rfl sz67 rfl rfl) ?_
        refine SL.pure rfl rfl rfl (PureOp.load (v := .slice x.2.1.ao x.2.1.l.length x.2.1.cap) Try.underlying67 rfl rfl (fun _ => (CellIs.cells 0 rfl rfl))) ?_
        refine SL.pure rfl rfl rfl (PureOp.len rfl Try.underlying67) ?_
        refine SL.pure rfl rfl rfl (PureOp.neq rfl rfl) ?_
        refine SL.pure rfl rfl rfl (PureOp.assign rfl) ?_
        refine SL.nil_then ?_
        refine WC.ret ?_
        refine QX.ret_in ?_
        refine QX.ret_then ?_
        refine QX.ret1 rfl rfl ?_
        intro w hw
        exact ⟨_, rfl⟩
      · try simp only [Bool.and_eq_true, Bool.or_eq_true, Bool.not_eq_true', Bool.not_eq_false', Bool.and_eq_false_iff, Bool.or_eq_false_iff, decide_eq_true_eq, decide_eq_false_iff_not, Int.not_lt, Int.not_le, ne_eq, Decidable.not_not] at h12
        refine WC.seq ?_
        refine WC.region ?_
        refine SL.pure rfl rfl rfl (PureOp.eql rfl rfl) ?_
        refine SL.pure rfl rfl rfl (PureOp.assign rfl) ?_
        refine SL.nil_then ?_
        refine WC.cond rfl (fun h13 => ?_) (fun h13 => ?_)
        · try simp only [Bool.and_eq_true, Bool.or_eq_true, Bool.not_eq_true', Bool.not_eq_false', Bool.and_eq_false_iff, Bool.or_eq_false_iff, decide_eq_true_eq, decide_eq_false_iff_not, Int.not_lt, Int.not_le, ne_eq, Decidable.not_not] at h13
          refine WC.seq ?_
          refine WC.region ?_
          refine SL.pure rfl rfl rfl (PureOp.fieldAddrT 2 Try.underlying72 rfl sz3 rfl rfl) ?_
          refine SL.pure rfl rfl rfl (PureOp.load (v := .int .i64 x.2.2.1) Try.underlying3 rfl rfl (fun _ => (CellIs.cells 0 rfl rfl))) ?_
          refine SL.pure rfl rfl rfl (PureOp.lss rfl rfl) ?_
          refine SL.pure rfl rfl rfl (PureOp.move rfl) ?_
          refine SL.newg 23 false rfl ?_
          refine SL.gpure (c := 1) rfl rfl rfl rfl rfl rfl rfl (PureOp.fieldAddrT 2 Try.underlying72 rfl sz3 rfl rfl) ?_
          refine SL.gpure (c := 1) rfl rfl rfl rfl rfl rfl rfl (PureOp.load (v := .int .i64 x.2.2.1) Try.underlying3 rfl rfl (fun _ => (CellIs.cells 0 rfl rfl))) ?_
          refine SL.gpure (c := 1) rfl rfl rfl rfl rfl rfl rfl (PureOp.geq rfl rfl) ?_
          refine SL.pure rfl rfl rfl (PureOp.or_ rfl rfl rfl rfl) ?_
          refine SL.pure rfl rfl rfl (PureOp.assign rfl) ?_
          refine SL.nil_then ?_
          refine WC.ret ?_
          refine QX.ret_in ?_
          refine QX.ret_then ?_
          refine QX.ret1 rfl rfl ?_
          intro w hw
          exact ⟨_, rfl⟩
        · try simp only [Bool.and_eq_true, Bool.or_eq_true, Bool.not_eq_true', Bool.not_eq_false', Bool.and_eq_false_iff, Bool.or_eq_false_iff, decide_eq_true_eq, decide_eq_false_iff_not, Int.not_lt, Int.not_le, ne_eq, Decidable.not_not] at h13
          refine WC.seq ?_
          refine WC.region ?_
          refine SL.pure rfl rfl rfl (PureOp.eql rfl rfl) ?_
          refine SL.pure rfl rfl rfl (PureOp.assign rfl) ?_
          refine SL.nil_then ?_
          refine WC.cond rfl (fun h14 => ?_) (fun h14 => ?_)
          · try simp only [Bool.and_eq_true, Bool.or_eq_true, Bool.not_eq_true', Bool.not_eq_false', Bool.and_eq_false_iff, Bool.or_eq_false_iff, decide_eq_true_eq, decide_eq_false_iff_not, Int.not_lt, Int.not_le, ne_eq, Decidable.not_not] at h14
            refine WC.seq ?_
            refine WC.region ?_
            refine SL.pure rfl rfl rfl (PureOp.fieldAddrT 2 Try.underlying72 rfl sz3 rfl rfl) ?_
            refine SL.pure rfl rfl rfl (PureOp.load (v := .int .i64 x.2.2.1) Try.underlying3 rfl rfl (fun _ => (CellIs.cells 0 rfl rfl))) ?_
            refine SL.pure rfl rfl rfl (PureOp.lss rfl rfl) ?_
            refine SL.pure rfl rfl rfl (PureOp.move rfl) ?_
            refine SL.newg 33 false rfl ?_
            refine SL.gpure (c := 1) rfl rfl rfl rfl rfl rfl rfl (PureOp.fieldAddrT 2 Try.underlying72 rfl sz3 rfl rfl) ?_
            refine SL.gpure (c := 1) rfl rfl rfl rfl rfl rfl rfl (PureOp.load (v := .int .i64 x.2.2.1) Try.underlying3 rfl rfl (fun _ => (CellIs.cells 0 rfl rfl))) ?_
            refine SL.gpure (c := 1) rfl rfl rfl rfl rfl rfl rfl (PureOp.geq rfl rfl) ?_
            refine SL.pure rfl rfl rfl (PureOp.or_ rfl rfl rfl rfl) ?_
            refine SL.pure rfl rfl rfl (PureOp.move rfl) ?_
            refine SL.newg 38 false rfl ?_
            refine SL.gpure (c := 2) rfl rfl rfl rfl rfl rfl rfl (PureOp.fieldAddrT 3 Try.underlying72 rfl sz3 rfl rfl) ?_
            refine SL.gpure (c := 2) rfl rfl rfl rfl rfl rfl rfl (PureOp.load (v := .int .i64 x.2.2.2.1) Try.underlying3 rfl rfl (fun _ => (CellIs.cells 0 rfl rfl))) ?_
            refine SL.gpure (c := 2) rfl rfl rfl rfl rfl rfl rfl (PureOp.lss rfl rfl) ?_
            refine SL.pure rfl rfl rfl (PureOp.or_ rfl rfl rfl rfl) ?_
            refine SL.pure rfl rfl rfl (PureOp.move rfl) ?_
            refine SL.newg 43 false rfl ?_
            refine SL.gpure (c := 3) rfl rfl rfl rfl rfl rfl rfl (PureOp.fieldAddrT 3 Try.underlying72 rfl sz3 rfl rfl) ?_
            refine SL.gpure (c := 3) rfl rfl rfl rfl rfl rfl rfl (PureOp.load (v := .int .i64 x.2.2.2.1) Try.underlying3 rfl rfl (fun _ => (CellIs.cells 0 rfl rfl))) ?_
            refine SL.gpure (c := 3) rfl rfl rfl rfl rfl rfl rfl (PureOp.geq rfl rfl) ?_
            refine SL.pure rfl rfl rfl (PureOp.or_ rfl rfl rfl rfl) ?_
            refine SL.pure rfl rfl rfl (PureOp.assign rfl) ?_
            refine SL.nil_then ?_
            refine WC.ret ?_
            refine QX.ret_in ?_
            refine QX.ret_then ?_
            refine QX.ret1 rfl rfl ?_
            intro w hw
            exact ⟨_, rfl⟩
          · try simp only [Bool.and_eq_true, Bool.or_eq_true, Bool.not_eq_true', Bool.not_eq_false', Bool.and_eq_false_iff, Bool.or_eq_false_iff, decide_eq_true_eq, decide_eq_false_iff_not, Int.not_lt, Int.not_le, ne_eq, Decidable.not_not] at h14
            refine WC.seq ?_
            refine WC.seq ?_
            refine WC.region ?_
            refine SL.pure rfl rfl rfl (PureOp.eql rfl rfl) ?_
            refine SL.pure rfl rfl rfl (PureOp.assign rfl) ?_
            refine SL.nil_then ?_
            refine WC.cond rfl (fun h15 => ?_) (fun h15 => ?_)
            · try simp only [Bool.and_eq_true, Bool.or_eq_true, Bool.not_eq_true', Bool.not_eq_false', Bool.and_eq_false_iff, Bool.or_eq_false_iff, decide_eq_true_eq, decide_eq_false_iff_not, Int.not_lt, Int.not_le, ne_eq, Decidable.not_not] at h15
              refine WC.skip ?_
              refine QX.then_ ?_
              refine WC.cond rfl (fun h16 => ?_) (fun h16 => ?_)
              · try simp only [Bool.and_eq_true, Bool.or_eq_true, Bool.not_eq_true', Bool.not_eq_false', Bool.and_eq_false_iff, Bool.or_eq_false_iff, decide_eq_true_eq, decide_eq_false_iff_not, Int.not_lt, Int.not_le, ne_eq, Decidable.not_not] at h16
                refine WC.seq ?_
                refine WC.region ?_
                refine SL.pure rfl rfl rfl (PureOp.fieldAddrT 2 Try.underlying72 rfl sz3 rfl rfl) ?_
                refine SL.pure rfl rfl rfl (PureOp.load (v := .int .i64 x.2.2.1) Try.underlying3 rfl rfl (fun _ => (CellIs.cells 0 rfl rfl))) ?_
                refine SL.pure rfl rfl rfl (PureOp.lss rfl rfl) ?_
                refine SL.pure rfl rfl rfl (PureOp.move rfl) ?_
                refine SL.newg 54 false rfl ?_
                refine SL.gpure (c := 1) rfl rfl rfl rfl rfl rfl rfl (PureOp.fieldAddrT 2 Try.underlying72 rfl sz3 rfl rfl) ?_
                refine SL.gpure (c := 1) rfl rfl rfl rfl rfl rfl rfl (PureOp.load (v := .int .i64 x.2.2.1) Try.underlying3 rfl rfl (fun _ => (CellIs.cells 0 rfl rfl))) ?_
                refine SL.gpure (c := 1) rfl rfl rfl rfl rfl rfl rfl (PureOp.gtr rfl rfl) ?_
                refine SL.pure rfl rfl rfl (PureOp.or_ rfl rfl rfl rfl) ?_
                refine SL.pure rfl rfl rfl (PureOp.assign rfl) ?_
                refine SL.nil_then ?_
                refine WC.ret ?_
                refine QX.ret_in ?_
                refine QX.ret_then ?_
                refine QX.ret1 rfl rfl ?_
                intro w hw
                exact ⟨_, rfl⟩
              · try simp only [Bool.and_eq_true, Bool.or_eq_true, Bool.not_eq_true', Bool.not_eq_false', Bool.and_eq_false_iff, Bool.or_eq_false_iff, decide_eq_true_eq, decide_eq_false_iff_not, Int.not_lt, Int.not_le, ne_eq, Decidable.not_not] at h16
                refine WC.seq ?_
                refine WC.region ?_
                refine SL.pure rfl rfl rfl (PureOp.eql rfl rfl) ?_
                refine SL.pure rfl rfl rfl (PureOp.assign rfl) ?_
                refine SL.nil_then ?_
                refine WC.cond rfl (fun h17 => ?_) (fun h17 => ?_)
                · try simp only [Bool.and_eq_true, Bool.or_eq_true, Bool.not_eq_true', Bool.not_eq_false', Bool.and_eq_false_iff, Bool.or_eq_false_iff, decide_eq_true_eq, decide_eq_false_iff_not, Int.not_lt, Int.not_le, ne_eq, Decidable.not_not] at h17
                  refine WC.seq ?_
                  refine WC.region ?_
                  refine SL.pure rfl rfl rfl (PureOp.fieldAddrT 2 Try.underlying72 rfl sz3 rfl rfl) ?_
                  refine SL.pure rfl rfl rfl (PureOp.load (v := .int .i64 x.2.2.1) Try.underlying3 rfl rfl (fun _ => (CellIs.cells 0 rfl rfl))) ?_
                  refine SL.pure rfl rfl rfl (PureOp.lss rfl rfl) ?_
                  refine SL.pure rfl rfl rfl (PureOp.move rfl) ?_
                  refine SL.newg 64 false rfl ?_
                  refine SL.gpure (c := 1) rfl rfl rfl rfl rfl rfl rfl (PureOp.fieldAddrT 2 Try.underlying72 rfl sz3 rfl rfl) ?_
                  refine SL.gpure (c := 1) rfl rfl rfl rfl rfl rfl rfl (PureOp.load (v := .int .i64 x.2.2.1) Try.underlying3 rfl rfl (fun _ => (CellIs.cells 0 rfl rfl))) ?_
                  refine SL.gpure (c := 1) rfl rfl rfl rfl rfl rfl rfl (PureOp.fieldAddrT 3 Try.underlying72 rfl sz3 rfl rfl) ?_
                  refine SL.gpure (c := 1) rfl rfl rfl rfl rfl rfl rfl (PureOp.load (v := .int .i64 x.2.2.2.1) Try.underlying3 rfl rfl (fun _ => (CellIs.cells 0 rfl rfl))) ?_
                  refine SL.gpure (c := 1) rfl rfl rfl rfl rfl rfl rfl (PureOp.gtr rfl rfl) ?_
                  refine SL.pure rfl rfl rfl (PureOp.or_ rfl rfl rfl rfl) ?_
                  refine SL.pure rfl rfl rfl (PureOp.move rfl) ?_
                  refine SL.newg 71 false rfl ?_
                  refine SL.gpure (c := 2) rfl rfl rfl rfl rfl rfl rfl (PureOp.fieldAddrT 3 Try.underlying72 rfl sz3 rfl rfl) ?_
                  refine SL.gpure (c := 2) rfl rfl rfl rfl rfl rfl rfl (PureOp.load (v := .int .i64 x.2.2.2.1) Try.underlying3 rfl rfl (fun _ => (CellIs.cells 0 rfl rfl))) ?_
                  refine SL.gpure (c := 2) rfl rfl rfl rfl rfl rfl rfl (PureOp.gtr rfl rfl) ?_
                  refine SL.pure rfl rfl rfl (PureOp.or_ rfl rfl rfl rfl) ?_
                  refine SL.pure rfl rfl rfl (PureOp.assign rfl) ?_
                  refine SL.nil_then ?_
                  refine WC.ret ?_
                  refine QX.ret_in ?_
                  refine QX.ret_then ?_
                  refine QX.ret1 rfl rfl ?_
                  intro w hw
                  exact ⟨_, rfl⟩
                · try simp only [Bool.and_eq_true, Bool.or_eq_true, Bool.not_eq_true', Bool.not_eq_false', Bool.and_eq_false_iff, Bool.or_eq_false_iff, decide_eq_true_eq, decide_eq_false_iff_not, Int.not_lt, Int.not_le, ne_eq, Decidable.not_not] at h17
                  refine WC.skip ?_
                  refine QX.normal_in ?_
                  refine QX.then_ ?_
                  refine WC.seq ?_
                  refine WC.region ?_
                  refine SL.pure rfl rfl rfl (PureOp.assign rfl) ?_
                  refine SL.nil_then ?_
                  refine WC.ret ?_
                  refine QX.ret1 rfl rfl ?_
                  intro w hw
                  exact ⟨_, rfl⟩
            · try simp only [Bool.and_eq_true, Bool.or_eq_true, Bool.not_eq_true', Bool.not_eq_false', Bool.and_eq_false_iff, Bool.or_eq_false_iff, decide_eq_true_eq, decide_eq_false_iff_not, Int.not_lt, Int.not_le, ne_eq, Decidable.not_not] at h15
              refine WC.region ?_
              refine SL.pure rfl rfl rfl (PureOp.eql rfl rfl) ?_
              refine SL.pure rfl rfl rfl (PureOp.assign rfl) ?_
              refine SL.nil_then ?_
              refine WC.cond rfl (fun h18 => ?_) (fun h18 => ?_)
              · try simp only [Bool.and_eq_true, Bool.or_eq_true, Bool.not_eq_true', Bool.not_eq_false', Bool.and_eq_false_iff, Bool.or_eq_false_iff, decide_eq_true_eq, decide_eq_false_iff_not, Int.not_lt, Int.not_le, ne_eq, Decidable.not_not] at h18
                refine WC.seq ?_
                refine WC.region ?_
                refine SL.pure rfl rfl rfl (PureOp.fieldAddrT 2 Try.underlying72 rfl sz3 rfl rfl) ?_
                refine SL.pure rfl rfl rfl (PureOp.load (v := .int .i64 x.2.2.1) Try.underlying3 rfl rfl (fun _ => (CellIs.cells 0 rfl rfl))) ?_
                refine SL.pure rfl rfl rfl (PureOp.lss rfl rfl) ?_
                refine SL.pure rfl rfl rfl (PureOp.move rfl) ?_
                refine SL.newg 54 false rfl ?_
                refine SL.gpure (c := 1) rfl rfl rfl rfl rfl rfl rfl (PureOp.fieldAddrT 2 Try.underlying72 rfl sz3 rfl rfl) ?_
                refine SL.gpure (c := 1) rfl rfl rfl rfl rfl rfl rfl (PureOp.load (v := .int .i64 x.2.2.1) Try.underlying3 rfl rfl (fun _ => (CellIs.cells 0 rfl rfl))) ?_
                refine SL.gpure (c := 1) rfl rfl rfl rfl rfl rfl rfl (PureOp.gtr rfl rfl) ?_
                refine SL.pure rfl rfl rfl (PureOp.or_ rfl rfl rfl rfl) ?_
                refine SL.pure rfl rfl rfl (PureOp.assign rfl) ?_
                refine SL.nil_then ?_
                refine WC.ret ?_
                refine QX.ret_in ?_
                refine QX.ret_then ?_
                refine QX.ret1 rfl rfl ?_
                intro w hw
                exact ⟨_, rfl⟩
              · try simp only [Bool.and_eq_true, Bool.or_eq_true, Bool.not_eq_true', Bool.not_eq_false', Bool.and_eq_false_iff, Bool.or_eq_false_iff, decide_eq_true_eq, decide_eq_false_iff_not, Int.not_lt, Int.not_le, ne_eq, Decidable.not_not] at h18
                refine WC.seq ?_
                refine WC.region ?_
                refine SL.pure rfl rfl rfl (PureOp.eql rfl rfl) ?_
                refine SL.pure rfl rfl rfl (PureOp.assign rfl) ?_
                refine SL.nil_then ?_
                refine WC.cond rfl (fun h19 => ?_) (fun h19 => ?_)
                · try simp only [Bool.and_eq_true, Bool.or_eq_true, Bool.not_eq_true', Bool.not_eq_false', Bool.and_eq_false_iff, Bool.or_eq_false_iff, decide_eq_true_eq, decide_eq_false_iff_not, Int.not_lt, Int.not_le, ne_eq, Decidable.not_not] at h19
                  refine WC.seq ?_
                  refine WC.region ?_
                  refine SL.pure rfl rfl rfl (PureOp.fieldAddrT 2 Try.underlying72 rfl sz3 rfl rfl) ?_
                  refine SL.pure rfl rfl rfl (PureOp.load (v := .int .i64 x.2.2.1) Try.underlying3 rfl rfl (fun _ => (CellIs.cells 0 rfl rfl))) ?_
                  refine SL.pure rfl rfl rfl (PureOp.lss rfl rfl) ?_
                  refine SL.pure rfl rfl rfl (PureOp.move rfl) ?_
                  refine SL.newg 64 false rfl ?_
                  refine SL.gpure (c := 1) rfl rfl rfl rfl rfl rfl rfl (PureOp.fieldAddrT 2 Try.underlying72 rfl sz3 rfl rfl) ?_
                  refine SL.gpure (c := 1) rfl rfl rfl rfl rfl rfl rfl (PureOp.load (v := .int .i64 x.2.2.1) Try.underlying3 rfl rfl (fun _ => (CellIs.cells 0 rfl rfl))) ?_
                  refine SL.gpure (c := 1) rfl rfl rfl rfl rfl rfl rfl (PureOp.fieldAddrT 3 Try.underlying72 rfl sz3 rfl rfl) ?_
                  refine SL.gpure (c := 1) rfl rfl rfl rfl rfl rfl rfl (PureOp.load (v := .int .i64 x.2.2.2.1) Try.underlying3 rfl rfl (fun _ => (CellIs.cells 0 rfl rfl))) ?_
                  refine SL.gpure (c := 1) rfl rfl rfl rfl rfl rfl rfl (PureOp.gtr rfl rfl) ?_
                  refine SL.pure rfl rfl rfl (PureOp.or_ rfl rfl rfl rfl) ?_
                  refine SL.pure rfl rfl rfl (PureOp.move rfl) ?_
                  refine SL.newg 71 false rfl ?_
                  refine SL.gpure (c := 2) rfl rfl rfl rfl rfl rfl rfl (PureOp.fieldAddrT 3 Try.underlying72 rfl sz3 rfl rfl) ?_
                  refine SL.gpure (c := 2) rfl rfl rfl rfl rfl rfl rfl (PureOp.load (v := .int .i64 x.2.2.2.1) Try.underlying3 rfl rfl (fun _ => (CellIs.cells 0 rfl rfl))) ?_
                  refine SL.gpure (c := 2) rfl rfl rfl rfl rfl rfl rfl (PureOp.gtr rfl rfl) ?_
                  refine SL.pure rfl rfl rfl (PureOp.or_ rfl rfl rfl rfl) ?_
                  refine SL.pure rfl rfl rfl (PureOp.assign rfl) ?_
                  refine SL.nil_then ?_
                  refine WC.ret ?_
                  refine QX.ret_in ?_
                  refine QX.ret_then ?_
                  refine QX.ret1 rfl rfl ?_
                  intro w hw
                  exact ⟨_, rfl⟩
                · try simp only [Bool.and_eq_true, Bool.or_eq_true, Bool.not_eq_true', Bool.not_eq_false', Bool.and_eq_false_iff, Bool.or_eq_false_iff, decide_eq_true_eq, decide_eq_false_iff_not, Int.not_lt, Int.not_le, ne_eq, Decidable.not_not] at h19
                  refine WC.skip ?_
                  refine QX.normal_in ?_
                  refine QX.then_ ?_
                  refine WC.seq ?_
                  refine WC.region ?_
                  refine SL.pure rfl rfl rfl (PureOp.assign rfl) ?_
                  refine SL.nil_then ?_
                  refine WC.ret ?_
                  refine QX.ret1 rfl rfl ?_
                  intro w hw
                  exact ⟨_, rfl⟩

set_option maxHeartbeats 4000000 in
set_option maxRecDepth 100000 in
theorem part_any (x : Cd) (w0 : World) (tl : List ByteArray) (htl : tl.length = x.2.2.2.2.2.l.length) (sT : SliceIn w0 1 x.2.2.2.2.2.ao x.2.2.2.2.2.l.length x.2.2.2.2.2.cap (rowsF encStr tl)) (hts : ∀ s ∈ tl, s.size ≤ maxLen) : FnC Try.prog 81 [.agg #[.int .i64 x.1, .slice x.2.1.ao x.2.1.l.length x.2.1.cap, .int .i64 x.2.2.1, .int .i64 x.2.2.2.1, .int .i64 x.2.2.2.2.1.1, .int .i64 x.2.2.2.2.1.2.1, .int .i64 x.2.2.2.2.1.2.2, .slice x.2.2.2.2.2.ao x.2.2.2.2.2.l.length x.2.2.2.2.2.cap]] w0 fun v w' => ∃ e, v = .int .i64 e := by
  have hnm : (x.2.2.2.2.2.l.length : Int) ≤ 9223372036854775807 := by
    have q1 := sT.le; have q2 := sT.max; simp only [maxLen] at q2; omega
  have htc := sT.le
  refine fnc (N := 57) Try.func81 rfl rfl rfl ?_
  refine WC.seq ?_
  refine WC.region ?_
  refine SL.box rfl rfl rfl (fun b1 hb1 => ?_)
  refine SL.norm [_] rfl ?_
  refine SL.pure rfl rfl rfl (PureOp.assign rfl) ?_
  refine SL.nil_then ?_
  refine WC.seq ?_
  refine WC.seq ?_
  refine WC.region ?_
  refine SL.pure rfl rfl rfl (PureOp.fieldAddrT 0 Try.underlying72 rfl sz3 rfl rfl) ?_
  refine SL.pure rfl rfl rfl (PureOp.load (v := .int .i64 x.1) Try.underlying3 rfl rfl (fun _ => (CellIs.cells 0 rfl rfl))) ?_
  refine SL.pure rfl rfl rfl (PureOp.lss rfl rfl) ?_
  refine SL.pure rfl rfl rfl (PureOp.move rfl) ?_
  refine SL.newg 7 false rfl ?_
  refine SL.gpure (c := 1) rfl rfl rfl rfl rfl rfl rfl (PureOp.fieldAddrT 0 Try.underlying72 rfl sz3 rfl rfl) ?_
  refine SL.gpure (c := 1) rfl rfl rfl rfl rfl rfl rfl (PureOp.load (v := .int .i64 x.1) Try.underlying3 rfl rfl (fun _ => (CellIs.cells 0 rfl rfl))) ?_
  refine SL.gpure (c := 1) rfl rfl rfl rfl rfl rfl rfl (PureOp.gtr rfl rfl) ?_
  refine SL.pure rfl rfl rfl (PureOp.or_ rfl rfl rfl rfl) ?_
  refine SL.nil_then ?_
  refine WC.cond rfl (fun h1 => ?_) (fun h1 => ?_)
  · try simp only [Bool.and_eq_true, Bool.or_eq_true, Bool.not_eq_true', Bool.not_eq_false', Bool.and_eq_false_iff, Bool.or_eq_false_iff, decide_eq_true_eq, decide_eq_false_iff_not, Int.not_lt, Int.not_le, ne_eq, Decidable.not_not] at h1
    refine WC.seq ?_
    refine WC.region ?_
    refine SL.pure rfl rfl rfl (PureOp.assign rfl) ?_
    refine SL.nil_then ?_
    refine WC.ret ?_
    refine QX.ret_then ?_
    refine QX.ret1 rfl rfl ?_
    intro w hw
    exact ⟨_, rfl⟩
  · try simp only [Bool.and_eq_true, Bool.or_eq_true, Bool.not_eq_true', Bool.not_eq_false', Bool.and_eq_false_iff, Bool.or_eq_false_iff, decide_eq_true_eq, decide_eq_false_iff_not, Int.not_lt, Int.not_le, ne_eq, Decidable.not_not] at h1
    refine WC.skip ?_
    refine QX.then_ ?_
    refine WC.seq ?_
    refine WC.seq ?_
    refine WC.region ?_
    refine SL.pure rfl rfl rfl (PureOp.loads (vs := [.int .i64 x.1, .slice x.2.1.ao x.2.1.l.length x.2.1.cap, .int .i64 x.2.2.1, .int .i64 x.2.2.2.1, .int .i64 x.2.2.2.2.1.1, .int .i64 x.2.2.2.2.1.2.1, .int .i64 x.2.2.2.2.1.2.2, .slice x.2.2.2.2.2.ao x.2.2.2.2.2.l.length x.2.2.2.2.2.cap]) Try.underlying72 rfl rfl (fun _ => (RowIs.cells 0 0 8 rfl rfl)) sz72) ?_
    refine SL.callv rfl rfl rfl rfl rfl rfl callable82 (fun w hw => extra_any x w) ?_
    rintro v ⟨bx, rfl⟩
    refine SL.norm [_] rfl ?_
    refine SL.nil_then ?_
    refine WC.cond rfl (fun h2 => ?_) (fun h2 => ?_)
    · try simp only [Bool.and_eq_true, Bool.or_eq_true, Bool.not_eq_true', Bool.not_eq_false', Bool.and_eq_false_iff, Bool.or_eq_false_iff, decide_eq_true_eq, decide_eq_false_iff_not, Int.not_lt, Int.not_le, ne_eq, Decidable.not_not] at h2
      refine WC.seq ?_
      refine WC.region ?_
      refine SL.pure rfl rfl rfl (PureOp.assign rfl) ?_
      refine SL.nil_then ?_
      refine WC.ret ?_
      refine QX.ret_then ?_
      refine QX.ret1 rfl rfl ?_
      intro w hw
      exact ⟨_, rfl⟩
    · try simp only [Bool.and_eq_true, Bool.or_eq_true, Bool.not_eq_true', Bool.not_eq_false', Bool.and_eq_false_iff, Bool.or_eq_false_iff, decide_eq_true_eq, decide_eq_false_iff_not, Int.not_lt, Int.not_le, ne_eq, Decidable.not_not] at h2
      refine WC.skip ?_
      refine QX.then_ ?_
      refine WC.seq ?_
      refine WC.seq ?_
      refine WC.region ?_
      refine SL.pure rfl rfl rfl (PureOp.loads (vs := [.int .i64 x.1, .slice x.2.1.ao x.2.1.l.length x.2.1.cap, .int .i64 x.2.2.1, .int .i64 x.2.2.2.1, .int .i64 x.2.2.2.2.1.1, .int .i64 x.2.2.2.2.1.2.1, .int .i64 x.2.2.2.2.1.2.2, .slice x.2.2.2.2.2.ao x.2.2.2.2.2.l.length x.2.2.2.2.2.cap]) Try.underlying72 rfl rfl (fun _ => (RowIs.cells 0 0 8 rfl rfl)) sz72) ?_
      refine SL.callv rfl rfl rfl rfl rfl rfl callable83 (fun w hw => wrong_any x w) ?_
      rintro v ⟨by_, rfl⟩
      refine SL.norm [_] rfl ?_
      refine SL.nil_then ?_
      refine WC.cond rfl (fun h3 => ?_) (fun h3 => ?_)
      · try simp only [Bool.and_eq_true, Bool.or_eq_true, Bool.not_eq_true', Bool.not_eq_false', Bool.and_eq_false_iff, Bool.or_eq_false_iff, decide_eq_true_eq, decide_eq_false_iff_not, Int.not_lt, Int.not_le, ne_eq, Decidable.not_not] at h3
        refine WC.seq ?_
        refine WC.region ?_
        refine SL.pure rfl rfl rfl (PureOp.assign rfl) ?_
        refine SL.nil_then ?_
        refine WC.ret ?_
        refine QX.ret_then ?_
        refine QX.ret1 rfl rfl ?_
        intro w hw
        exact ⟨_, rfl⟩
      · try simp only [Bool.and_eq_true, Bool.or_eq_true, Bool.not_eq_true', Bool.not_eq_false', Bool.and_eq_false_iff, Bool.or_eq_false_iff, decide_eq_true_eq, decide_eq_false_iff_not, Int.not_lt, Int.not_le, ne_eq, Decidable.not_not] at h3
        refine WC.skip ?_
        refine QX.then_ ?_
        refine WC.seq ?_
        refine WC.seq ?_
        refine WC.region ?_
        refine SL.pure rfl rfl rfl (PureOp.fieldAddrT 0 Try.underlying72 rfl sz3 rfl rfl) ?_
        refine SL.pure rfl rfl rfl (PureOp.load (v := .int .i64 x.1) Try.underlying3 rfl rfl (fun _ => (CellIs.cells 0 rfl rfl))) ?_
        refine SL.calle rfl rfl rfl rfl rfl rfl callable84 (fun w hw => periodk_ok x.1 w) ?_
        refine SL.norm [_] rfl ?_
        refine SL.nil_then ?_
        refine WC.cond rfl (fun h4 => ?_) (fun h4 => ?_)
        · try simp only [Bool.and_eq_true, Bool.or_eq_true, Bool.not_eq_true', Bool.not_eq_false', Bool.and_eq_false_iff, Bool.or_eq_false_iff, decide_eq_true_eq, decide_eq_false_iff_not, Int.not_lt, Int.not_le, ne_eq, Decidable.not_not] at h4
          refine WC.seq ?_
          refine WC.region ?_
          refine SL.pure rfl rfl rfl (PureOp.fieldAddrT 4 Try.underlying72 rfl sz69 rfl rfl) ?_
          refine SL.pure rfl rfl rfl (PureOp.loads (vs := [.int .i64 x.2.2.2.2.1.1, .int .i64 x.2.2.2.2.1.2.1, .int .i64 x.2.2.2.2.1.2.2]) Try.underlying69 rfl rfl (fun _ => (RowIs.cells 0 4 3 rfl rfl)) sz69) ?_
          refine SL.callv rfl rfl rfl rfl rfl rfl callable85 (fun w hw => period_any _ _ _ w) ?_
          rintro v ⟨pe, rfl⟩
          refine SL.norm [_] rfl ?_
          refine SL.pure rfl rfl rfl (PureOp.assign rfl) ?_
          refine SL.nil_then ?_
          refine WC.ret ?_
          refine QX.ret_then ?_
          refine QX.ret1 rfl rfl ?_
          intro w hw
          exact ⟨_, rfl⟩
        · try simp only [Bool.and_eq_true, Bool.or_eq_true, Bool.not_eq_true', Bool.not_eq_false', Bool.and_eq_false_iff, Bool.or_eq_false_iff, decide_eq_true_eq, decide_eq_false_iff_not, Int.not_lt, Int.not_le, ne_eq, Decidable.not_not] at h4
          refine WC.skip ?_
          refine QX.then_ ?_
          refine WC.seq ?_
          refine WC.seq ?_
          refine WC.region ?_
          refine SL.pure rfl rfl rfl (PureOp.fieldAddrT 0 Try.underlying72 rfl sz3 rfl rfl) ?_
          refine SL.pure rfl rfl rfl (PureOp.load (v := .int .i64 x.1) Try.underlying3 rfl rfl (fun _ => (CellIs.cells 0 rfl rfl))) ?_
          refine SL.calle rfl rfl rfl rfl rfl rfl callable86 (fun w hw => codesk_ok x.1 w) ?_
          refine SL.norm [_] rfl ?_
          refine SL.pure rfl rfl rfl (PureOp.move rfl) ?_
          refine SL.newg 25 true rfl ?_
          refine SL.gpure (c := 2) rfl rfl rfl rfl rfl rfl rfl (PureOp.fieldAddrT 7 Try.underlying72 rfl sz70 rfl rfl) ?_
          refine SL.gpure (c := 2) rfl rfl rfl rfl rfl rfl rfl (PureOp.load (v := .slice x.2.2.2.2.2.ao x.2.2.2.2.2.l.length x.2.2.2.2.2.cap) Try.underlying70 rfl rfl (fun _ => (CellIs.cells 0 rfl rfl))) ?_
          refine SL.gpure (c := 2) rfl rfl rfl rfl rfl rfl rfl (PureOp.len rfl Try.underlying70) ?_
          refine SL.gpure (c := 2) rfl rfl rfl rfl rfl rfl rfl (PureOp.eql rfl rfl) ?_
          refine SL.pure rfl rfl rfl (PureOp.and_ rfl rfl rfl rfl) ?_
          refine SL.nil_then ?_
          refine WC.cond rfl (fun h5 => ?_) (fun h5 => ?_)
          · try simp only [Bool.and_eq_true, Bool.or_eq_true, Bool.not_eq_true', Bool.not_eq_false', Bool.and_eq_false_iff, Bool.or_eq_false_iff, decide_eq_true_eq, decide_eq_false_iff_not, Int.not_lt, Int.not_le, ne_eq, Decidable.not_not] at h5
            refine WC.seq ?_
            refine WC.region ?_
            refine SL.pure rfl rfl rfl (PureOp.assign rfl) ?_
            refine SL.nil_then ?_
            refine WC.ret ?_
            refine QX.ret_then ?_
            refine QX.ret1 rfl rfl ?_
            intro w hw
            exact ⟨_, rfl⟩
          · try simp only [Bool.and_eq_true, Bool.or_eq_true, Bool.not_eq_true', Bool.not_eq_false', Bool.and_eq_false_iff, Bool.or_eq_false_iff, decide_eq_true_eq, decide_eq_false_iff_not, Int.not_lt, Int.not_le, ne_eq, Decidable.not_not] at h5
            refine WC.skip ?_
            refine QX.then_ ?_
            refine WC.seq ?_
            refine WC.seq ?_
            refine WC.region ?_
            refine SL.pure rfl rfl rfl (PureOp.assign rfl) ?_
            refine SL.nil_then ?_
            refine WC.block ?_
            refine WC.loop (σ := Nat) (fun q_ => [(0, 0, .agg #[.int .i64 x.1, .slice x.2.1.ao x.2.1.l.length x.2.1.cap, .int .i64 x.2.2.1, .int .i64 x.2.2.2.1, .int .i64 x.2.2.2.2.1.1, .int .i64 x.2.2.2.2.1.2.1, .int .i64 x.2.2.2.2.1.2.2, .slice x.2.2.2.2.2.ao x.2.2.2.2.2.l.length x.2.2.2.2.2.cap]), (1, 0, .pointer (some ⟨b1, 0, none⟩)), (4, 0, .pointer (some ⟨b1, 0, none⟩)), (5, 0, .int .i64 x.1), (6, 0, .bool (decide (x.1 < 1))), (7, 0, .bool (decide (x.1 < 1))), (11, 0, .bool ((decide (x.1 < 1)) || (decide (14 < x.1)))), (12, 0, .agg #[.int .i64 x.1, .slice x.2.1.ao x.2.1.l.length x.2.1.cap, .int .i64 x.2.2.1, .int .i64 x.2.2.2.1, .int .i64 x.2.2.2.2.1.1, .int .i64 x.2.2.2.2.1.2.1, .int .i64 x.2.2.2.2.1.2.2, .slice x.2.2.2.2.2.ao x.2.2.2.2.2.l.length x.2.2.2.2.2.cap]), (13, 0, .bool bx), (14, 0, .agg #[.int .i64 x.1, .slice x.2.1.ao x.2.1.l.length x.2.1.cap, .int .i64 x.2.2.1, .int .i64 x.2.2.2.1, .int .i64 x.2.2.2.2.1.1, .int .i64 x.2.2.2.2.1.2.1, .int .i64 x.2.2.2.2.1.2.2, .slice x.2.2.2.2.2.ao x.2.2.2.2.2.l.length x.2.2.2.2.2.cap]), (15, 0, .bool by_), (16, 0, .pointer (some ⟨b1, 0, none⟩)), (17, 0, .int .i64 x.1), (18, 0, .bool (kperB x.1)), (22, 0, .pointer (some ⟨b1, 0, none⟩)), (23, 0, .int .i64 x.1), (24, 0, .bool (kcodB x.1)), (25, 0, .bool (kcodB x.1)), (30, 0, .bool ((kcodB x.1) && (decide (((x.2.2.2.2.2.l.length : Nat) : Int) = 0)))), (3, 0, .int .i64 ((q_ : Nat) : Int))]) (fun q_ => [Item.cells b1 [.int .i64 x.1, .slice x.2.1.ao x.2.1.l.length x.2.1.cap, .int .i64 x.2.2.1, .int .i64 x.2.2.2.1, .int .i64 x.2.2.2.2.1.1, .int .i64 x.2.2.2.2.1.2.1, .int .i64 x.2.2.2.2.1.2.2, .slice x.2.2.2.2.2.ao x.2.2.2.2.2.l.length x.2.2.2.2.2.cap] 72]) (fun q_ => q_ ≤ x.2.2.2.2.2.l.length) (fun q_ => x.2.2.2.2.2.l.length - q_) 1 (0) (Nat.zero_le _) ⟨rfl, rfl, rfl, rfl, rfl, rfl, rfl, rfl, rfl, rfl, rfl, rfl, rfl, rfl, rfl, rfl, rfl, rfl, rfl, rfl, rfl, rfl, rfl, rfl, rfl, rfl, rfl, rfl, rfl, rfl, rfl, rfl, rfl, rfl, rfl, rfl, rfl, rfl, rfl, rfl, trivial⟩ rfl ?_
            rintro k hk
            refine WC.seq ?_
            refine WC.seq ?_
            refine WC.region ?_
            refine SL.pure rfl rfl rfl (PureOp.move rfl) ?_
            refine SL.pure rfl rfl rfl (PureOp.fieldAddrT 7 Try.underlying72 rfl sz70 rfl rfl) ?_
            refine SL.pure rfl rfl rfl (PureOp.load (v := .slice x.2.2.2.2.2.ao x.2.2.2.2.2.l.length x.2.2.2.2.2.cap) Try.underlying70 rfl rfl (fun _ => (CellIs.cells 0 rfl rfl))) ?_
            refine SL.pure rfl rfl rfl (PureOp.len rfl Try.underlying70) ?_
            refine SL.pure rfl rfl rfl (PureOp.lss rfl rfl) ?_
            refine SL.nil_then ?_
            refine WC.cond rfl (fun h6 => ?_) (fun h6 => ?_)
            · try simp only [Bool.and_eq_true, Bool.or_eq_true, Bool.not_eq_true', Bool.not_eq_false', Bool.and_eq_false_iff, Bool.or_eq_false_iff, decide_eq_true_eq, decide_eq_false_iff_not, Int.not_lt, Int.not_le, ne_eq, Decidable.not_not] at h6
              refine WC.skip ?_
              refine QX.then_ ?_
              refine WC.seq ?_
              refine WC.block ?_
              refine WC.seq ?_
              refine WC.seq ?_
              refine WC.quiet rfl (by kernel_rfl) ?_
              refine SQ.pure rfl rfl rfl (PureOp.fieldAddrT 0 Try.underlying72 rfl sz3 rfl rfl) ?_
              refine SQ.pure rfl rfl rfl (PureOp.load (v := .int .i64 x.1) Try.underlying3 rfl rfl (fun _ => (CellIs.cells 0 rfl rfl))) ?_
              refine SQ.pure rfl rfl rfl (PureOp.fieldAddrT 7 Try.underlying72 rfl sz70 rfl rfl) ?_
              refine SQ.pure rfl rfl rfl (PureOp.load (v := .slice x.2.2.2.2.2.ao x.2.2.2.2.2.l.length x.2.2.2.2.2.cap) Try.underlying70 rfl rfl (fun _ => (CellIs.cells 0 rfl rfl))) ?_
              refine SQ.pure rfl rfl rfl (PureOp.move rfl) ?_
              refine SQ.pure rfl rfl rfl (PureOp.indexAddrN Try.underlying70 sz9 rfl rfl (AoOk.in_ sT) (fun _ => by omega)) ?_
              refine SQ.pure rfl rfl rfl (PureOp.load (v := .string (nth tl k)) Try.underlying9 rfl rfl (fun _ => (CellIs.in_ sT k 0 (by omega) (by omega)))) ?_
              refine SQ.calle rfl rfl rfl rfl rfl rfl callable87 (fun w hw => coded_ok x.1 (nth tl k) (by have q := hts _ (nth_mem (l := tl) (i := k) (by omega)); simp only [maxLen] at q; omega) w) ?_
              refine SQ.pure rfl rfl rfl (PureOp.not rfl) ?_
              refine SQ.nil_then ?_
              refine WC.cond rfl (fun h7 => ?_) (fun h7 => ?_)
              · try simp only [Bool.and_eq_true, Bool.or_eq_true, Bool.not_eq_true', Bool.not_eq_false', Bool.and_eq_false_iff, Bool.or_eq_false_iff, decide_eq_true_eq, decide_eq_false_iff_not, Int.not_lt, Int.not_le, ne_eq, Decidable.not_not] at h7
                refine WC.seq ?_
                refine WC.region ?_
                refine SL.pure rfl rfl rfl (PureOp.assign rfl) ?_
                refine SL.nil_then ?_
                refine WC.ret ?_
                refine QX.ret_then ?_
                refine QX.ret_in ?_
                refine QX.ret_then ?_
                refine QX.ret_then ?_
                refine QX.ret_in ?_
                refine QX.ret_then ?_
                refine QX.ret1 rfl rfl ?_
                intro w hw
                exact ⟨_, rfl⟩
              · try simp only [Bool.and_eq_true, Bool.or_eq_true, Bool.not_eq_true', Bool.not_eq_false', Bool.and_eq_false_iff, Bool.or_eq_false_iff, decide_eq_true_eq, decide_eq_false_iff_not, Int.not_lt, Int.not_le, ne_eq, Decidable.not_not] at h7
                refine WC.skip ?_
                refine QX.then_ ?_
                refine WC.seq ?_
                refine WC.quiet rfl (by kernel_rfl) ?_
                refine SQ.pure rfl rfl rfl (PureOp.fieldAddrT 7 Try.underlying72 rfl sz70 rfl rfl) ?_
                refine SQ.pure rfl rfl rfl (PureOp.load (v := .slice x.2.2.2.2.2.ao x.2.2.2.2.2.l.length x.2.2.2.2.2.cap) Try.underlying70 rfl rfl (fun _ => (CellIs.cells 0 rfl rfl))) ?_
                refine SQ.pure rfl rfl rfl (PureOp.move rfl) ?_
                refine SQ.pure rfl rfl rfl (PureOp.sliceh Try.underlying70 sz9 rfl rfl (fun _ => by omega)) ?_
                refine SQ.pure rfl rfl rfl (PureOp.fieldAddrT 7 Try.underlying72 rfl sz70 rfl rfl) ?_
                refine SQ.pure rfl rfl rfl (PureOp.load (v := .slice x.2.2.2.2.2.ao x.2.2.2.2.2.l.length x.2.2.2.2.2.cap) Try.underlying70 rfl rfl (fun _ => (CellIs.cells 0 rfl rfl))) ?_
                refine SQ.pure rfl rfl rfl (PureOp.move rfl) ?_
                refine SQ.pure rfl rfl rfl (PureOp.indexAddrN Try.underlying70 sz9 rfl rfl (AoOk.in_ sT) (fun _ => by omega)) ?_
                refine SQ.pure rfl rfl rfl (PureOp.load (v := .string (nth tl k)) Try.underlying9 rfl rfl (fun _ => (CellIs.in_ sT k 0 (by omega) (by omega)))) ?_
                refine SQ.calle rfl rfl rfl rfl rfl rfl callable88 (fun w hw => has_ok tl _ _ _ (by omega) (nth tl k) w (SliceIn.sub0 (sT.below hw.below) (show k ≤ x.2.2.2.2.2.l.length by omega))) ?_
                refine SQ.nil_then ?_
                refine WC.cond rfl (fun h8 => ?_) (fun h8 => ?_)
                · try simp only [Bool.and_eq_true, Bool.or_eq_true, Bool.not_eq_true', Bool.not_eq_false', Bool.and_eq_false_iff, Bool.or_eq_false_iff, decide_eq_true_eq, decide_eq_false_iff_not, Int.not_lt, Int.not_le, ne_eq, Decidable.not_not] at h8
                  refine WC.seq ?_
                  refine WC.region ?_
                  refine SL.pure rfl rfl rfl (PureOp.assign rfl) ?_
                  refine SL.nil_then ?_
                  refine WC.ret ?_
                  refine QX.ret_in ?_
                  refine QX.ret_then ?_
                  refine QX.ret_then ?_
                  refine QX.ret_in ?_
                  refine QX.ret_then ?_
                  refine QX.ret1 rfl rfl ?_
                  intro w hw
                  exact ⟨_, rfl⟩
                · try simp only [Bool.and_eq_true, Bool.or_eq_true, Bool.not_eq_true', Bool.not_eq_false', Bool.and_eq_false_iff, Bool.or_eq_false_iff, decide_eq_true_eq, decide_eq_false_iff_not, Int.not_lt, Int.not_le, ne_eq, Decidable.not_not] at h8
                  refine WC.skip ?_
                  refine QX.normal_in ?_
                  refine QX.then_ ?_
                  refine WC.region ?_
                  refine SL.pure rfl rfl rfl (PureOp.move rfl) ?_
                  refine SL.pure rfl rfl rfl (PureOp.addN (k := 1) rfl rfl (fun _ => by omega)) ?_
                  refine SL.pure rfl rfl rfl (PureOp.assign rfl) ?_
                  refine SL.nil ?_
                  refine QX.round 1 (k + 1) ⟨(by first | omega | (dsimp only; omega)), by first | omega | (dsimp only; omega)⟩ ⟨rfl, rfl, rfl, rfl, rfl, rfl, rfl, rfl, rfl, rfl, rfl, rfl, rfl, rfl, rfl, rfl, rfl, rfl, rfl, rfl, rfl, rfl, rfl, rfl, rfl, rfl, rfl, rfl, rfl, rfl, rfl, rfl, rfl, rfl, rfl, rfl, rfl, rfl, rfl, rfl, trivial⟩ rfl
            · try simp only [Bool.and_eq_true, Bool.or_eq_true, Bool.not_eq_true', Bool.not_eq_false', Bool.and_eq_false_iff, Bool.or_eq_false_iff, decide_eq_true_eq, decide_eq_false_iff_not, Int.not_lt, Int.not_le, ne_eq, Decidable.not_not] at h6
              refine WC.exit ?_
              refine QX.exit_then ?_
              refine QX.exit_then ?_
              refine QX.exit_hit ?_
              refine QX.then_ ?_
              refine WC.seq ?_
              refine WC.region ?_
              refine SL.pure rfl rfl rfl (PureOp.assign rfl) ?_
              refine SL.nil_then ?_
              refine WC.ret ?_
              refine QX.ret1 rfl rfl ?_
              intro w hw
              exact ⟨_, rfl⟩

set_option maxHeartbeats 4000000 in
set_option maxRecDepth 100000 in
theorem parts_step (x : Cd) (l : List Cd) (hl : l.length = x.2.1.l.length) (w0 : World) (sL : SliceIn w0 8 x.2.1.ao x.2.1.l.length x.2.1.cap (rowsF enc72 l)) (ih : ∀ i, i < x.2.1.l.length → ∀ w, Below w0.heap.size w0 w → FnC Try.prog 79 [.agg #[.int .i64 ((nth l i).1), .slice ((nth l i).2.1.ao) ((nth l i).2.1.l.length) ((nth l i).2.1.cap), .int .i64 ((nth l i).2.2.1), .int .i64 ((nth l i).2.2.2.1), .int .i64 ((nth l i).2.2.2.2.1.1), .int .i64 ((nth l i).2.2.2.2.1.2.1), .int .i64 ((nth l i).2.2.2.2.1.2.2), .slice ((nth l i).2.2.2.2.2.ao) ((nth l i).2.2.2.2.2.l.length) ((nth l i).2.2.2.2.2.cap)]] w fun v _ => ∃ e, v = .int .i64 e) (tl : List ByteArray) (htl : tl.length = x.2.2.2.2.2.l.length) (sT : SliceIn w0 1 x.2.2.2.2.2.ao x.2.2.2.2.2.l.length x.2.2.2.2.2.cap (rowsF encStr tl)) (hts : ∀ s ∈ tl, s.size ≤ maxLen) : FnC Try.prog 79 [.agg #[.int .i64 x.1, .slice x.2.1.ao x.2.1.l.length x.2.1.cap, .int .i64 x.2.2.1, .int .i64 x.2.2.2.1, .int .i64 x.2.2.2.2.1.1, .int .i64 x.2.2.2.2.1.2.1, .int .i64 x.2.2.2.2.1.2.2, .slice x.2.2.2.2.2.ao x.2.2.2.2.2.l.length x.2.2.2.2.2.cap]] w0 fun v w' => ∃ e, v = .int .i64 e := by
  have hnm : (x.2.1.l.length : Int) ≤ 9223372036854775807 := by
    have q1 := sL.le; have q2 := sL.max; simp only [maxLen] at q2; omega
  refine fnc (N := 27) Try.func79 rfl rfl rfl ?_
  refine WC.seq ?_
  refine WC.region ?_
  refine SL.box rfl rfl rfl (fun b1 hb1 => ?_)
  refine SL.norm [_] rfl ?_
  refine SL.pure rfl rfl rfl (PureOp.assign rfl) ?_
  refine SL.nil_then ?_
  refine WC.seq ?_
  refine WC.seq ?_
  refine WC.region ?_
  refine SL.pure rfl rfl rfl (PureOp.loads (vs := [.int .i64 x.1, .slice x.2.1.ao x.2.1.l.length x.2.1.cap, .int .i64 x.2.2.1, .int .i64 x.2.2.2.1, .int .i64 x.2.2.2.2.1.1, .int .i64 x.2.2.2.2.1.2.1, .int .i64 x.2.2.2.2.1.2.2, .slice x.2.2.2.2.2.ao x.2.2.2.2.2.l.length x.2.2.2.2.2.cap]) Try.underlying72 rfl rfl (fun _ => (RowIs.cells 0 0 8 rfl rfl)) sz72) ?_
  refine SL.callv rfl rfl rfl rfl rfl rfl callable81 (fun w hw => part_any x w tl htl (sT.below hw.below) hts) ?_
  rintro v ⟨pe, rfl⟩
  refine SL.norm [_] rfl ?_
  refine SL.pure rfl rfl rfl (PureOp.assign rfl) ?_
  refine SL.nil_then ?_
  refine WC.seq ?_
  refine WC.region ?_
  refine SL.pure rfl rfl rfl (PureOp.move rfl) ?_
  refine SL.pure rfl rfl rfl (PureOp.neq rfl rfl) ?_
  refine SL.nil_then ?_
  refine WC.cond rfl (fun h1 => ?_) (fun h1 => ?_)
  · try simp only [Bool.and_eq_true, Bool.or_eq_true, Bool.not_eq_true', Bool.not_eq_false', Bool.and_eq_false_iff, Bool.or_eq_false_iff, decide_eq_true_eq, decide_eq_false_iff_not, Int.not_lt, Int.not_le, ne_eq, Decidable.not_not] at h1
    refine WC.seq ?_
    refine WC.region ?_
    refine SL.pure rfl rfl rfl (PureOp.move rfl) ?_
    refine SL.pure rfl rfl rfl (PureOp.assign rfl) ?_
    refine SL.nil_then ?_
    refine WC.ret ?_
    refine QX.ret_then ?_
    refine QX.ret1 rfl rfl ?_
    intro w hw
    exact ⟨_, rfl⟩
  · try simp only [Bool.and_eq_true, Bool.or_eq_true, Bool.not_eq_true', Bool.not_eq_false', Bool.and_eq_false_iff, Bool.or_eq_false_iff, decide_eq_true_eq, decide_eq_false_iff_not, Int.not_lt, Int.not_le, ne_eq, Decidable.not_not] at h1
    refine WC.skip ?_
    refine QX.then_ ?_
    refine WC.seq ?_
    refine WC.seq ?_
    refine WC.region ?_
    refine SL.pure rfl rfl rfl (PureOp.assign rfl) ?_
    refine SL.nil_then ?_
    refine WC.block ?_
    refine WC.loop (σ := Nat) (fun q_ => [(0, 0, .agg #[.int .i64 x.1, .slice x.2.1.ao x.2.1.l.length x.2.1.cap, .int .i64 x.2.2.1, .int .i64 x.2.2.2.1, .int .i64 x.2.2.2.2.1.1, .int .i64 x.2.2.2.2.1.2.1, .int .i64 x.2.2.2.2.1.2.2, .slice x.2.2.2.2.2.ao x.2.2.2.2.2.l.length x.2.2.2.2.2.cap]), (1, 0, .pointer (some ⟨b1, 0, none⟩)), (3, 0, .int .i64 pe), (6, 0, .agg #[.int .i64 x.1, .slice x.2.1.ao x.2.1.l.length x.2.1.cap, .int .i64 x.2.2.1, .int .i64 x.2.2.2.1, .int .i64 x.2.2.2.2.1.1, .int .i64 x.2.2.2.2.1.2.1, .int .i64 x.2.2.2.2.1.2.2, .slice x.2.2.2.2.2.ao x.2.2.2.2.2.l.length x.2.2.2.2.2.cap]), (7, 0, .int .i64 pe), (8, 0, .int .i64 pe), (9, 0, .bool (decide (pe ≠ 0))), (4, 0, .int .i64 ((q_ : Nat) : Int))]) (fun q_ => [Item.cells b1 [.int .i64 x.1, .slice x.2.1.ao x.2.1.l.length x.2.1.cap, .int .i64 x.2.2.1, .int .i64 x.2.2.2.1, .int .i64 x.2.2.2.2.1.1, .int .i64 x.2.2.2.2.1.2.1, .int .i64 x.2.2.2.2.1.2.2, .slice x.2.2.2.2.2.ao x.2.2.2.2.2.l.length x.2.2.2.2.2.cap] 72]) (fun q_ => q_ ≤ x.2.1.l.length) (fun q_ => x.2.1.l.length - q_) 1 (0) (Nat.zero_le _) ⟨rfl, rfl, rfl, rfl, rfl, rfl, rfl, rfl, rfl, rfl, rfl, rfl, rfl, rfl, rfl, rfl, trivial⟩ rfl ?_
    rintro k hk
    refine WC.seq ?_
    refine WC.seq ?_
    refine WC.region ?_
    refine SL.pure rfl rfl rfl (PureOp.move rfl) ?_
    refine SL.pure rfl rfl rfl (PureOp.fieldAddrT 1 Try.underlying72 rfl sz67 rfl rfl) ?_
    refine SL.pure rfl rfl rfl (PureOp.load (v := .slice x.2.1.ao x.2.1.l.length x.2.1.cap) Try.underlying67 rfl rfl (fun _ => (CellIs.cells 0 rfl rfl))) ?_
    refine SL.pure rfl rfl rfl (PureOp.len rfl Try.underlying67) ?_
    refine SL.pure rfl rfl rfl (PureOp.lss rfl rfl) ?_
    refine SL.nil_then ?_
    refine WC.cond rfl (fun h2 => ?_) (fun h2 => ?_)
    · try simp only [Bool.and_eq_true, Bool.or_eq_true, Bool.not_eq_true', Bool.not_eq_false', Bool.and_eq_false_iff, Bool.or_eq_false_iff, decide_eq_true_eq, decide_eq_false_iff_not, Int.not_lt, Int.not_le, ne_eq, Decidable.not_not] at h2
      refine WC.skip ?_
      refine QX.then_ ?_
      refine WC.seq ?_
      refine WC.block ?_
      refine WC.seq ?_
      refine WC.region ?_
      refine SL.pure rfl rfl rfl (PureOp.fieldAddrT 1 Try.underlying72 rfl sz67 rfl rfl) ?_
      refine SL.pure rfl rfl rfl (PureOp.load (v := .slice x.2.1.ao x.2.1.l.length x.2.1.cap) Try.underlying67 rfl rfl (fun _ => (CellIs.cells 0 rfl rfl))) ?_
      refine SL.pure rfl rfl rfl (PureOp.move rfl) ?_
      refine SL.pure rfl rfl rfl (PureOp.indexAddrN Try.underlying67 sz72 rfl rfl (AoOk.in_ sL) (fun _ => by omega)) ?_
      refine SL.pure rfl rfl rfl (PureOp.loads (vs := [.int .i64 ((nth l k).1), .slice ((nth l k).2.1.ao) ((nth l k).2.1.l.length) ((nth l k).2.1.cap), .int .i64 ((nth l k).2.2.1), .int .i64 ((nth l k).2.2.2.1), .int .i64 ((nth l k).2.2.2.2.1.1), .int .i64 ((nth l k).2.2.2.2.1.2.1), .int .i64 ((nth l k).2.2.2.2.1.2.2), .slice ((nth l k).2.2.2.2.2.ao) ((nth l k).2.2.2.2.2.l.length) ((nth l k).2.2.2.2.2.cap)]) Try.underlying72 rfl rfl (fun _ => (RowIs.in_ sL k 0 8 (by omega) (by omega))) sz72) ?_
      refine SL.callv rfl rfl rfl rfl rfl rfl callable79 (fun w hw => ih k (by omega) w hw.below) ?_
      rintro v ⟨nn, rfl⟩
      refine SL.norm [_] rfl ?_
      refine SL.pure rfl rfl rfl (PureOp.assign rfl) ?_
      refine SL.nil_then ?_
      refine WC.seq ?_
      refine WC.region ?_
      refine SL.pure rfl rfl rfl (PureOp.move rfl) ?_
      refine SL.pure rfl rfl rfl (PureOp.neq rfl rfl) ?_
      refine SL.nil_then ?_
      refine WC.cond rfl (fun h3 => ?_) (fun h3 => ?_)
      · try simp only [Bool.and_eq_true, Bool.or_eq_true, Bool.not_eq_true', Bool.not_eq_false', Bool.and_eq_false_iff, Bool.or_eq_false_iff, decide_eq_true_eq, decide_eq_false_iff_not, Int.not_lt, Int.not_le, ne_eq, Decidable.not_not] at h3
        refine WC.seq ?_
        refine WC.region ?_
        refine SL.pure rfl rfl rfl (PureOp.move rfl) ?_
        refine SL.pure rfl rfl rfl (PureOp.assign rfl) ?_
        refine SL.nil_then ?_
        refine WC.ret ?_
        refine QX.ret_in ?_
        refine QX.ret_then ?_
        refine QX.ret_then ?_
        refine QX.ret_in ?_
        refine QX.ret_then ?_
        refine QX.ret1 rfl rfl ?_
        intro w hw
        exact ⟨_, rfl⟩
      · try simp only [Bool.and_eq_true, Bool.or_eq_true, Bool.not_eq_true', Bool.not_eq_false', Bool.and_eq_false_iff, Bool.or_eq_false_iff, decide_eq_true_eq, decide_eq_false_iff_not, Int.not_lt, Int.not_le, ne_eq, Decidable.not_not] at h3
        refine WC.skip ?_
        refine QX.normal_in ?_
        refine QX.then_ ?_
        refine WC.region ?_
        refine SL.pure rfl rfl rfl (PureOp.move rfl) ?_
        refine SL.pure rfl rfl rfl (PureOp.addN (k := 1) rfl rfl (fun _ => by omega)) ?_
        refine SL.pure rfl rfl rfl (PureOp.assign rfl) ?_
        refine SL.nil ?_
        refine QX.round 1 (k + 1) ⟨(by first | omega | (dsimp only; omega)), by first | omega | (dsimp only; omega)⟩ ⟨rfl, rfl, rfl, rfl, rfl, rfl, rfl, rfl, rfl, rfl, rfl, rfl, rfl, rfl, rfl, rfl, trivial⟩ rfl
    · try simp only [Bool.and_eq_true, Bool.or_eq_true, Bool.not_eq_true', Bool.not_eq_false', Bool.and_eq_false_iff, Bool.or_eq_false_iff, decide_eq_true_eq, decide_eq_false_iff_not, Int.not_lt, Int.not_le, ne_eq, Decidable.not_not] at h2
      refine WC.exit ?_
      refine QX.exit_then ?_
      refine QX.exit_then ?_
      refine QX.exit_hit ?_
      refine QX.then_ ?_
      refine WC.seq ?_
      refine WC.region ?_
      refine SL.pure rfl rfl rfl (PureOp.assign rfl) ?_
      refine SL.nil_then ?_
      refine WC.ret ?_
      refine QX.ret1 rfl rfl ?_
      intro w hw
      exact ⟨_, rfl⟩

theorem lev_any {W : World} {ao : Option Addr} {n cap : Nat} (h : CondSl W ao n cap) : ∀ (x : Cd), x.2.1.ao = ao → x.2.1.l.length = n → x.2.1.cap = cap → ∀ w, Below W.heap.size W w → FnC Try.prog 77 [.agg #[.int .i64 x.1, .slice x.2.1.ao x.2.1.l.length x.2.1.cap, .int .i64 x.2.2.1, .int .i64 x.2.2.2.1, .int .i64 x.2.2.2.2.1.1, .int .i64 x.2.2.2.2.1.2.1, .int .i64 x.2.2.2.2.1.2.2, .slice x.2.2.2.2.2.ao x.2.2.2.2.2.l.length x.2.2.2.2.2.cap]] w fun v _ => ∃ e, v = .int .i64 e := by
  induction h with
  | mk l hl hs hin ht ih =>
    intro x e1 e2 e3 w hb
    subst e1 e2 e3
    
    exact lev_step x l hl w (hs.below hb) (fun i hi w2 hb2 => ih i hi (nth l i) rfl rfl rfl w2 (hb.trans (hb2.mono hb.size)))
theorem siz_any {W : World} {ao : Option Addr} {n cap : Nat} (h : CondSl W ao n cap) : ∀ (x : Cd), x.2.1.ao = ao → x.2.1.l.length = n → x.2.1.cap = cap → ∀ w, Below W.heap.size W w → FnC Try.prog 78 [.agg #[.int .i64 x.1, .slice x.2.1.ao x.2.1.l.length x.2.1.cap, .int .i64 x.2.2.1, .int .i64 x.2.2.2.1, .int .i64 x.2.2.2.2.1.1, .int .i64 x.2.2.2.2.1.2.1, .int .i64 x.2.2.2.2.1.2.2, .slice x.2.2.2.2.2.ao x.2.2.2.2.2.l.length x.2.2.2.2.2.cap]] w fun v _ => ∃ e, v = .int .i64 e := by
  induction h with
  | mk l hl hs hin ht ih =>
    intro x e1 e2 e3 w hb
    subst e1 e2 e3
    
    exact siz_step x l hl w (hs.below hb) (fun i hi w2 hb2 => ih i hi (nth l i) rfl rfl rfl w2 (hb.trans (hb2.mono hb.size)))
theorem parts_any {W : World} {ao : Option Addr} {n cap : Nat} (h : CondSl W ao n cap) : ∀ (x : Cd), x.2.1.ao = ao → x.2.1.l.length = n → x.2.1.cap = cap → StrG W x.2.2.2.2.2 → ∀ w, Below W.heap.size W w → FnC Try.prog 79 [.agg #[.int .i64 x.1, .slice x.2.1.ao x.2.1.l.length x.2.1.cap, .int .i64 x.2.2.1, .int .i64 x.2.2.2.1, .int .i64 x.2.2.2.2.1.1, .int .i64 x.2.2.2.2.1.2.1, .int .i64 x.2.2.2.2.1.2.2, .slice x.2.2.2.2.2.ao x.2.2.2.2.2.l.length x.2.2.2.2.2.cap]] w fun v _ => ∃ e, v = .int .i64 e := by
  induction h with
  | mk l hl hs hin ht ih =>
    intro x e1 e2 e3 hx w hb
    subst e1 e2 e3
    obtain ⟨tl, htl, sT, hts⟩ := hx
    exact parts_step x l hl w (hs.below hb) (fun i hi w2 hb2 => ih i hi (nth l i) rfl rfl rfl (ht i hi) w2 (hb.trans (hb2.mono hb.size))) tl htl (sT.below hb) hts
set_option maxHeartbeats 4000000 in
set_option maxRecDepth 100000 in
theorem cond_any (x : Cd) {W : World} (hC : CondG W x.2.1) (hT : StrG W x.2.2.2.2.2) (w0 : World) (hb : Below W.heap.size W w0) : FnC Try.prog 64 [.agg #[.int .i64 x.1, .slice x.2.1.ao x.2.1.l.length x.2.1.cap, .int .i64 x.2.2.1, .int .i64 x.2.2.2.1, .int .i64 x.2.2.2.2.1.1, .int .i64 x.2.2.2.2.1.2.1, .int .i64 x.2.2.2.2.1.2.2, .slice x.2.2.2.2.2.ao x.2.2.2.2.2.l.length x.2.2.2.2.2.cap]] w0 fun v w' => ∃ e, v = .int .i64 e := by
  refine fnc (N := 13) Try.func64 rfl rfl rfl ?_
  refine WC.seq ?_
  refine WC.region ?_
  refine SL.box rfl rfl rfl (fun b1 hb1 => ?_)
  refine SL.norm [_] rfl ?_
  refine SL.pure rfl rfl rfl (PureOp.assign rfl) ?_
  refine SL.nil_then ?_
  refine WC.seq ?_
  refine WC.seq ?_
  refine WC.region ?_
  refine SL.pure rfl rfl rfl (PureOp.loads (vs := [.int .i64 x.1, .slice x.2.1.ao x.2.1.l.length x.2.1.cap, .int .i64 x.2.2.1, .int .i64 x.2.2.2.1, .int .i64 x.2.2.2.2.1.1, .int .i64 x.2.2.2.2.1.2.1, .int .i64 x.2.2.2.2.1.2.2, .slice x.2.2.2.2.2.ao x.2.2.2.2.2.l.length x.2.2.2.2.2.cap]) Try.underlying72 rfl rfl (fun _ => (RowIs.cells 0 0 8 rfl rfl)) sz72) ?_
  refine SL.callv rfl rfl rfl rfl rfl rfl callable77 (fun w hw => lev_any hC x rfl rfl rfl w (hb.trans (hw.below.mono hb.size))) ?_
  rintro v ⟨e_lev_any, rfl⟩
  refine SL.norm [_] rfl ?_
  refine SL.pure rfl rfl rfl (PureOp.gtr rfl rfl) ?_
  refine SL.pure rfl rfl rfl (PureOp.move rfl) ?_
  refine SL.split 6 rfl (fun hs6 => ?_) (fun hs6 => ?_)
  · try simp only [Bool.and_eq_true, Bool.or_eq_true, Bool.not_eq_true', Bool.not_eq_false', Bool.and_eq_false_iff, Bool.or_eq_false_iff, decide_eq_true_eq, decide_eq_false_iff_not, Int.not_lt, Int.not_le, ne_eq, Decidable.not_not] at hs6
    refine SL.off rfl rfl rfl rfl rfl rfl ?_
    refine SL.off rfl rfl rfl rfl rfl rfl ?_
    refine SL.off rfl rfl rfl rfl rfl rfl ?_
    refine SL.pure rfl rfl rfl (PureOp.pickT rfl rfl) ?_
    refine SL.nil_then ?_
    refine WC.condT rfl ?_
    refine WC.seq ?_
    refine WC.region ?_
    refine SL.pure rfl rfl rfl (PureOp.assign rfl) ?_
    refine SL.nil_then ?_
    refine WC.ret ?_
    refine QX.ret_then ?_
    refine QX.ret1 rfl rfl ?_
    intro w hw
    exact ⟨_, rfl⟩
  · try simp only [Bool.and_eq_true, Bool.or_eq_true, Bool.not_eq_true', Bool.not_eq_false', Bool.and_eq_false_iff, Bool.or_eq_false_iff, decide_eq_true_eq, decide_eq_false_iff_not, Int.not_lt, Int.not_le, ne_eq, Decidable.not_not] at hs6
    refine SL.ung rfl rfl rfl rfl ?_
    refine SL.pure rfl rfl rfl (PureOp.loads (vs := [.int .i64 x.1, .slice x.2.1.ao x.2.1.l.length x.2.1.cap, .int .i64 x.2.2.1, .int .i64 x.2.2.2.1, .int .i64 x.2.2.2.2.1.1, .int .i64 x.2.2.2.2.1.2.1, .int .i64 x.2.2.2.2.1.2.2, .slice x.2.2.2.2.2.ao x.2.2.2.2.2.l.length x.2.2.2.2.2.cap]) Try.underlying72 rfl rfl (fun _ => (RowIs.cells 0 0 8 rfl rfl)) sz72) ?_
    refine SL.ung rfl rfl rfl rfl ?_
    refine SL.callv rfl rfl rfl rfl rfl rfl callable78 (fun w hw => siz_any hC x rfl rfl rfl w (hb.trans (hw.below.mono hb.size))) ?_
    rintro v ⟨e_siz_any, rfl⟩
    refine SL.norm [_] rfl ?_
    refine SL.ung rfl rfl rfl rfl ?_
    refine SL.pure rfl rfl rfl (PureOp.gtr rfl rfl) ?_
    refine SL.pure rfl rfl rfl (PureOp.pickF rfl rfl) ?_
    refine SL.nil_then ?_
    refine WC.cond rfl (fun h1 => ?_) (fun h1 => ?_)
    · try simp only [Bool.and_eq_true, Bool.or_eq_true, Bool.not_eq_true', Bool.not_eq_false', Bool.and_eq_false_iff, Bool.or_eq_false_iff, decide_eq_true_eq, decide_eq_false_iff_not, Int.not_lt, Int.not_le, ne_eq, Decidable.not_not] at h1
      refine WC.seq ?_
      refine WC.region ?_
      refine SL.pure rfl rfl rfl (PureOp.assign rfl) ?_
      refine SL.nil_then ?_
      refine WC.ret ?_
      refine QX.ret_then ?_
      refine QX.ret1 rfl rfl ?_
      intro w hw
      exact ⟨_, rfl⟩
    · try simp only [Bool.and_eq_true, Bool.or_eq_true, Bool.not_eq_true', Bool.not_eq_false', Bool.and_eq_false_iff, Bool.or_eq_false_iff, decide_eq_true_eq, decide_eq_false_iff_not, Int.not_lt, Int.not_le, ne_eq, Decidable.not_not] at h1
      refine WC.skip ?_
      refine QX.then_ ?_
      refine WC.seq ?_
      refine WC.region ?_
      refine SL.pure rfl rfl rfl (PureOp.loads (vs := [.int .i64 x.1, .slice x.2.1.ao x.2.1.l.length x.2.1.cap, .int .i64 x.2.2.1, .int .i64 x.2.2.2.1, .int .i64 x.2.2.2.2.1.1, .int .i64 x.2.2.2.2.1.2.1, .int .i64 x.2.2.2.2.1.2.2, .slice x.2.2.2.2.2.ao x.2.2.2.2.2.l.length x.2.2.2.2.2.cap]) Try.underlying72 rfl rfl (fun _ => (RowIs.cells 0 0 8 rfl rfl)) sz72) ?_
      refine SL.callv rfl rfl rfl rfl rfl rfl callable79 (fun w hw => parts_any hC x rfl rfl rfl hT w (hb.trans (hw.below.mono hb.size))) ?_
      rintro v ⟨e_parts_any, rfl⟩
      refine SL.norm [_] rfl ?_
      refine SL.pure rfl rfl rfl (PureOp.assign rfl) ?_
      refine SL.nil_then ?_
      refine WC.ret ?_
      refine QX.ret1 rfl rfl ?_
      intro w hw
      exact ⟨_, rfl⟩

end Go.Proofs.Ytblmafknmeicfaa
