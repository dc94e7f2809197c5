import Derived.Test.YthbgnjengkjigaaBdK
namespace Go.Proofs.Ythbgnjengkjigaa
open Go Go.RowKit Eng
set_option linter.unusedVariables false
set_option linter.unusedSimpArgs false

theorem nil_in {α : Type} [Inhabited α] {enc : α → List Value} {sz : Nat} (w : World) : SliceIn w sz none 0 0 (rowsF enc ([] : List α)) := ⟨Nat.le_refl _, Nat.zero_le _, .inl rfl, fun i hi => absurd hi (Nat.not_lt_zero _)⟩
set_option maxHeartbeats 4000000 in
set_option maxRecDepth 100000 in
theorem dopen_nil  (w0 : World) : FnC Try.prog 38 [.pointer none] w0 fun v w' => v = .int .i64 1 := by
  refine fnc (N := 16) Try.func38 rfl rfl rfl ?_
  refine WC.seq ?_
  refine WC.region ?_
  refine SL.pure rfl rfl rfl (PureOp.assign rfl) ?_
  refine SL.nil_then ?_
  refine WC.seq ?_
  refine WC.seq ?_
  refine WC.region ?_
  refine SL.pure rfl rfl rfl (PureOp.move rfl) ?_
  refine SL.pure rfl rfl rfl (PureOp.eqlpnil0 rfl rfl Try.underlying23) ?_
  refine SL.pure rfl rfl rfl (PureOp.move rfl) ?_
  refine SL.off rfl rfl rfl rfl rfl rfl ?_
  refine SL.off rfl rfl rfl rfl rfl rfl ?_
  refine SL.off rfl rfl rfl rfl rfl rfl ?_
  refine SL.off rfl rfl rfl rfl rfl rfl ?_
  refine SL.off rfl rfl rfl rfl rfl rfl ?_
  refine SL.pure rfl rfl rfl (PureOp.pickT rfl rfl) ?_
  refine SL.nil_then ?_
  refine WC.condT rfl ?_
  refine WC.seq ?_
  refine WC.region ?_
  refine SL.pure rfl rfl rfl (PureOp.assign rfl) ?_
  refine SL.nil_then ?_
  refine WC.ret ?_
  refine QX.ret_then ?_
  refine QX.ret1 rfl rfl ?_
  intro w hw
  rfl

set_option maxHeartbeats 4000000 in
set_option maxRecDepth 100000 in
theorem dopen_zero (b : Nat)  (w0 : World) (ho : ObjIn w0 b [.bool false, .bool false, .slice none 0 0, .slice none 0 0, .slice none 0 0, .slice none 0 0]) : FnC Try.prog 38 [.pointer (some ⟨b, 0, none⟩)] w0 fun v w' => v = .int .i64 1 := by
  refine fnc (N := 16) Try.func38 rfl rfl rfl ?_
  refine WC.seq ?_
  refine WC.region ?_
  refine SL.pure rfl rfl rfl (PureOp.assign rfl) ?_
  refine SL.nil_then ?_
  refine WC.seq ?_
  refine WC.seq ?_
  refine WC.region ?_
  refine SL.pure rfl rfl rfl (PureOp.move rfl) ?_
  refine SL.pure rfl rfl rfl (PureOp.eqlpnil1 rfl rfl Try.underlying23) ?_
  refine SL.pure rfl rfl rfl (PureOp.move rfl) ?_
  refine SL.ung rfl rfl rfl rfl ?_
  refine SL.pure rfl rfl rfl (PureOp.move rfl) ?_
  refine SL.ung rfl rfl rfl rfl ?_
  refine SL.pure rfl rfl rfl (PureOp.nilCheckp rfl) ?_
  refine SL.ung rfl rfl rfl rfl ?_
  refine SL.pure rfl rfl rfl (PureOp.fieldAddrT 0 Try.underlying44 rfl sz4 rfl rfl) ?_
  refine SL.ung rfl rfl rfl rfl ?_
  refine SL.pure rfl rfl rfl (PureOp.load (v := .bool false) Try.underlying4 rfl rfl (fun _ => (ho.cell 0 rfl))) ?_
  refine SL.ung rfl rfl rfl rfl ?_
  refine SL.pure rfl rfl rfl (PureOp.not rfl) ?_
  refine SL.pure rfl rfl rfl (PureOp.pickF rfl rfl) ?_
  refine SL.nil_then ?_
  refine WC.condT rfl ?_
  refine WC.seq ?_
  refine WC.region ?_
  refine SL.pure rfl rfl rfl (PureOp.assign rfl) ?_
  refine SL.nil_then ?_
  refine WC.ret ?_
  refine QX.ret_then ?_
  refine QX.ret1 rfl rfl ?_
  intro w hw
  rfl

theorem dopen_dead (P : Option Addr)  (w0 : World) (hP : P = none ∨ ∃ b, P = some ⟨b, 0, none⟩ ∧ ObjIn w0 b [.bool false, .bool false, .slice none 0 0, .slice none 0 0, .slice none 0 0, .slice none 0 0]) : FnC Try.prog 38 [.pointer P] w0 fun v w' => v = .int .i64 1 := by
  rcases hP with rfl | ⟨b, rfl, ho⟩
  · exact dopen_nil  w0
  · exact dopen_zero b  w0 ho
set_option maxHeartbeats 4000000 in
set_option maxRecDepth 100000 in
theorem dfind_nil (t : Int) (w0 : World) : FnC Try.prog 27 [.pointer none, .int .i64 t] w0 fun v w' => v = .int .i64 (-1) := by
  refine fnc (N := 13) Try.func27 rfl rfl rfl ?_
  refine WC.seq ?_
  refine WC.region ?_
  refine SL.pure rfl rfl rfl (PureOp.assign rfl) ?_
  refine SL.nil_then ?_
  refine WC.seq ?_
  refine WC.seq ?_
  refine WC.region ?_
  refine SL.pure rfl rfl rfl (PureOp.move rfl) ?_
  refine SL.pure rfl rfl rfl (PureOp.eqlpnil0 rfl rfl Try.underlying23) ?_
  refine SL.nil_then ?_
  refine WC.condT rfl ?_
  refine WC.seq ?_
  refine WC.region ?_
  refine SL.pure rfl rfl rfl (PureOp.assign rfl) ?_
  refine SL.nil_then ?_
  refine WC.ret ?_
  refine QX.ret_then ?_
  refine QX.ret1 rfl rfl ?_
  intro w hw
  rfl

set_option maxHeartbeats 4000000 in
set_option maxRecDepth 100000 in
theorem dfind_zero (b : Nat) (t : Int) (w0 : World) (ho : ObjIn w0 b [.bool false, .bool false, .slice none 0 0, .slice none 0 0, .slice none 0 0, .slice none 0 0]) : FnC Try.prog 27 [.pointer (some ⟨b, 0, none⟩), .int .i64 t] w0 fun v w' => v = .int .i64 (-1) := by
  refine fnc (N := 13) Try.func27 rfl rfl rfl ?_
  refine WC.seq ?_
  refine WC.region ?_
  refine SL.pure rfl rfl rfl (PureOp.assign rfl) ?_
  refine SL.nil_then ?_
  refine WC.seq ?_
  refine WC.seq ?_
  refine WC.region ?_
  refine SL.pure rfl rfl rfl (PureOp.move rfl) ?_
  refine SL.pure rfl rfl rfl (PureOp.eqlpnil1 rfl rfl Try.underlying23) ?_
  refine SL.nil_then ?_
  refine WC.condF rfl ?_
  refine WC.skip ?_
  refine QX.then_ ?_
  refine WC.seq ?_
  refine WC.region ?_
  refine SL.pure rfl rfl rfl (PureOp.move rfl) ?_
  refine SL.pure rfl rfl rfl (PureOp.nilCheckp rfl) ?_
  refine SL.pure rfl rfl rfl (PureOp.fieldAddrT 2 Try.underlying44 rfl sz22 rfl rfl) ?_
  refine SL.pure rfl rfl rfl (PureOp.load (v := .slice none 0 0) Try.underlying22 rfl rfl (fun _ => (ho.cell 2 rfl))) ?_
  refine SL.pure rfl rfl rfl (PureOp.move rfl) ?_
  refine SL.calle rfl rfl rfl rfl rfl rfl callable42 (fun w hw => index_ok [] none 0 0 rfl (by decide) t w (nil_in w)) ?_
  refine SL.norm [] rfl ?_
  refine SL.pure rfl rfl rfl (PureOp.assign rfl) ?_
  refine SL.nil_then ?_
  refine WC.ret ?_
  refine QX.ret1 rfl rfl ?_
  intro w hw
  rfl

theorem dfind_dead (P : Option Addr) (t : Int) (w0 : World) (hP : P = none ∨ ∃ b, P = some ⟨b, 0, none⟩ ∧ ObjIn w0 b [.bool false, .bool false, .slice none 0 0, .slice none 0 0, .slice none 0 0, .slice none 0 0]) : FnC Try.prog 27 [.pointer P, .int .i64 t] w0 fun v w' => v = .int .i64 (-1) := by
  rcases hP with rfl | ⟨b, rfl, ho⟩
  · exact dfind_nil t w0
  · exact dfind_zero b t w0 ho
set_option maxHeartbeats 4000000 in
set_option maxRecDepth 100000 in
theorem dload_nil (x : Bag) (w0 : World) : FnC Try.prog 21 [.pointer none, .agg #[.int .i64 x.1, .int .i64 x.2.1, .int .i64 x.2.2]] w0 fun v w' => v = .int .i64 1 := by
  refine fnc (N := 31) Try.func21 rfl rfl rfl ?_
  refine WC.seq ?_
  refine WC.region ?_
  refine SL.box rfl rfl rfl (fun b1 hb1 => ?_)
  refine SL.norm [_] rfl ?_
  refine SL.pure rfl rfl rfl (PureOp.assign rfl) ?_
  refine SL.nil_then ?_
  refine WC.seq ?_
  refine WC.seq ?_
  refine WC.region ?_
  refine SL.pure rfl rfl rfl (PureOp.move rfl) ?_
  refine SL.calle rfl rfl rfl rfl rfl rfl callable38 (fun w hw => dopen_nil w) ?_
  refine SL.norm [_] rfl ?_
  refine SL.pure rfl rfl rfl (PureOp.assign rfl) ?_
  refine SL.nil_then ?_
  refine WC.seq ?_
  refine WC.region ?_
  refine SL.pure rfl rfl rfl (PureOp.move rfl) ?_
  refine SL.pure rfl rfl rfl (PureOp.neq rfl rfl) ?_
  refine SL.lit 9 true rfl (by decide) ?_
  refine SL.nil_then ?_
  refine WC.condT rfl ?_
  refine WC.seq ?_
  refine WC.region ?_
  refine SL.pure rfl rfl rfl (PureOp.move rfl) ?_
  refine SL.pure rfl rfl rfl (PureOp.assign rfl) ?_
  refine SL.nil_then ?_
  refine WC.ret ?_
  refine QX.ret_then ?_
  refine QX.ret1 rfl rfl ?_
  intro w hw
  rfl

set_option maxHeartbeats 4000000 in
set_option maxRecDepth 100000 in
theorem dload_zero (b : Nat) (x : Bag) (w0 : World) (ho : ObjIn w0 b [.bool false, .bool false, .slice none 0 0, .slice none 0 0, .slice none 0 0, .slice none 0 0]) : FnC Try.prog 21 [.pointer (some ⟨b, 0, none⟩), .agg #[.int .i64 x.1, .int .i64 x.2.1, .int .i64 x.2.2]] w0 fun v w' => v = .int .i64 1 := by
  refine fnc (N := 31) Try.func21 rfl rfl rfl ?_
  refine WC.seq ?_
  refine WC.region ?_
  refine SL.box rfl rfl rfl (fun b1 hb1 => ?_)
  refine SL.norm [_] rfl ?_
  refine SL.pure rfl rfl rfl (PureOp.assign rfl) ?_
  refine SL.nil_then ?_
  refine WC.seq ?_
  refine WC.seq ?_
  refine WC.region ?_
  refine SL.pure rfl rfl rfl (PureOp.move rfl) ?_
  refine SL.calle rfl rfl rfl rfl rfl rfl callable38 (fun w hw => dopen_zero b w (ho.below hw.below)) ?_
  refine SL.norm [_] rfl ?_
  refine SL.pure rfl rfl rfl (PureOp.assign rfl) ?_
  refine SL.nil_then ?_
  refine WC.seq ?_
  refine WC.region ?_
  refine SL.pure rfl rfl rfl (PureOp.move rfl) ?_
  refine SL.pure rfl rfl rfl (PureOp.neq rfl rfl) ?_
  refine SL.lit 9 true rfl (by decide) ?_
  refine SL.nil_then ?_
  refine WC.condT rfl ?_
  refine WC.seq ?_
  refine WC.region ?_
  refine SL.pure rfl rfl rfl (PureOp.move rfl) ?_
  refine SL.pure rfl rfl rfl (PureOp.assign rfl) ?_
  refine SL.nil_then ?_
  refine WC.ret ?_
  refine QX.ret_then ?_
  refine QX.ret1 rfl rfl ?_
  intro w hw
  rfl

theorem dload_dead (P : Option Addr) (x : Bag) (w0 : World) (hP : P = none ∨ ∃ b, P = some ⟨b, 0, none⟩ ∧ ObjIn w0 b [.bool false, .bool false, .slice none 0 0, .slice none 0 0, .slice none 0 0, .slice none 0 0]) : FnC Try.prog 21 [.pointer P, .agg #[.int .i64 x.1, .int .i64 x.2.1, .int .i64 x.2.2]] w0 fun v w' => v = .int .i64 1 := by
  rcases hP with rfl | ⟨b, rfl, ho⟩
  · exact dload_nil x w0
  · exact dload_zero b x w0 ho
set_option maxHeartbeats 4000000 in
set_option maxRecDepth 100000 in
theorem dunload_nil (g : Int) (w0 : World) : FnC Try.prog 19 [.pointer none, .int .i64 g] w0 fun v w' => v = .tuple #[.agg (encBag (0, 0, 0)).toArray, .int .i64 1] := by
  refine fnc (N := 40) Try.func19 rfl rfl rfl ?_
  refine WC.seq ?_
  refine WC.region ?_
  refine SL.alloc rfl rfl zero47 (fun b1 hb1 => ?_)
  refine SL.norm [_] rfl ?_
  refine SL.pure rfl rfl rfl (PureOp.assign rfl) ?_
  refine SL.nil_then ?_
  refine WC.seq ?_
  refine WC.seq ?_
  refine WC.region ?_
  refine SL.pure rfl rfl rfl (PureOp.move rfl) ?_
  refine SL.calle rfl rfl rfl rfl rfl rfl callable38 (fun w hw => dopen_nil w) ?_
  refine SL.norm [_] rfl ?_
  refine SL.pure rfl rfl rfl (PureOp.assign rfl) ?_
  refine SL.nil_then ?_
  refine WC.seq ?_
  refine WC.region ?_
  refine SL.pure rfl rfl rfl (PureOp.move rfl) ?_
  refine SL.pure rfl rfl rfl (PureOp.neq rfl rfl) ?_
  refine SL.lit 12 true rfl (by decide) ?_
  refine SL.nil_then ?_
  refine WC.condT rfl ?_
  refine WC.seq ?_
  refine WC.region ?_
  refine SL.pure rfl rfl rfl (PureOp.build bld47 rfl rfl) ?_
  refine SL.pure rfl rfl rfl (PureOp.move rfl) ?_
  refine SL.store 0 rfl rfl rfl rfl sz47 rfl rfl ?_
  refine SL.norm [_] rfl ?_
  refine SL.pure rfl rfl rfl (PureOp.assign rfl) ?_
  refine SL.nil_then ?_
  refine WC.ret ?_
  refine QX.ret_then ?_
  refine QX.retv rfl (RVs.cons (RV.cell rfl Try.underlying47 rfl (RowIs.cells 0 0 3 rfl rfl) sz47) (RVs.cons (RV.tmp rfl) RVs.nil)) ?_
  intro w hw
  rfl

set_option maxHeartbeats 4000000 in
set_option maxRecDepth 100000 in
theorem dunload_zero (b : Nat) (g : Int) (w0 : World) (ho : ObjIn w0 b [.bool false, .bool false, .slice none 0 0, .slice none 0 0, .slice none 0 0, .slice none 0 0]) : FnC Try.prog 19 [.pointer (some ⟨b, 0, none⟩), .int .i64 g] w0 fun v w' => v = .tuple #[.agg (encBag (0, 0, 0)).toArray, .int .i64 1] := by
  refine fnc (N := 40) Try.func19 rfl rfl rfl ?_
  refine WC.seq ?_
  refine WC.region ?_
  refine SL.alloc rfl rfl zero47 (fun b1 hb1 => ?_)
  refine SL.norm [_] rfl ?_
  refine SL.pure rfl rfl rfl (PureOp.assign rfl) ?_
  refine SL.nil_then ?_
  refine WC.seq ?_
  refine WC.seq ?_
  refine WC.region ?_
  refine SL.pure rfl rfl rfl (PureOp.move rfl) ?_
  refine SL.calle rfl rfl rfl rfl rfl rfl callable38 (fun w hw => dopen_zero b w (ho.below hw.below)) ?_
  refine SL.norm [_] rfl ?_
  refine SL.pure rfl rfl rfl (PureOp.assign rfl) ?_
  refine SL.nil_then ?_
  refine WC.seq ?_
  refine WC.region ?_
  refine SL.pure rfl rfl rfl (PureOp.move rfl) ?_
  refine SL.pure rfl rfl rfl (PureOp.neq rfl rfl) ?_
  refine SL.lit 12 true rfl (by decide) ?_
  refine SL.nil_then ?_
  refine WC.condT rfl ?_
  refine WC.seq ?_
  refine WC.region ?_
  refine SL.pure rfl rfl rfl (PureOp.build bld47 rfl rfl) ?_
  refine SL.pure rfl rfl rfl (PureOp.move rfl) ?_
  refine SL.store 0 rfl rfl rfl rfl sz47 rfl rfl ?_
  refine SL.norm [_] rfl ?_
  refine SL.pure rfl rfl rfl (PureOp.assign rfl) ?_
  refine SL.nil_then ?_
  refine WC.ret ?_
  refine QX.ret_then ?_
  refine QX.retv rfl (RVs.cons (RV.cell rfl Try.underlying47 rfl (RowIs.cells 0 0 3 rfl rfl) sz47) (RVs.cons (RV.tmp rfl) RVs.nil)) ?_
  intro w hw
  rfl

theorem dunload_dead (P : Option Addr) (g : Int) (w0 : World) (hP : P = none ∨ ∃ b, P = some ⟨b, 0, none⟩ ∧ ObjIn w0 b [.bool false, .bool false, .slice none 0 0, .slice none 0 0, .slice none 0 0, .slice none 0 0]) : FnC Try.prog 19 [.pointer P, .int .i64 g] w0 fun v w' => v = .tuple #[.agg (encBag (0, 0, 0)).toArray, .int .i64 1] := by
  rcases hP with rfl | ⟨b, rfl, ho⟩
  · exact dunload_nil g w0
  · exact dunload_zero b g w0 ho
set_option maxHeartbeats 4000000 in
set_option maxRecDepth 100000 in
theorem dmove_nil (t : Int) (x : Bool) (al : Int) (w0 : World) : FnC Try.prog 41 [.pointer none, .int .i64 t, .bool x, .int .i64 al] w0 fun v w' => v = .int .i64 1 := by
  refine fnc (N := 38) Try.func41 rfl rfl rfl ?_
  refine WC.seq ?_
  refine WC.region ?_
  refine SL.pure rfl rfl rfl (PureOp.assign rfl) ?_
  refine SL.nil_then ?_
  refine WC.seq ?_
  refine WC.seq ?_
  refine WC.region ?_
  refine SL.pure rfl rfl rfl (PureOp.move rfl) ?_
  refine SL.calle rfl rfl rfl rfl rfl rfl callable38 (fun w hw => dopen_nil w) ?_
  refine SL.norm [] rfl ?_
  refine SL.pure rfl rfl rfl (PureOp.assign rfl) ?_
  refine SL.nil_then ?_
  refine WC.seq ?_
  refine WC.region ?_
  refine SL.pure rfl rfl rfl (PureOp.move rfl) ?_
  refine SL.pure rfl rfl rfl (PureOp.neq rfl rfl) ?_
  refine SL.lit 14 true rfl (by decide) ?_
  refine SL.nil_then ?_
  refine WC.condT rfl ?_
  refine WC.seq ?_
  refine WC.region ?_
  refine SL.pure rfl rfl rfl (PureOp.move rfl) ?_
  refine SL.pure rfl rfl rfl (PureOp.assign rfl) ?_
  refine SL.nil_then ?_
  refine WC.ret ?_
  refine QX.ret_then ?_
  refine QX.ret1 rfl rfl ?_
  intro w hw
  rfl

set_option maxHeartbeats 4000000 in
set_option maxRecDepth 100000 in
theorem dmove_zero (b : Nat) (t : Int) (x : Bool) (al : Int) (w0 : World) (ho : ObjIn w0 b [.bool false, .bool false, .slice none 0 0, .slice none 0 0, .slice none 0 0, .slice none 0 0]) : FnC Try.prog 41 [.pointer (some ⟨b, 0, none⟩), .int .i64 t, .bool x, .int .i64 al] w0 fun v w' => v = .int .i64 1 := by
  refine fnc (N := 38) Try.func41 rfl rfl rfl ?_
  refine WC.seq ?_
  refine WC.region ?_
  refine SL.pure rfl rfl rfl (PureOp.assign rfl) ?_
  refine SL.nil_then ?_
  refine WC.seq ?_
  refine WC.seq ?_
  refine WC.region ?_
  refine SL.pure rfl rfl rfl (PureOp.move rfl) ?_
  refine SL.calle rfl rfl rfl rfl rfl rfl callable38 (fun w hw => dopen_zero b w (ho.below hw.below)) ?_
  refine SL.norm [] rfl ?_
  refine SL.pure rfl rfl rfl (PureOp.assign rfl) ?_
  refine SL.nil_then ?_
  refine WC.seq ?_
  refine WC.region ?_
  refine SL.pure rfl rfl rfl (PureOp.move rfl) ?_
  refine SL.pure rfl rfl rfl (PureOp.neq rfl rfl) ?_
  refine SL.lit 14 true rfl (by decide) ?_
  refine SL.nil_then ?_
  refine WC.condT rfl ?_
  refine WC.seq ?_
  refine WC.region ?_
  refine SL.pure rfl rfl rfl (PureOp.move rfl) ?_
  refine SL.pure rfl rfl rfl (PureOp.assign rfl) ?_
  refine SL.nil_then ?_
  refine WC.ret ?_
  refine QX.ret_then ?_
  refine QX.ret1 rfl rfl ?_
  intro w hw
  rfl

theorem dmove_dead (P : Option Addr) (t : Int) (x : Bool) (al : Int) (w0 : World) (hP : P = none ∨ ∃ b, P = some ⟨b, 0, none⟩ ∧ ObjIn w0 b [.bool false, .bool false, .slice none 0 0, .slice none 0 0, .slice none 0 0, .slice none 0 0]) : FnC Try.prog 41 [.pointer P, .int .i64 t, .bool x, .int .i64 al] w0 fun v w' => v = .int .i64 1 := by
  rcases hP with rfl | ⟨b, rfl, ho⟩
  · exact dmove_nil t x al w0
  · exact dmove_zero b t x al w0 ho
set_option maxHeartbeats 4000000 in
set_option maxRecDepth 100000 in
theorem dboard_nil (t : Int) (w0 : World) : FnC Try.prog 22 [.pointer none, .int .i64 t] w0 fun v w' => v = .int .i64 1 := by
  refine fnc (N := 8) Try.func22 rfl rfl rfl ?_
  refine WC.seq ?_
  refine WC.region ?_
  refine SL.pure rfl rfl rfl (PureOp.assign rfl) ?_
  refine SL.nil_then ?_
  refine WC.seq ?_
  refine WC.region ?_
  refine SL.pure rfl rfl rfl (PureOp.move rfl) ?_
  refine SL.pure rfl rfl rfl (PureOp.move rfl) ?_
  refine SL.calle rfl rfl rfl rfl rfl rfl callable41 (fun w hw => dmove_nil t true 6 w) ?_
  refine SL.norm [] rfl ?_
  refine SL.pure rfl rfl rfl (PureOp.assign rfl) ?_
  refine SL.nil_then ?_
  refine WC.ret ?_
  refine QX.ret1 rfl rfl ?_
  intro w hw
  rfl

set_option maxHeartbeats 4000000 in
set_option maxRecDepth 100000 in
theorem dboard_zero (b : Nat) (t : Int) (w0 : World) (ho : ObjIn w0 b [.bool false, .bool false, .slice none 0 0, .slice none 0 0, .slice none 0 0, .slice none 0 0]) : FnC Try.prog 22 [.pointer (some ⟨b, 0, none⟩), .int .i64 t] w0 fun v w' => v = .int .i64 1 := by
  refine fnc (N := 8) Try.func22 rfl rfl rfl ?_
  refine WC.seq ?_
  refine WC.region ?_
  refine SL.pure rfl rfl rfl (PureOp.assign rfl) ?_
  refine SL.nil_then ?_
  refine WC.seq ?_
  refine WC.region ?_
  refine SL.pure rfl rfl rfl (PureOp.move rfl) ?_
  refine SL.pure rfl rfl rfl (PureOp.move rfl) ?_
  refine SL.calle rfl rfl rfl rfl rfl rfl callable41 (fun w hw => dmove_zero b t true 6 w (ho.below hw.below)) ?_
  refine SL.norm [] rfl ?_
  refine SL.pure rfl rfl rfl (PureOp.assign rfl) ?_
  refine SL.nil_then ?_
  refine WC.ret ?_
  refine QX.ret1 rfl rfl ?_
  intro w hw
  rfl

theorem dboard_dead (P : Option Addr) (t : Int) (w0 : World) (hP : P = none ∨ ∃ b, P = some ⟨b, 0, none⟩ ∧ ObjIn w0 b [.bool false, .bool false, .slice none 0 0, .slice none 0 0, .slice none 0 0, .slice none 0 0]) : FnC Try.prog 22 [.pointer P, .int .i64 t] w0 fun v w' => v = .int .i64 1 := by
  rcases hP with rfl | ⟨b, rfl, ho⟩
  · exact dboard_nil t w0
  · exact dboard_zero b t w0 ho
set_option maxHeartbeats 4000000 in
set_option maxRecDepth 100000 in
theorem doff_nil (t : Int) (w0 : World) : FnC Try.prog 23 [.pointer none, .int .i64 t] w0 fun v w' => v = .int .i64 1 := by
  refine fnc (N := 8) Try.func23 rfl rfl rfl ?_
  refine WC.seq ?_
  refine WC.region ?_
  refine SL.pure rfl rfl rfl (PureOp.assign rfl) ?_
  refine SL.nil_then ?_
  refine WC.seq ?_
  refine WC.region ?_
  refine SL.pure rfl rfl rfl (PureOp.move rfl) ?_
  refine SL.pure rfl rfl rfl (PureOp.move rfl) ?_
  refine SL.calle rfl rfl rfl rfl rfl rfl callable41 (fun w hw => dmove_nil t false 10 w) ?_
  refine SL.norm [] rfl ?_
  refine SL.pure rfl rfl rfl (PureOp.assign rfl) ?_
  refine SL.nil_then ?_
  refine WC.ret ?_
  refine QX.ret1 rfl rfl ?_
  intro w hw
  rfl

set_option maxHeartbeats 4000000 in
set_option maxRecDepth 100000 in
theorem doff_zero (b : Nat) (t : Int) (w0 : World) (ho : ObjIn w0 b [.bool false, .bool false, .slice none 0 0, .slice none 0 0, .slice none 0 0, .slice none 0 0]) : FnC Try.prog 23 [.pointer (some ⟨b, 0, none⟩), .int .i64 t] w0 fun v w' => v = .int .i64 1 := by
  refine fnc (N := 8) Try.func23 rfl rfl rfl ?_
  refine WC.seq ?_
  refine WC.region ?_
  refine SL.pure rfl rfl rfl (PureOp.assign rfl) ?_
  refine SL.nil_then ?_
  refine WC.seq ?_
  refine WC.region ?_
  refine SL.pure rfl rfl rfl (PureOp.move rfl) ?_
  refine SL.pure rfl rfl rfl (PureOp.move rfl) ?_
  refine SL.calle rfl rfl rfl rfl rfl rfl callable41 (fun w hw => dmove_zero b t false 10 w (ho.below hw.below)) ?_
  refine SL.norm [] rfl ?_
  refine SL.pure rfl rfl rfl (PureOp.assign rfl) ?_
  refine SL.nil_then ?_
  refine WC.ret ?_
  refine QX.ret1 rfl rfl ?_
  intro w hw
  rfl

theorem doff_dead (P : Option Addr) (t : Int) (w0 : World) (hP : P = none ∨ ∃ b, P = some ⟨b, 0, none⟩ ∧ ObjIn w0 b [.bool false, .bool false, .slice none 0 0, .slice none 0 0, .slice none 0 0, .slice none 0 0]) : FnC Try.prog 23 [.pointer P, .int .i64 t] w0 fun v w' => v = .int .i64 1 := by
  rcases hP with rfl | ⟨b, rfl, ho⟩
  · exact doff_nil t w0
  · exact doff_zero b t w0 ho
set_option maxHeartbeats 4000000 in
set_option maxRecDepth 100000 in
theorem dclose_nil  (w0 : World) : FnC Try.prog 20 [.pointer none] w0 fun v w' => v = .tuple #[.slice none 0 0, .int .i64 1] := by
  refine fnc (N := 19) Try.func20 rfl rfl rfl ?_
  refine WC.seq ?_
  refine WC.region ?_
  refine SL.pure rfl rfl rfl (PureOp.assign rfl) ?_
  refine SL.pure rfl rfl rfl (PureOp.assign rfl) ?_
  refine SL.nil_then ?_
  refine WC.seq ?_
  refine WC.seq ?_
  refine WC.region ?_
  refine SL.pure rfl rfl rfl (PureOp.move rfl) ?_
  refine SL.calle rfl rfl rfl rfl rfl rfl callable38 (fun w hw => dopen_nil w) ?_
  refine SL.norm [] rfl ?_
  refine SL.pure rfl rfl rfl (PureOp.assign rfl) ?_
  refine SL.nil_then ?_
  refine WC.seq ?_
  refine WC.region ?_
  refine SL.pure rfl rfl rfl (PureOp.move rfl) ?_
  refine SL.pure rfl rfl rfl (PureOp.neq rfl rfl) ?_
  refine SL.lit 8 true rfl (by decide) ?_
  refine SL.nil_then ?_
  refine WC.condT rfl ?_
  refine WC.seq ?_
  refine WC.region ?_
  refine SL.pure rfl rfl rfl (PureOp.move rfl) ?_
  refine SL.pure rfl rfl rfl (PureOp.assign rfl) ?_
  refine SL.pure rfl rfl rfl (PureOp.assign rfl) ?_
  refine SL.nil_then ?_
  refine WC.ret ?_
  refine QX.ret_then ?_
  refine QX.ret2 rfl rfl rfl ?_
  intro w hw
  rfl

set_option maxHeartbeats 4000000 in
set_option maxRecDepth 100000 in
theorem dclose_zero (b : Nat)  (w0 : World) (ho : ObjIn w0 b [.bool false, .bool false, .slice none 0 0, .slice none 0 0, .slice none 0 0, .slice none 0 0]) : FnC Try.prog 20 [.pointer (some ⟨b, 0, none⟩)] w0 fun v w' => v = .tuple #[.slice none 0 0, .int .i64 1] := by
  refine fnc (N := 19) Try.func20 rfl rfl rfl ?_
  refine WC.seq ?_
  refine WC.region ?_
  refine SL.pure rfl rfl rfl (PureOp.assign rfl) ?_
  refine SL.pure rfl rfl rfl (PureOp.assign rfl) ?_
  refine SL.nil_then ?_
  refine WC.seq ?_
  refine WC.seq ?_
  refine WC.region ?_
  refine SL.pure rfl rfl rfl (PureOp.move rfl) ?_
  refine SL.calle rfl rfl rfl rfl rfl rfl callable38 (fun w hw => dopen_zero b w (ho.below hw.below)) ?_
  refine SL.norm [] rfl ?_
  refine SL.pure rfl rfl rfl (PureOp.assign rfl) ?_
  refine SL.nil_then ?_
  refine WC.seq ?_
  refine WC.region ?_
  refine SL.pure rfl rfl rfl (PureOp.move rfl) ?_
  refine SL.pure rfl rfl rfl (PureOp.neq rfl rfl) ?_
  refine SL.lit 8 true rfl (by decide) ?_
  refine SL.nil_then ?_
  refine WC.condT rfl ?_
  refine WC.seq ?_
  refine WC.region ?_
  refine SL.pure rfl rfl rfl (PureOp.move rfl) ?_
  refine SL.pure rfl rfl rfl (PureOp.assign rfl) ?_
  refine SL.pure rfl rfl rfl (PureOp.assign rfl) ?_
  refine SL.nil_then ?_
  refine WC.ret ?_
  refine QX.ret_then ?_
  refine QX.ret2 rfl rfl rfl ?_
  intro w hw
  rfl

theorem dclose_dead (P : Option Addr)  (w0 : World) (hP : P = none ∨ ∃ b, P = some ⟨b, 0, none⟩ ∧ ObjIn w0 b [.bool false, .bool false, .slice none 0 0, .slice none 0 0, .slice none 0 0, .slice none 0 0]) : FnC Try.prog 20 [.pointer P] w0 fun v w' => v = .tuple #[.slice none 0 0, .int .i64 1] := by
  rcases hP with rfl | ⟨b, rfl, ho⟩
  · exact dclose_nil  w0
  · exact dclose_zero b  w0 ho
set_option maxHeartbeats 4000000 in
set_option maxRecDepth 100000 in
theorem dzone_nil (t : Int) (w0 : World) : FnC Try.prog 9 [.pointer none, .int .i64 t] w0 fun v w' => v = .int .i64 0 := by
  refine fnc (N := 30) Try.func9 rfl rfl rfl ?_
  refine WC.seq ?_
  refine WC.region ?_
  refine SL.pure rfl rfl rfl (PureOp.assign rfl) ?_
  refine SL.nil_then ?_
  refine WC.seq ?_
  refine WC.region ?_
  refine SL.pure rfl rfl rfl (PureOp.move rfl) ?_
  refine SL.pure rfl rfl rfl (PureOp.move rfl) ?_
  refine SL.calle rfl rfl rfl rfl rfl rfl callable27 (fun w hw => dfind_nil t w) ?_
  refine SL.norm [] rfl ?_
  refine SL.pure rfl rfl rfl (PureOp.assign rfl) ?_
  refine SL.nil_then ?_
  refine WC.seq ?_
  refine WC.seq ?_
  refine WC.region ?_
  refine SL.pure rfl rfl rfl (PureOp.move rfl) ?_
  refine SL.pure rfl rfl rfl (PureOp.lss rfl rfl) ?_
  refine SL.lit 11 true rfl (by decide) ?_
  refine SL.nil_then ?_
  refine WC.condT rfl ?_
  refine WC.seq ?_
  refine WC.region ?_
  refine SL.pure rfl rfl rfl (PureOp.assign rfl) ?_
  refine SL.nil_then ?_
  refine WC.ret ?_
  refine QX.ret_then ?_
  refine QX.ret1 rfl rfl ?_
  intro w hw
  rfl

set_option maxHeartbeats 4000000 in
set_option maxRecDepth 100000 in
theorem dzone_zero (b : Nat) (t : Int) (w0 : World) (ho : ObjIn w0 b [.bool false, .bool false, .slice none 0 0, .slice none 0 0, .slice none 0 0, .slice none 0 0]) : FnC Try.prog 9 [.pointer (some ⟨b, 0, none⟩), .int .i64 t] w0 fun v w' => v = .int .i64 0 := by
  refine fnc (N := 30) Try.func9 rfl rfl rfl ?_
  refine WC.seq ?_
  refine WC.region ?_
  refine SL.pure rfl rfl rfl (PureOp.assign rfl) ?_
  refine SL.nil_then ?_
  refine WC.seq ?_
  refine WC.region ?_
  refine SL.pure rfl rfl rfl (PureOp.move rfl) ?_
  refine SL.pure rfl rfl rfl (PureOp.move rfl) ?_
  refine SL.calle rfl rfl rfl rfl rfl rfl callable27 (fun w hw => dfind_zero b t w (ho.below hw.below)) ?_
  refine SL.norm [] rfl ?_
  refine SL.pure rfl rfl rfl (PureOp.assign rfl) ?_
  refine SL.nil_then ?_
  refine WC.seq ?_
  refine WC.seq ?_
  refine WC.region ?_
  refine SL.pure rfl rfl rfl (PureOp.move rfl) ?_
  refine SL.pure rfl rfl rfl (PureOp.lss rfl rfl) ?_
  refine SL.lit 11 true rfl (by decide) ?_
  refine SL.nil_then ?_
  refine WC.condT rfl ?_
  refine WC.seq ?_
  refine WC.region ?_
  refine SL.pure rfl rfl rfl (PureOp.assign rfl) ?_
  refine SL.nil_then ?_
  refine WC.ret ?_
  refine QX.ret_then ?_
  refine QX.ret1 rfl rfl ?_
  intro w hw
  rfl

theorem dzone_dead (P : Option Addr) (t : Int) (w0 : World) (hP : P = none ∨ ∃ b, P = some ⟨b, 0, none⟩ ∧ ObjIn w0 b [.bool false, .bool false, .slice none 0 0, .slice none 0 0, .slice none 0 0, .slice none 0 0]) : FnC Try.prog 9 [.pointer P, .int .i64 t] w0 fun v w' => v = .int .i64 0 := by
  rcases hP with rfl | ⟨b, rfl, ho⟩
  · exact dzone_nil t w0
  · exact dzone_zero b t w0 ho
set_option maxHeartbeats 4000000 in
set_option maxRecDepth 100000 in
theorem dmiss_nil  (w0 : World) : FnC Try.prog 14 [.pointer none] w0 fun v w' => v = .slice none 0 0 := by
  refine fnc (N := 34) Try.func14 rfl rfl rfl ?_
  refine WC.seq ?_
  refine WC.region ?_
  refine SL.pure rfl rfl rfl (PureOp.assign rfl) ?_
  refine SL.nil_then ?_
  refine WC.seq ?_
  refine WC.seq ?_
  refine WC.region ?_
  refine SL.pure rfl rfl rfl (PureOp.move rfl) ?_
  refine SL.pure rfl rfl rfl (PureOp.eqlpnil0 rfl rfl Try.underlying23) ?_
  refine SL.nil_then ?_
  refine WC.condT rfl ?_
  refine WC.seq ?_
  refine WC.region ?_
  refine SL.pure rfl rfl rfl (PureOp.assign rfl) ?_
  refine SL.nil_then ?_
  refine WC.ret ?_
  refine QX.ret_then ?_
  refine QX.ret1 rfl rfl ?_
  intro w hw
  rfl

set_option maxHeartbeats 4000000 in
set_option maxRecDepth 100000 in
theorem dmiss_zero (b : Nat)  (w0 : World) (ho : ObjIn w0 b [.bool false, .bool false, .slice none 0 0, .slice none 0 0, .slice none 0 0, .slice none 0 0]) : FnC Try.prog 14 [.pointer (some ⟨b, 0, none⟩)] w0 fun v w' => v = .slice none 0 0 := by
  refine fnc (N := 34) Try.func14 rfl rfl rfl ?_
  refine WC.seq ?_
  refine WC.region ?_
  refine SL.pure rfl rfl rfl (PureOp.assign rfl) ?_
  refine SL.nil_then ?_
  refine WC.seq ?_
  refine WC.seq ?_
  refine WC.region ?_
  refine SL.pure rfl rfl rfl (PureOp.move rfl) ?_
  refine SL.pure rfl rfl rfl (PureOp.eqlpnil1 rfl rfl Try.underlying23) ?_
  refine SL.nil_then ?_
  refine WC.condF rfl ?_
  refine WC.skip ?_
  refine QX.then_ ?_
  refine WC.seq ?_
  refine WC.region ?_
  refine SL.pure rfl rfl rfl (PureOp.assign rfl) ?_
  refine SL.nil_then ?_
  refine WC.seq ?_
  refine WC.seq ?_
  refine WC.region ?_
  refine SL.pure rfl rfl rfl (PureOp.move rfl) ?_
  refine SL.pure rfl rfl rfl (PureOp.nilCheckp rfl) ?_
  refine SL.pure rfl rfl rfl (PureOp.fieldAddrT 5 Try.underlying44 rfl sz38 rfl rfl) ?_
  refine SL.pure rfl rfl rfl (PureOp.load (v := .slice none 0 0) Try.underlying38 rfl rfl (fun _ => (ho.cell 5 rfl))) ?_
  refine SL.pure rfl rfl rfl (PureOp.len rfl Try.underlying38) ?_
  refine SL.pure rfl rfl rfl (PureOp.move rfl) ?_
  refine SL.nil_then ?_
  refine WC.block ?_
  refine WC.loop (σ := Nat) (fun q_ => [(0, 0, .pointer (some ⟨b, 0, none⟩)), (2, 0, .slice none 0 0), (6, 0, .pointer (some ⟨b, 0, none⟩)), (7, 0, .bool false), (8, 0, .pointer (some ⟨b, 0, none⟩)), (9, 0, .pointer (some ⟨b, 0, none⟩)), (10, 0, .pointer (some ⟨b, 5, none⟩)), (11, 0, .slice none 0 0), (12, 0, .int .i64 (0 : Int)), (13, 0, .int .i64 ((q_ : Nat) : Int)), (3, 0, .slice none 0 0)]) (fun q_ => []) (fun q_ => q_ = 0) (fun q_ => q_) 0 (0) (rfl) ⟨rfl, rfl, rfl, rfl, rfl, rfl, rfl, rfl, rfl, rfl, rfl, rfl, rfl, rfl, rfl, rfl, rfl, rfl, rfl, rfl, rfl, rfl, trivial⟩ rfl ?_
  rintro k hk
  refine WC.seq ?_
  refine WC.region ?_
  refine SL.pure rfl rfl rfl (PureOp.lss rfl rfl) ?_
  refine SL.nil_then ?_
  refine WC.seq ?_
  refine WC.cond rfl (fun h1 => ?_) (fun h1 => ?_)
  · try simp only [Bool.and_eq_true, Bool.or_eq_true, Bool.not_eq_true', Bool.not_eq_false', Bool.and_eq_false_iff, Bool.or_eq_false_iff, decide_eq_true_eq, decide_eq_false_iff_not, Int.not_lt, Int.not_le, ne_eq, Decidable.not_not] at h1
    exact absurd h1 (by omega)
  · try simp only [Bool.and_eq_true, Bool.or_eq_true, Bool.not_eq_true', Bool.not_eq_false', Bool.and_eq_false_iff, Bool.or_eq_false_iff, decide_eq_true_eq, decide_eq_false_iff_not, Int.not_lt, Int.not_le, ne_eq, Decidable.not_not] at h1
    refine WC.exit ?_
    refine QX.exit_then ?_
    refine QX.exit_then ?_
    refine QX.exit_hit ?_
    refine QX.then_ ?_
    refine WC.seq ?_
    refine WC.region ?_
    refine SL.pure rfl rfl rfl (PureOp.move rfl) ?_
    refine SL.pure rfl rfl rfl (PureOp.assign rfl) ?_
    refine SL.nil_then ?_
    refine WC.ret ?_
    refine QX.ret1 rfl rfl ?_
    intro w hw
    rfl

theorem dmiss_dead (P : Option Addr)  (w0 : World) (hP : P = none ∨ ∃ b, P = some ⟨b, 0, none⟩ ∧ ObjIn w0 b [.bool false, .bool false, .slice none 0 0, .slice none 0 0, .slice none 0 0, .slice none 0 0]) : FnC Try.prog 14 [.pointer P] w0 fun v w' => v = .slice none 0 0 := by
  rcases hP with rfl | ⟨b, rfl, ho⟩
  · exact dmiss_nil  w0
  · exact dmiss_zero b  w0 ho
set_option maxHeartbeats 4000000 in
set_option maxRecDepth 100000 in
theorem dlist_zero (b : Nat) (x : Bool) (w0 : World) (ho : ObjIn w0 b [.bool false, .bool false, .slice none 0 0, .slice none 0 0, .slice none 0 0, .slice none 0 0]) : FnC Try.prog 36 [.pointer (some ⟨b, 0, none⟩), .bool x] w0 fun v w' => v = .slice none 0 0 := by
  refine fnc (N := 33) Try.func36 rfl rfl rfl ?_
  refine WC.seq ?_
  refine WC.region ?_
  refine SL.pure rfl rfl rfl (PureOp.assign rfl) ?_
  refine SL.nil_then ?_
  refine WC.seq ?_
  refine WC.region ?_
  refine SL.pure rfl rfl rfl (PureOp.assign rfl) ?_
  refine SL.nil_then ?_
  refine WC.seq ?_
  refine WC.seq ?_
  refine WC.region ?_
  refine SL.pure rfl rfl rfl (PureOp.move rfl) ?_
  refine SL.pure rfl rfl rfl (PureOp.nilCheckp rfl) ?_
  refine SL.pure rfl rfl rfl (PureOp.fieldAddrT 2 Try.underlying44 rfl sz22 rfl rfl) ?_
  refine SL.pure rfl rfl rfl (PureOp.load (v := .slice none 0 0) Try.underlying22 rfl rfl (fun _ => (ho.cell 2 rfl))) ?_
  refine SL.pure rfl rfl rfl (PureOp.len rfl Try.underlying22) ?_
  refine SL.pure rfl rfl rfl (PureOp.move rfl) ?_
  refine SL.nil_then ?_
  refine WC.block ?_
  refine WC.loop (σ := Nat) (fun q_ => [(0, 0, .pointer (some ⟨b, 0, none⟩)), (1, 0, .bool x), (4, 0, .slice none 0 0), (8, 0, .pointer (some ⟨b, 0, none⟩)), (9, 0, .pointer (some ⟨b, 0, none⟩)), (10, 0, .pointer (some ⟨b, 2, none⟩)), (11, 0, .slice none 0 0), (12, 0, .int .i64 (0 : Int)), (13, 0, .int .i64 ((q_ : Nat) : Int)), (5, 0, .slice none 0 0)]) (fun q_ => []) (fun q_ => q_ = 0) (fun q_ => q_) 0 (0) (rfl) ⟨rfl, rfl, rfl, rfl, rfl, rfl, rfl, rfl, rfl, rfl, rfl, rfl, rfl, rfl, rfl, rfl, rfl, rfl, rfl, rfl, trivial⟩ rfl ?_
  rintro k hk
  refine WC.seq ?_
  refine WC.region ?_
  refine SL.pure rfl rfl rfl (PureOp.lss rfl rfl) ?_
  refine SL.nil_then ?_
  refine WC.seq ?_
  refine WC.cond rfl (fun h1 => ?_) (fun h1 => ?_)
  · try simp only [Bool.and_eq_true, Bool.or_eq_true, Bool.not_eq_true', Bool.not_eq_false', Bool.and_eq_false_iff, Bool.or_eq_false_iff, decide_eq_true_eq, decide_eq_false_iff_not, Int.not_lt, Int.not_le, ne_eq, Decidable.not_not] at h1
    exact absurd h1 (by omega)
  · try simp only [Bool.and_eq_true, Bool.or_eq_true, Bool.not_eq_true', Bool.not_eq_false', Bool.and_eq_false_iff, Bool.or_eq_false_iff, decide_eq_true_eq, decide_eq_false_iff_not, Int.not_lt, Int.not_le, ne_eq, Decidable.not_not] at h1
    refine WC.exit ?_
    refine QX.exit_then ?_
    refine QX.exit_then ?_
    refine QX.exit_hit ?_
    refine QX.then_ ?_
    refine WC.seq ?_
    refine WC.region ?_
    refine SL.pure rfl rfl rfl (PureOp.move rfl) ?_
    refine SL.pure rfl rfl rfl (PureOp.assign rfl) ?_
    refine SL.nil_then ?_
    refine WC.ret ?_
    refine QX.ret1 rfl rfl ?_
    intro w hw
    rfl

set_option maxHeartbeats 4000000 in
set_option maxRecDepth 100000 in
theorem dwait_nil  (w0 : World) : FnC Try.prog 17 [.pointer none] w0 fun v w' => v = .slice none 0 0 := by
  refine fnc (N := 7) Try.func17 rfl rfl rfl ?_
  refine WC.seq ?_
  refine WC.region ?_
  refine SL.pure rfl rfl rfl (PureOp.assign rfl) ?_
  refine SL.nil_then ?_
  refine WC.seq ?_
  refine WC.seq ?_
  refine WC.region ?_
  refine SL.pure rfl rfl rfl (PureOp.move rfl) ?_
  refine SL.pure rfl rfl rfl (PureOp.eqlpnil0 rfl rfl Try.underlying23) ?_
  refine SL.nil_then ?_
  refine WC.condT rfl ?_
  refine WC.seq ?_
  refine WC.region ?_
  refine SL.pure rfl rfl rfl (PureOp.assign rfl) ?_
  refine SL.nil_then ?_
  refine WC.ret ?_
  refine QX.ret_then ?_
  refine QX.ret1 rfl rfl ?_
  intro w hw
  rfl

set_option maxHeartbeats 4000000 in
set_option maxRecDepth 100000 in
theorem dwait_zero (b : Nat)  (w0 : World) (ho : ObjIn w0 b [.bool false, .bool false, .slice none 0 0, .slice none 0 0, .slice none 0 0, .slice none 0 0]) : FnC Try.prog 17 [.pointer (some ⟨b, 0, none⟩)] w0 fun v w' => v = .slice none 0 0 := by
  refine fnc (N := 7) Try.func17 rfl rfl rfl ?_
  refine WC.seq ?_
  refine WC.region ?_
  refine SL.pure rfl rfl rfl (PureOp.assign rfl) ?_
  refine SL.nil_then ?_
  refine WC.seq ?_
  refine WC.seq ?_
  refine WC.region ?_
  refine SL.pure rfl rfl rfl (PureOp.move rfl) ?_
  refine SL.pure rfl rfl rfl (PureOp.eqlpnil1 rfl rfl Try.underlying23) ?_
  refine SL.nil_then ?_
  refine WC.condF rfl ?_
  refine WC.skip ?_
  refine QX.then_ ?_
  refine WC.seq ?_
  refine WC.region ?_
  refine SL.pure rfl rfl rfl (PureOp.move rfl) ?_
  refine SL.calle rfl rfl rfl rfl rfl rfl callable36 (fun w hw => dlist_zero b false w (ho.below hw.below)) ?_
  refine SL.norm [] rfl ?_
  refine SL.pure rfl rfl rfl (PureOp.assign rfl) ?_
  refine SL.nil_then ?_
  refine WC.ret ?_
  refine QX.ret1 rfl rfl ?_
  intro w hw
  rfl

theorem dwait_dead (P : Option Addr)  (w0 : World) (hP : P = none ∨ ∃ b, P = some ⟨b, 0, none⟩ ∧ ObjIn w0 b [.bool false, .bool false, .slice none 0 0, .slice none 0 0, .slice none 0 0, .slice none 0 0]) : FnC Try.prog 17 [.pointer P] w0 fun v w' => v = .slice none 0 0 := by
  rcases hP with rfl | ⟨b, rfl, ho⟩
  · exact dwait_nil  w0
  · exact dwait_zero b  w0 ho
set_option maxHeartbeats 4000000 in
set_option maxRecDepth 100000 in
theorem ernone_nil  (w0 : World) : FnC Try.prog 34 [.pointer none] w0 fun v w' => v = .bool true := by
  refine fnc (N := 12) Try.func34 rfl rfl rfl ?_
  refine WC.seq ?_
  refine WC.region ?_
  refine SL.pure rfl rfl rfl (PureOp.assign rfl) ?_
  refine SL.nil_then ?_
  refine WC.seq ?_
  refine WC.region ?_
  refine SL.pure rfl rfl rfl (PureOp.move rfl) ?_
  refine SL.pure rfl rfl rfl (PureOp.eqlpnil0 rfl rfl Try.underlying31) ?_
  refine SL.pure rfl rfl rfl (PureOp.move rfl) ?_
  refine SL.off rfl rfl rfl rfl rfl rfl ?_
  refine SL.off rfl rfl rfl rfl rfl rfl ?_
  refine SL.off rfl rfl rfl rfl rfl rfl ?_
  refine SL.off rfl rfl rfl rfl rfl rfl ?_
  refine SL.off rfl rfl rfl rfl rfl rfl ?_
  refine SL.pure rfl rfl rfl (PureOp.pickT rfl rfl) ?_
  refine SL.pure rfl rfl rfl (PureOp.assign rfl) ?_
  refine SL.nil_then ?_
  refine WC.ret ?_
  refine QX.ret1 rfl rfl ?_
  intro w hw
  rfl

set_option maxHeartbeats 4000000 in
set_option maxRecDepth 100000 in
theorem erready_nil  (w0 : World) : FnC Try.prog 43 [.pointer none] w0 fun v w' => v = .int .i64 1 := by
  refine fnc (N := 9) Try.func43 rfl rfl rfl ?_
  refine WC.seq ?_
  refine WC.region ?_
  refine SL.pure rfl rfl rfl (PureOp.assign rfl) ?_
  refine SL.nil_then ?_
  refine WC.seq ?_
  refine WC.seq ?_
  refine WC.region ?_
  refine SL.pure rfl rfl rfl (PureOp.move rfl) ?_
  refine SL.calle rfl rfl rfl rfl rfl rfl callable34 (fun w hw => ernone_nil w) ?_
  refine SL.norm [] rfl ?_
  refine SL.nil_then ?_
  refine WC.condT rfl ?_
  refine WC.seq ?_
  refine WC.region ?_
  refine SL.pure rfl rfl rfl (PureOp.assign rfl) ?_
  refine SL.nil_then ?_
  refine WC.ret ?_
  refine QX.ret_then ?_
  refine QX.ret1 rfl rfl ?_
  intro w hw
  rfl

set_option maxHeartbeats 4000000 in
set_option maxRecDepth 100000 in
theorem erload_nil (x : Bag) (w0 : World) : FnC Try.prog 29 [.pointer none, .agg #[.int .i64 x.1, .int .i64 x.2.1, .int .i64 x.2.2]] w0 fun v w' => v = .int .i64 1 := by
  refine fnc (N := 31) Try.func29 rfl rfl rfl ?_
  refine WC.seq ?_
  refine WC.region ?_
  refine SL.box rfl rfl rfl (fun b1 hb1 => ?_)
  refine SL.norm [_] rfl ?_
  refine SL.pure rfl rfl rfl (PureOp.assign rfl) ?_
  refine SL.nil_then ?_
  refine WC.seq ?_
  refine WC.seq ?_
  refine WC.region ?_
  refine SL.pure rfl rfl rfl (PureOp.move rfl) ?_
  refine SL.calle rfl rfl rfl rfl rfl rfl callable43 (fun w hw => erready_nil w) ?_
  refine SL.norm [_] rfl ?_
  refine SL.pure rfl rfl rfl (PureOp.assign rfl) ?_
  refine SL.nil_then ?_
  refine WC.seq ?_
  refine WC.region ?_
  refine SL.pure rfl rfl rfl (PureOp.move rfl) ?_
  refine SL.pure rfl rfl rfl (PureOp.neq rfl rfl) ?_
  refine SL.lit 9 true rfl (by decide) ?_
  refine SL.nil_then ?_
  refine WC.condT rfl ?_
  refine WC.seq ?_
  refine WC.region ?_
  refine SL.pure rfl rfl rfl (PureOp.move rfl) ?_
  refine SL.pure rfl rfl rfl (PureOp.assign rfl) ?_
  refine SL.nil_then ?_
  refine WC.ret ?_
  refine QX.ret_then ?_
  refine QX.ret1 rfl rfl ?_
  intro w hw
  rfl

set_option maxHeartbeats 4000000 in
set_option maxRecDepth 100000 in
theorem erunload_nil (g : Int) (w0 : World) : FnC Try.prog 30 [.pointer none, .int .i64 g] w0 fun v w' => v = .tuple #[.agg (encBag (0, 0, 0)).toArray, .int .i64 1] := by
  refine fnc (N := 48) Try.func30 rfl rfl rfl ?_
  refine WC.seq ?_
  refine WC.region ?_
  refine SL.alloc rfl rfl zero47 (fun b1 hb1 => ?_)
  refine SL.norm [_] rfl ?_
  refine SL.pure rfl rfl rfl (PureOp.assign rfl) ?_
  refine SL.nil_then ?_
  refine WC.seq ?_
  refine WC.seq ?_
  refine WC.region ?_
  refine SL.pure rfl rfl rfl (PureOp.move rfl) ?_
  refine SL.calle rfl rfl rfl rfl rfl rfl callable43 (fun w hw => erready_nil w) ?_
  refine SL.norm [_] rfl ?_
  refine SL.pure rfl rfl rfl (PureOp.assign rfl) ?_
  refine SL.nil_then ?_
  refine WC.seq ?_
  refine WC.region ?_
  refine SL.pure rfl rfl rfl (PureOp.move rfl) ?_
  refine SL.pure rfl rfl rfl (PureOp.neq rfl rfl) ?_
  refine SL.lit 12 true rfl (by decide) ?_
  refine SL.nil_then ?_
  refine WC.condT rfl ?_
  refine WC.seq ?_
  refine WC.region ?_
  refine SL.pure rfl rfl rfl (PureOp.build bld47 rfl rfl) ?_
  refine SL.pure rfl rfl rfl (PureOp.move rfl) ?_
  refine SL.store 0 rfl rfl rfl rfl sz47 rfl rfl ?_
  refine SL.norm [_] rfl ?_
  refine SL.pure rfl rfl rfl (PureOp.assign rfl) ?_
  refine SL.nil_then ?_
  refine WC.ret ?_
  refine QX.ret_then ?_
  refine QX.retv rfl (RVs.cons (RV.cell rfl Try.underlying47 rfl (RowIs.cells 0 0 3 rfl rfl) sz47) (RVs.cons (RV.tmp rfl) RVs.nil)) ?_
  intro w hw
  rfl

set_option maxHeartbeats 4000000 in
set_option maxRecDepth 100000 in
theorem erboard_nil (t : Int) (w0 : World) : FnC Try.prog 31 [.pointer none, .int .i64 t] w0 fun v w' => v = .int .i64 1 := by
  refine fnc (N := 30) Try.func31 rfl rfl rfl ?_
  refine WC.seq ?_
  refine WC.region ?_
  refine SL.pure rfl rfl rfl (PureOp.assign rfl) ?_
  refine SL.nil_then ?_
  refine WC.seq ?_
  refine WC.seq ?_
  refine WC.region ?_
  refine SL.pure rfl rfl rfl (PureOp.move rfl) ?_
  refine SL.calle rfl rfl rfl rfl rfl rfl callable43 (fun w hw => erready_nil w) ?_
  refine SL.norm [] rfl ?_
  refine SL.pure rfl rfl rfl (PureOp.assign rfl) ?_
  refine SL.nil_then ?_
  refine WC.seq ?_
  refine WC.region ?_
  refine SL.pure rfl rfl rfl (PureOp.move rfl) ?_
  refine SL.pure rfl rfl rfl (PureOp.neq rfl rfl) ?_
  refine SL.lit 10 true rfl (by decide) ?_
  refine SL.nil_then ?_
  refine WC.condT rfl ?_
  refine WC.seq ?_
  refine WC.region ?_
  refine SL.pure rfl rfl rfl (PureOp.move rfl) ?_
  refine SL.pure rfl rfl rfl (PureOp.assign rfl) ?_
  refine SL.nil_then ?_
  refine WC.ret ?_
  refine QX.ret_then ?_
  refine QX.ret1 rfl rfl ?_
  intro w hw
  rfl

set_option maxHeartbeats 4000000 in
set_option maxRecDepth 100000 in
theorem eroff_nil (t : Int) (w0 : World) : FnC Try.prog 32 [.pointer none, .int .i64 t] w0 fun v w' => v = .int .i64 1 := by
  refine fnc (N := 31) Try.func32 rfl rfl rfl ?_
  refine WC.seq ?_
  refine WC.region ?_
  refine SL.pure rfl rfl rfl (PureOp.assign rfl) ?_
  refine SL.nil_then ?_
  refine WC.seq ?_
  refine WC.seq ?_
  refine WC.region ?_
  refine SL.pure rfl rfl rfl (PureOp.move rfl) ?_
  refine SL.calle rfl rfl rfl rfl rfl rfl callable43 (fun w hw => erready_nil w) ?_
  refine SL.norm [] rfl ?_
  refine SL.pure rfl rfl rfl (PureOp.assign rfl) ?_
  refine SL.nil_then ?_
  refine WC.seq ?_
  refine WC.region ?_
  refine SL.pure rfl rfl rfl (PureOp.move rfl) ?_
  refine SL.pure rfl rfl rfl (PureOp.neq rfl rfl) ?_
  refine SL.lit 10 true rfl (by decide) ?_
  refine SL.nil_then ?_
  refine WC.condT rfl ?_
  refine WC.seq ?_
  refine WC.region ?_
  refine SL.pure rfl rfl rfl (PureOp.move rfl) ?_
  refine SL.pure rfl rfl rfl (PureOp.assign rfl) ?_
  refine SL.nil_then ?_
  refine WC.ret ?_
  refine QX.ret_then ?_
  refine QX.ret1 rfl rfl ?_
  intro w hw
  rfl

set_option maxHeartbeats 4000000 in
set_option maxRecDepth 100000 in
theorem erclose_nil  (w0 : World) : FnC Try.prog 33 [.pointer none] w0 fun v w' => v = .tuple #[.slice none 0 0, .int .i64 1] := by
  refine fnc (N := 19) Try.func33 rfl rfl rfl ?_
  refine WC.seq ?_
  refine WC.region ?_
  refine SL.pure rfl rfl rfl (PureOp.assign rfl) ?_
  refine SL.pure rfl rfl rfl (PureOp.assign rfl) ?_
  refine SL.nil_then ?_
  refine WC.seq ?_
  refine WC.seq ?_
  refine WC.region ?_
  refine SL.pure rfl rfl rfl (PureOp.move rfl) ?_
  refine SL.calle rfl rfl rfl rfl rfl rfl callable43 (fun w hw => erready_nil w) ?_
  refine SL.norm [] rfl ?_
  refine SL.pure rfl rfl rfl (PureOp.assign rfl) ?_
  refine SL.nil_then ?_
  refine WC.seq ?_
  refine WC.region ?_
  refine SL.pure rfl rfl rfl (PureOp.move rfl) ?_
  refine SL.pure rfl rfl rfl (PureOp.neq rfl rfl) ?_
  refine SL.lit 8 true rfl (by decide) ?_
  refine SL.nil_then ?_
  refine WC.condT rfl ?_
  refine WC.seq ?_
  refine WC.region ?_
  refine SL.pure rfl rfl rfl (PureOp.move rfl) ?_
  refine SL.pure rfl rfl rfl (PureOp.assign rfl) ?_
  refine SL.pure rfl rfl rfl (PureOp.assign rfl) ?_
  refine SL.nil_then ?_
  refine WC.ret ?_
  refine QX.ret_then ?_
  refine QX.ret2 rfl rfl rfl ?_
  intro w hw
  rfl

set_option maxHeartbeats 4000000 in
set_option maxRecDepth 100000 in
theorem erzone_nil (t : Int) (w0 : World) : FnC Try.prog 12 [.pointer none, .int .i64 t] w0 fun v w' => v = .int .i64 0 := by
  refine fnc (N := 48) Try.func12 rfl rfl rfl ?_
  refine WC.seq ?_
  refine WC.region ?_
  refine SL.pure rfl rfl rfl (PureOp.assign rfl) ?_
  refine SL.nil_then ?_
  refine WC.seq ?_
  refine WC.seq ?_
  refine WC.region ?_
  refine SL.pure rfl rfl rfl (PureOp.move rfl) ?_
  refine SL.calle rfl rfl rfl rfl rfl rfl callable34 (fun w hw => ernone_nil w) ?_
  refine SL.norm [] rfl ?_
  refine SL.pure rfl rfl rfl (PureOp.move rfl) ?_
  refine SL.off rfl rfl rfl rfl rfl rfl ?_
  refine SL.off rfl rfl rfl rfl rfl rfl ?_
  refine SL.off rfl rfl rfl rfl rfl rfl ?_
  refine SL.off rfl rfl rfl rfl rfl rfl ?_
  refine SL.pure rfl rfl rfl (PureOp.pickT rfl rfl) ?_
  refine SL.nil_then ?_
  refine WC.condT rfl ?_
  refine WC.seq ?_
  refine WC.region ?_
  refine SL.pure rfl rfl rfl (PureOp.assign rfl) ?_
  refine SL.nil_then ?_
  refine WC.ret ?_
  refine QX.ret_then ?_
  refine QX.ret1 rfl rfl ?_
  intro w hw
  rfl

set_option maxHeartbeats 4000000 in
set_option maxRecDepth 100000 in
theorem ermiss_nil  (w0 : World) : FnC Try.prog 15 [.pointer none] w0 fun v w' => v = .slice none 0 0 := by
  refine fnc (N := 47) Try.func15 rfl rfl rfl ?_
  refine WC.seq ?_
  refine WC.region ?_
  refine SL.pure rfl rfl rfl (PureOp.assign rfl) ?_
  refine SL.nil_then ?_
  refine WC.seq ?_
  refine WC.region ?_
  refine SL.pure rfl rfl rfl (PureOp.assign rfl) ?_
  refine SL.nil_then ?_
  refine WC.seq ?_
  refine WC.seq ?_
  refine WC.region ?_
  refine SL.pure rfl rfl rfl (PureOp.assign rfl) ?_
  refine SL.nil_then ?_
  refine WC.block ?_
  refine WC.loop (σ := Nat) (fun q_ => [(0, 0, .pointer none), (2, 0, .slice none 0 0), (4, 0, .int .i64 ((q_ : Nat) : Int)), (3, 0, .slice none 0 0)]) (fun q_ => []) (fun q_ => q_ = 0) (fun q_ => q_) 0 (0) (rfl) ⟨rfl, rfl, rfl, rfl, rfl, rfl, rfl, rfl, trivial⟩ rfl ?_
  rintro k hk
  refine WC.seq ?_
  refine WC.seq ?_
  refine WC.region ?_
  refine SL.pure rfl rfl rfl (PureOp.move rfl) ?_
  refine SL.calle rfl rfl rfl rfl rfl rfl callable34 (fun w hw => ernone_nil w) ?_
  refine SL.norm [] rfl ?_
  refine SL.pure rfl rfl rfl (PureOp.not rfl) ?_
  refine SL.pure rfl rfl rfl (PureOp.move rfl) ?_
  refine SL.off rfl rfl rfl rfl rfl rfl ?_
  refine SL.off rfl rfl rfl rfl rfl rfl ?_
  refine SL.off rfl rfl rfl rfl rfl rfl ?_
  refine SL.off rfl rfl rfl rfl rfl rfl ?_
  refine SL.off rfl rfl rfl rfl rfl rfl ?_
  refine SL.off rfl rfl rfl rfl rfl rfl ?_
  refine SL.off rfl rfl rfl rfl rfl rfl ?_
  refine SL.pure rfl rfl rfl (PureOp.pickF rfl rfl) ?_
  refine SL.nil_then ?_
  refine WC.condF rfl ?_
  refine WC.exit ?_
  refine QX.exit_then ?_
  refine QX.exit_then ?_
  refine QX.exit_hit ?_
  refine QX.then_ ?_
  refine WC.seq ?_
  refine WC.region ?_
  refine SL.pure rfl rfl rfl (PureOp.move rfl) ?_
  refine SL.pure rfl rfl rfl (PureOp.assign rfl) ?_
  refine SL.nil_then ?_
  refine WC.ret ?_
  refine QX.ret1 rfl rfl ?_
  intro w hw
  rfl

set_option maxHeartbeats 4000000 in
set_option maxRecDepth 100000 in
theorem erlist_nil (x : Bool) (w0 : World) : FnC Try.prog 37 [.pointer none, .bool x] w0 fun v w' => v = .slice none 0 0 := by
  refine fnc (N := 41) Try.func37 rfl rfl rfl ?_
  refine WC.seq ?_
  refine WC.region ?_
  refine SL.pure rfl rfl rfl (PureOp.assign rfl) ?_
  refine SL.nil_then ?_
  refine WC.seq ?_
  refine WC.region ?_
  refine SL.pure rfl rfl rfl (PureOp.assign rfl) ?_
  refine SL.nil_then ?_
  refine WC.seq ?_
  refine WC.seq ?_
  refine WC.region ?_
  refine SL.pure rfl rfl rfl (PureOp.assign rfl) ?_
  refine SL.nil_then ?_
  refine WC.block ?_
  refine WC.loop (σ := Nat) (fun q_ => [(0, 0, .pointer none), (1, 0, .bool x), (4, 0, .slice none 0 0), (6, 0, .int .i64 ((q_ : Nat) : Int)), (5, 0, .slice none 0 0)]) (fun q_ => []) (fun q_ => q_ = 0) (fun q_ => q_) 0 (0) (rfl) ⟨rfl, rfl, rfl, rfl, rfl, rfl, rfl, rfl, rfl, rfl, trivial⟩ rfl ?_
  rintro k hk
  refine WC.seq ?_
  refine WC.seq ?_
  refine WC.region ?_
  refine SL.pure rfl rfl rfl (PureOp.move rfl) ?_
  refine SL.calle rfl rfl rfl rfl rfl rfl callable34 (fun w hw => ernone_nil w) ?_
  refine SL.norm [] rfl ?_
  refine SL.pure rfl rfl rfl (PureOp.not rfl) ?_
  refine SL.pure rfl rfl rfl (PureOp.move rfl) ?_
  refine SL.off rfl rfl rfl rfl rfl rfl ?_
  refine SL.off rfl rfl rfl rfl rfl rfl ?_
  refine SL.off rfl rfl rfl rfl rfl rfl ?_
  refine SL.off rfl rfl rfl rfl rfl rfl ?_
  refine SL.off rfl rfl rfl rfl rfl rfl ?_
  refine SL.off rfl rfl rfl rfl rfl rfl ?_
  refine SL.off rfl rfl rfl rfl rfl rfl ?_
  refine SL.pure rfl rfl rfl (PureOp.pickF rfl rfl) ?_
  refine SL.nil_then ?_
  refine WC.condF rfl ?_
  refine WC.exit ?_
  refine QX.exit_then ?_
  refine QX.exit_then ?_
  refine QX.exit_hit ?_
  refine QX.then_ ?_
  refine WC.seq ?_
  refine WC.region ?_
  refine SL.pure rfl rfl rfl (PureOp.move rfl) ?_
  refine SL.pure rfl rfl rfl (PureOp.assign rfl) ?_
  refine SL.nil_then ?_
  refine WC.ret ?_
  refine QX.ret1 rfl rfl ?_
  intro w hw
  rfl

set_option maxHeartbeats 4000000 in
set_option maxRecDepth 100000 in
theorem erwait_nil  (w0 : World) : FnC Try.prog 18 [.pointer none] w0 fun v w' => v = .slice none 0 0 := by
  refine fnc (N := 5) Try.func18 rfl rfl rfl ?_
  refine WC.seq ?_
  refine WC.region ?_
  refine SL.pure rfl rfl rfl (PureOp.assign rfl) ?_
  refine SL.nil_then ?_
  refine WC.seq ?_
  refine WC.region ?_
  refine SL.pure rfl rfl rfl (PureOp.move rfl) ?_
  refine SL.calle rfl rfl rfl rfl rfl rfl callable37 (fun w hw => erlist_nil false w) ?_
  refine SL.norm [] rfl ?_
  refine SL.pure rfl rfl rfl (PureOp.assign rfl) ?_
  refine SL.nil_then ?_
  refine WC.ret ?_
  refine QX.ret1 rfl rfl ?_
  intro w hw
  rfl

set_option maxHeartbeats 4000000 in
set_option maxRecDepth 100000 in
theorem stepnil_ok (s : Int × Int × Int) (w0 : World) : FnC Try.prog 11 [.pointer none, .pointer none, .agg #[.int .i64 s.1, .int .i64 s.2.1, .int .i64 s.2.2]] w0 fun v w' => v = .bool true := by
  refine fnc (N := 101) Try.func11 rfl rfl rfl ?_
  refine WC.seq ?_
  refine WC.region ?_
  refine SL.box rfl rfl rfl (fun b1 hb1 => ?_)
  refine SL.norm [_] rfl ?_
  refine SL.pure rfl rfl rfl (PureOp.assign rfl) ?_
  refine SL.nil_then ?_
  refine WC.seq ?_
  refine WC.seq ?_
  refine WC.region ?_
  refine SL.pure rfl rfl rfl (PureOp.fieldAddrT 0 Try.underlying36 rfl sz3 rfl rfl) ?_
  refine SL.pure rfl rfl rfl (PureOp.load (v := .int .i64 s.1) Try.underlying3 rfl rfl (fun _ => (CellIs.cells 0 rfl rfl))) ?_
  refine SL.nil_then ?_
  refine WC.block ?_
  refine WC.seq ?_
  refine WC.region ?_
  refine SL.pure rfl rfl rfl (PureOp.eql rfl rfl) ?_
  refine SL.pure rfl rfl rfl (PureOp.assign rfl) ?_
  refine SL.nil_then ?_
  refine WC.cond rfl (fun h1 => ?_) (fun h1 => ?_)
  · try simp only [Bool.and_eq_true, Bool.or_eq_true, Bool.not_eq_true', Bool.not_eq_false', Bool.and_eq_false_iff, Bool.or_eq_false_iff, decide_eq_true_eq, decide_eq_false_iff_not, Int.not_lt, Int.not_le, ne_eq, Decidable.not_not] at h1
    refine WC.seq ?_
    refine WC.region ?_
    refine SL.pure rfl rfl rfl (PureOp.fieldAddrT 1 Try.underlying36 rfl sz3 rfl rfl) ?_
    refine SL.pure rfl rfl rfl (PureOp.load (v := .int .i64 s.2.1) Try.underlying3 rfl rfl (fun _ => (CellIs.cells 0 rfl rfl))) ?_
    refine SL.pure rfl rfl rfl (PureOp.fieldAddrT 2 Try.underlying36 rfl sz3 rfl rfl) ?_
    refine SL.pure rfl rfl rfl (PureOp.load (v := .int .i64 s.2.2) Try.underlying3 rfl rfl (fun _ => (CellIs.cells 0 rfl rfl))) ?_
    refine SL.pure rfl rfl rfl (PureOp.fieldAddrT 1 Try.underlying36 rfl sz3 rfl rfl) ?_
    refine SL.pure rfl rfl rfl (PureOp.load (v := .int .i64 s.2.1) Try.underlying3 rfl rfl (fun _ => (CellIs.cells 0 rfl rfl))) ?_
    refine SL.pure rfl rfl rfl (PureOp.rem rfl rfl (fun _ => by omega)) ?_
    refine SL.pure rfl rfl rfl (PureOp.build bld47 rfl rfl) ?_
    refine SL.alloc rfl rfl zero47 (fun b2 hb2 => ?_)
    refine SL.norm [_, _] rfl ?_
    refine SL.store 1 rfl rfl rfl rfl sz47 rfl rfl ?_
    refine SL.norm [_, _] rfl ?_
    refine SL.nil_then ?_
    refine WC.seq ?_
    refine WC.quiet rfl (by kernel_rfl) ?_
    refine SQ.pure rfl rfl rfl (PureOp.move rfl) ?_
    refine SQ.pure rfl rfl rfl (PureOp.loads (vs := [.int .i64 s.2.1, .int .i64 s.2.2, .int .i64 ((s.2.1).tmod 40)]) Try.underlying47 rfl rfl (fun _ => (RowIs.cells 1 0 3 rfl rfl)) sz47) ?_
    refine SQ.calle rfl rfl rfl rfl rfl rfl callable21 (fun w hw => dload_nil (s.2.1, s.2.2, s.2.1.tmod 40) w) ?_
    refine SQ.pure rfl rfl rfl (PureOp.move rfl) ?_
    refine SQ.pure rfl rfl rfl (PureOp.loads (vs := [.int .i64 s.2.1, .int .i64 s.2.2, .int .i64 ((s.2.1).tmod 40)]) Try.underlying47 rfl rfl (fun _ => (RowIs.cells 1 0 3 rfl rfl)) sz47) ?_
    refine SQ.calle rfl rfl rfl rfl rfl rfl callable29 (fun w hw => erload_nil (s.2.1, s.2.2, s.2.1.tmod 40) w) ?_
    refine SQ.pure rfl rfl rfl (PureOp.eql rfl rfl) ?_
    refine SQ.pure rfl rfl rfl (PureOp.assign rfl) ?_
    refine SQ.nil_then ?_
    refine WC.ret ?_
    refine QX.ret_in ?_
    refine QX.ret_then ?_
    refine QX.ret1 rfl rfl ?_
    intro w hw
    first | rfl | (rw [eqB_refl (ks := [0, 0, 0]) rfl]; rfl)
  · try simp only [Bool.and_eq_true, Bool.or_eq_true, Bool.not_eq_true', Bool.not_eq_false', Bool.and_eq_false_iff, Bool.or_eq_false_iff, decide_eq_true_eq, decide_eq_false_iff_not, Int.not_lt, Int.not_le, ne_eq, Decidable.not_not] at h1
    refine WC.seq ?_
    refine WC.region ?_
    refine SL.pure rfl rfl rfl (PureOp.eql rfl rfl) ?_
    refine SL.pure rfl rfl rfl (PureOp.assign rfl) ?_
    refine SL.nil_then ?_
    refine WC.cond rfl (fun h2 => ?_) (fun h2 => ?_)
    · try simp only [Bool.and_eq_true, Bool.or_eq_true, Bool.not_eq_true', Bool.not_eq_false', Bool.and_eq_false_iff, Bool.or_eq_false_iff, decide_eq_true_eq, decide_eq_false_iff_not, Int.not_lt, Int.not_le, ne_eq, Decidable.not_not] at h2
      refine WC.seq ?_
      refine WC.region ?_
      refine SL.pure rfl rfl rfl (PureOp.move rfl) ?_
      refine SL.pure rfl rfl rfl (PureOp.fieldAddrT 1 Try.underlying36 rfl sz3 rfl rfl) ?_
      refine SL.pure rfl rfl rfl (PureOp.load (v := .int .i64 s.2.1) Try.underlying3 rfl rfl (fun _ => (CellIs.cells 0 rfl rfl))) ?_
      refine SL.calle rfl rfl rfl rfl rfl rfl callable19 (fun w hw => dunload_nil s.2.1 w) ?_
      refine SL.norm [_] rfl ?_
      refine SL.pure rfl rfl rfl (PureOp.move rfl) ?_
      refine SL.pure rfl rfl rfl (PureOp.extract rfl rfl) ?_
      refine SL.pure rfl rfl rfl (PureOp.extract rfl rfl) ?_
      refine SL.alloc rfl rfl zero47 (fun b3 hb3 => ?_)
      refine SL.norm [_, _] rfl ?_
      refine SL.store 1 rfl rfl rfl rfl sz47 rfl rfl ?_
      refine SL.norm [_, _] rfl ?_
      refine SL.pure rfl rfl rfl (PureOp.assign rfl) ?_
      refine SL.nil_then ?_
      refine WC.seq ?_
      refine WC.region ?_
      refine SL.pure rfl rfl rfl (PureOp.move rfl) ?_
      refine SL.pure rfl rfl rfl (PureOp.fieldAddrT 1 Try.underlying36 rfl sz3 rfl rfl) ?_
      refine SL.pure rfl rfl rfl (PureOp.load (v := .int .i64 s.2.1) Try.underlying3 rfl rfl (fun _ => (CellIs.cells 0 rfl rfl))) ?_
      refine SL.calle rfl rfl rfl rfl rfl rfl callable30 (fun w hw => erunload_nil s.2.1 w) ?_
      refine SL.norm [_, _] rfl ?_
      refine SL.pure rfl rfl rfl (PureOp.move rfl) ?_
      refine SL.pure rfl rfl rfl (PureOp.extract rfl rfl) ?_
      refine SL.pure rfl rfl rfl (PureOp.extract rfl rfl) ?_
      refine SL.alloc rfl rfl zero47 (fun b4 hb4 => ?_)
      refine SL.norm [_, _, _] rfl ?_
      refine SL.store 2 rfl rfl rfl rfl sz47 rfl rfl ?_
      refine SL.norm [_, _, _] rfl ?_
      refine SL.pure rfl rfl rfl (PureOp.assign rfl) ?_
      refine SL.nil_then ?_
      refine WC.seq ?_
      refine WC.region ?_
      refine SL.pure rfl rfl rfl (PureOp.loads (vs := [.int .i64 0, .int .i64 0, .int .i64 0]) Try.underlying47 rfl rfl (fun _ => (RowIs.cells 1 0 3 rfl rfl)) sz47) ?_
      refine SL.pure rfl rfl rfl (PureOp.loads (vs := [.int .i64 0, .int .i64 0, .int .i64 0]) Try.underlying47 rfl rfl (fun _ => (RowIs.cells 2 0 3 rfl rfl)) sz47) ?_
      refine SL.pure rfl rfl rfl (PureOp.eqla rfl rfl flat47 rfl) ?_
      refine SL.pure rfl rfl rfl (PureOp.move rfl) ?_
      refine SL.newg 54 true rfl ?_
      refine SL.gpure (c := 1) rfl rfl rfl rfl rfl rfl rfl (PureOp.move rfl) ?_
      refine SL.gpure (c := 1) rfl rfl rfl rfl rfl rfl rfl (PureOp.move rfl) ?_
      refine SL.gpure (c := 1) rfl rfl rfl rfl rfl rfl rfl (PureOp.eql rfl rfl) ?_
      refine SL.pure rfl rfl rfl (PureOp.and_ rfl rfl rfl rfl) ?_
      refine SL.pure rfl rfl rfl (PureOp.assign rfl) ?_
      refine SL.nil_then ?_
      refine WC.ret ?_
      refine QX.ret_in ?_
      refine QX.ret_then ?_
      refine QX.ret1 rfl rfl ?_
      intro w hw
      first | rfl | (rw [eqB_refl (ks := [0, 0, 0]) rfl]; rfl)
    · try simp only [Bool.and_eq_true, Bool.or_eq_true, Bool.not_eq_true', Bool.not_eq_false', Bool.and_eq_false_iff, Bool.or_eq_false_iff, decide_eq_true_eq, decide_eq_false_iff_not, Int.not_lt, Int.not_le, ne_eq, Decidable.not_not] at h2
      refine WC.seq ?_
      refine WC.region ?_
      refine SL.pure rfl rfl rfl (PureOp.eql rfl rfl) ?_
      refine SL.pure rfl rfl rfl (PureOp.assign rfl) ?_
      refine SL.nil_then ?_
      refine WC.cond rfl (fun h3 => ?_) (fun h3 => ?_)
      · try simp only [Bool.and_eq_true, Bool.or_eq_true, Bool.not_eq_true', Bool.not_eq_false', Bool.and_eq_false_iff, Bool.or_eq_false_iff, decide_eq_true_eq, decide_eq_false_iff_not, Int.not_lt, Int.not_le, ne_eq, Decidable.not_not] at h3
        refine WC.seq ?_
        refine WC.quiet rfl (by kernel_rfl) ?_
        refine SQ.pure rfl rfl rfl (PureOp.move rfl) ?_
        refine SQ.pure rfl rfl rfl (PureOp.fieldAddrT 2 Try.underlying36 rfl sz3 rfl rfl) ?_
        refine SQ.pure rfl rfl rfl (PureOp.load (v := .int .i64 s.2.2) Try.underlying3 rfl rfl (fun _ => (CellIs.cells 0 rfl rfl))) ?_
        refine SQ.calle rfl rfl rfl rfl rfl rfl callable22 (fun w hw => dboard_nil s.2.2 w) ?_
        refine SQ.pure rfl rfl rfl (PureOp.move rfl) ?_
        refine SQ.pure rfl rfl rfl (PureOp.fieldAddrT 2 Try.underlying36 rfl sz3 rfl rfl) ?_
        refine SQ.pure rfl rfl rfl (PureOp.load (v := .int .i64 s.2.2) Try.underlying3 rfl rfl (fun _ => (CellIs.cells 0 rfl rfl))) ?_
        refine SQ.calle rfl rfl rfl rfl rfl rfl callable31 (fun w hw => erboard_nil s.2.2 w) ?_
        refine SQ.pure rfl rfl rfl (PureOp.eql rfl rfl) ?_
        refine SQ.pure rfl rfl rfl (PureOp.assign rfl) ?_
        refine SQ.nil_then ?_
        refine WC.ret ?_
        refine QX.ret_in ?_
        refine QX.ret_then ?_
        refine QX.ret1 rfl rfl ?_
        intro w hw
        first | rfl | (rw [eqB_refl (ks := [0, 0, 0]) rfl]; rfl)
      · try simp only [Bool.and_eq_true, Bool.or_eq_true, Bool.not_eq_true', Bool.not_eq_false', Bool.and_eq_false_iff, Bool.or_eq_false_iff, decide_eq_true_eq, decide_eq_false_iff_not, Int.not_lt, Int.not_le, ne_eq, Decidable.not_not] at h3
        refine WC.seq ?_
        refine WC.region ?_
        refine SL.pure rfl rfl rfl (PureOp.eql rfl rfl) ?_
        refine SL.pure rfl rfl rfl (PureOp.assign rfl) ?_
        refine SL.nil_then ?_
        refine WC.cond rfl (fun h4 => ?_) (fun h4 => ?_)
        · try simp only [Bool.and_eq_true, Bool.or_eq_true, Bool.not_eq_true', Bool.not_eq_false', Bool.and_eq_false_iff, Bool.or_eq_false_iff, decide_eq_true_eq, decide_eq_false_iff_not, Int.not_lt, Int.not_le, ne_eq, Decidable.not_not] at h4
          refine WC.seq ?_
          refine WC.quiet rfl (by kernel_rfl) ?_
          refine SQ.pure rfl rfl rfl (PureOp.move rfl) ?_
          refine SQ.pure rfl rfl rfl (PureOp.fieldAddrT 2 Try.underlying36 rfl sz3 rfl rfl) ?_
          refine SQ.pure rfl rfl rfl (PureOp.load (v := .int .i64 s.2.2) Try.underlying3 rfl rfl (fun _ => (CellIs.cells 0 rfl rfl))) ?_
          refine SQ.calle rfl rfl rfl rfl rfl rfl callable23 (fun w hw => doff_nil s.2.2 w) ?_
          refine SQ.pure rfl rfl rfl (PureOp.move rfl) ?_
          refine SQ.pure rfl rfl rfl (PureOp.fieldAddrT 2 Try.underlying36 rfl sz3 rfl rfl) ?_
          refine SQ.pure rfl rfl rfl (PureOp.load (v := .int .i64 s.2.2) Try.underlying3 rfl rfl (fun _ => (CellIs.cells 0 rfl rfl))) ?_
          refine SQ.calle rfl rfl rfl rfl rfl rfl callable32 (fun w hw => eroff_nil s.2.2 w) ?_
          refine SQ.pure rfl rfl rfl (PureOp.eql rfl rfl) ?_
          refine SQ.pure rfl rfl rfl (PureOp.assign rfl) ?_
          refine SQ.nil_then ?_
          refine WC.ret ?_
          refine QX.ret_in ?_
          refine QX.ret_then ?_
          refine QX.ret1 rfl rfl ?_
          intro w hw
          first | rfl | (rw [eqB_refl (ks := [0, 0, 0]) rfl]; rfl)
        · try simp only [Bool.and_eq_true, Bool.or_eq_true, Bool.not_eq_true', Bool.not_eq_false', Bool.and_eq_false_iff, Bool.or_eq_false_iff, decide_eq_true_eq, decide_eq_false_iff_not, Int.not_lt, Int.not_le, ne_eq, Decidable.not_not] at h4
          refine WC.seq ?_
          refine WC.region ?_
          refine SL.pure rfl rfl rfl (PureOp.eql rfl rfl) ?_
          refine SL.pure rfl rfl rfl (PureOp.assign rfl) ?_
          refine SL.nil_then ?_
          refine WC.cond rfl (fun h5 => ?_) (fun h5 => ?_)
          · try simp only [Bool.and_eq_true, Bool.or_eq_true, Bool.not_eq_true', Bool.not_eq_false', Bool.and_eq_false_iff, Bool.or_eq_false_iff, decide_eq_true_eq, decide_eq_false_iff_not, Int.not_lt, Int.not_le, ne_eq, Decidable.not_not] at h5
            refine WC.seq ?_
            refine WC.region ?_
            refine SL.pure rfl rfl rfl (PureOp.move rfl) ?_
            refine SL.calle rfl rfl rfl rfl rfl rfl callable20 (fun w hw => dclose_nil w) ?_
            refine SL.norm [_] rfl ?_
            refine SL.pure rfl rfl rfl (PureOp.move rfl) ?_
            refine SL.pure rfl rfl rfl (PureOp.extract rfl rfl) ?_
            refine SL.pure rfl rfl rfl (PureOp.extract rfl rfl) ?_
            refine SL.pure rfl rfl rfl (PureOp.assign rfl) ?_
            refine SL.pure rfl rfl rfl (PureOp.assign rfl) ?_
            refine SL.nil_then ?_
            refine WC.seq ?_
            refine WC.region ?_
            refine SL.pure rfl rfl rfl (PureOp.move rfl) ?_
            refine SL.calle rfl rfl rfl rfl rfl rfl callable33 (fun w hw => erclose_nil w) ?_
            refine SL.norm [_] rfl ?_
            refine SL.pure rfl rfl rfl (PureOp.move rfl) ?_
            refine SL.pure rfl rfl rfl (PureOp.extract rfl rfl) ?_
            refine SL.pure rfl rfl rfl (PureOp.extract rfl rfl) ?_
            refine SL.pure rfl rfl rfl (PureOp.assign rfl) ?_
            refine SL.pure rfl rfl rfl (PureOp.assign rfl) ?_
            refine SL.nil_then ?_
            refine WC.seq ?_
            refine WC.region ?_
            refine SL.pure rfl rfl rfl (PureOp.move rfl) ?_
            refine SL.pure rfl rfl rfl (PureOp.move rfl) ?_
            refine SL.calle rfl rfl rfl rfl rfl rfl callable16 (fun w hw => samei_ok [] none none 0 0 0 0 rfl rfl w (nil_in w) (nil_in w) (by decide)) ?_
            refine SL.norm [_] rfl ?_
            refine SL.pure rfl rfl rfl (PureOp.move rfl) ?_
            refine SL.ung rfl rfl rfl rfl ?_
            refine SL.pure rfl rfl rfl (PureOp.move rfl) ?_
            refine SL.ung rfl rfl rfl rfl ?_
            refine SL.pure rfl rfl rfl (PureOp.move rfl) ?_
            refine SL.ung rfl rfl rfl rfl ?_
            refine SL.pure rfl rfl rfl (PureOp.eql rfl rfl) ?_
            refine SL.pure rfl rfl rfl (PureOp.pickT rfl rfl) ?_
            refine SL.pure rfl rfl rfl (PureOp.assign rfl) ?_
            refine SL.nil_then ?_
            refine WC.ret ?_
            refine QX.ret_in ?_
            refine QX.ret_then ?_
            refine QX.ret1 rfl rfl ?_
            intro w hw
            first | rfl | (rw [eqB_refl (ks := [0, 0, 0]) rfl]; rfl)
          · try simp only [Bool.and_eq_true, Bool.or_eq_true, Bool.not_eq_true', Bool.not_eq_false', Bool.and_eq_false_iff, Bool.or_eq_false_iff, decide_eq_true_eq, decide_eq_false_iff_not, Int.not_lt, Int.not_le, ne_eq, Decidable.not_not] at h5
            refine WC.skip ?_
            refine QX.normal_in ?_
            refine QX.then_ ?_
            refine WC.seq ?_
            refine WC.region ?_
            refine SL.pure rfl rfl rfl (PureOp.assign rfl) ?_
            refine SL.nil_then ?_
            refine WC.ret ?_
            refine QX.ret1 rfl rfl ?_
            intro w hw
            first | rfl | (rw [eqB_refl (ks := [0, 0, 0]) rfl]; rfl)

end Go.Proofs.Ythbgnjengkjigaa
