import Derived.Test.YtmnhdiblkjmmfaaLkA
namespace Go.Proofs.Ytmnhdiblkjmmfaa
open Go Go.RowKit Eng
set_option linter.unusedVariables false
set_option linter.unusedSimpArgs false

set_option maxHeartbeats 4000000 in
set_option maxRecDepth 100000 in
theorem sready_ok (b : Nat) (room : Int) (B : List ByteArray) (d : Nat) (ka : Option Addr) (kn kc : Nat) (hr : 1 ≤ room) (hd : d ≤ B.length) (hkn : kn = B.length - d) (hB : B.length ≤ 1000) (w0 : World) (ho : ObjIn w0 b [.int .i64 room, .int .i64 (B.length : Int), .int .i64 (d : Int), .slice ka kn kc]) : FnC Try.prog 29 [.pointer (some ⟨b, 0, none⟩)] w0 fun v w' => v = .bool true := by
  refine fnc (N := 12) Try.func29 rfl rfl rfl ?_
  refine WC.seq ?_
  refine WC.region ?_
  refine SL.pure rfl rfl rfl (PureOp.assign rfl) ?_
  refine SL.nil_then ?_
  refine WC.seq ?_
  refine WC.region ?_
  refine SL.pure rfl rfl rfl (PureOp.move rfl) ?_
  refine SL.pure rfl rfl rfl (PureOp.neqpnil1 rfl rfl Try.underlying24) ?_
  refine SL.pure rfl rfl rfl (PureOp.move rfl) ?_
  refine SL.ung rfl rfl rfl rfl ?_
  refine SL.pure rfl rfl rfl (PureOp.move rfl) ?_
  refine SL.ung rfl rfl rfl rfl ?_
  refine SL.pure rfl rfl rfl (PureOp.nilCheckp rfl) ?_
  refine SL.ung rfl rfl rfl rfl ?_
  refine SL.pure rfl rfl rfl (PureOp.fieldAddrT 0 Try.underlying57 rfl sz3 rfl rfl) ?_
  refine SL.ung rfl rfl rfl rfl ?_
  refine SL.pure rfl rfl rfl (PureOp.load (v := .int .i64 room) Try.underlying3 rfl rfl (fun _ => (ho.cell 0 rfl))) ?_
  refine SL.ung rfl rfl rfl rfl ?_
  refine SL.pure rfl rfl rfl (PureOp.gtr rfl rfl) ?_
  refine SL.pure rfl rfl rfl (PureOp.pickT rfl rfl) ?_
  refine SL.pure rfl rfl rfl (PureOp.assign rfl) ?_
  refine SL.nil_then ?_
  refine WC.ret ?_
  refine QX.ret1 rfl rfl ?_
  intro w hw
  refine congrArg Value.bool ?_
  simp; omega

set_option maxHeartbeats 4000000 in
set_option maxRecDepth 100000 in
theorem slast_ok (b : Nat) (room : Int) (B : List ByteArray) (d : Nat) (ka : Option Addr) (kn kc : Nat) (hr : 1 ≤ room) (hd : d ≤ B.length) (hkn : kn = B.length - d) (hB : B.length ≤ 1000) (w0 : World) (ho : ObjIn w0 b [.int .i64 room, .int .i64 (B.length : Int), .int .i64 (d : Int), .slice ka kn kc]) : FnC Try.prog 17 [.pointer (some ⟨b, 0, none⟩)] w0 fun v w' => v = .int .i64 (B.length : Int) := by
  refine fnc (N := 10) Try.func17 rfl rfl rfl ?_
  refine WC.seq ?_
  refine WC.region ?_
  refine SL.pure rfl rfl rfl (PureOp.assign rfl) ?_
  refine SL.nil_then ?_
  refine WC.seq ?_
  refine WC.seq ?_
  refine WC.region ?_
  refine SL.pure rfl rfl rfl (PureOp.move rfl) ?_
  refine SL.calle rfl rfl rfl rfl rfl rfl callable29 (fun w hw => sready_ok b room B d ka kn kc hr hd hkn hB w (ho.below hw.below)) ?_
  refine SL.norm [] rfl ?_
  refine SL.pure rfl rfl rfl (PureOp.not rfl) ?_
  refine SL.nil_then ?_
  refine WC.condF rfl ?_
  refine WC.skip ?_
  refine QX.then_ ?_
  refine WC.seq ?_
  refine WC.region ?_
  refine SL.pure rfl rfl rfl (PureOp.move rfl) ?_
  refine SL.pure rfl rfl rfl (PureOp.nilCheckp rfl) ?_
  refine SL.pure rfl rfl rfl (PureOp.fieldAddrT 1 Try.underlying57 rfl sz3 rfl rfl) ?_
  refine SL.pure rfl rfl rfl (PureOp.load (v := .int .i64 ((B.length : Nat) : Int)) Try.underlying3 rfl rfl (fun _ => (ho.cell 1 rfl))) ?_
  refine SL.pure rfl rfl rfl (PureOp.assign rfl) ?_
  refine SL.nil_then ?_
  refine WC.ret ?_
  refine QX.ret1 rfl rfl ?_
  intro w hw
  rfl

set_option maxHeartbeats 4000000 in
set_option maxRecDepth 100000 in
theorem sagain_ok (b : Nat) (room : Int) (B : List ByteArray) (d : Nat) (ka : Option Addr) (kn kc : Nat) (hr : 1 ≤ room) (hd : d ≤ B.length) (hkn : kn = B.length - d) (hB : B.length ≤ 1000) (w0 : World) (ho : ObjIn w0 b [.int .i64 room, .int .i64 (B.length : Int), .int .i64 (d : Int), .slice ka kn kc]) (hk : SliceIn w0 4 ka kn kc (rowsF enc32 (keptL B d))) : FnC Try.prog 15 [.pointer (some ⟨b, 0, none⟩)] w0 fun v w' => ∃ a c, v = .slice a kn c ∧ w'.ownsRow w0.heap.size 32 4 (.slice a kn c) kn (cellsOf enc32 (keptL B d)) := by
  refine fnc (N := 11) Try.func15 rfl rfl rfl ?_
  refine WC.seq ?_
  refine WC.region ?_
  refine SL.pure rfl rfl rfl (PureOp.assign rfl) ?_
  refine SL.nil_then ?_
  refine WC.seq ?_
  refine WC.seq ?_
  refine WC.region ?_
  refine SL.pure rfl rfl rfl (PureOp.move rfl) ?_
  refine SL.calle rfl rfl rfl rfl rfl rfl callable29 (fun w hw => sready_ok b room B d ka kn kc hr hd hkn hB w (ho.below hw.below)) ?_
  refine SL.norm [] rfl ?_
  refine SL.pure rfl rfl rfl (PureOp.not rfl) ?_
  refine SL.nil_then ?_
  refine WC.condF rfl ?_
  refine WC.skip ?_
  refine QX.then_ ?_
  refine WC.seq ?_
  refine WC.region ?_
  refine SL.pure rfl rfl rfl (PureOp.move rfl) ?_
  refine SL.pure rfl rfl rfl (PureOp.nilCheckp rfl) ?_
  refine SL.pure rfl rfl rfl (PureOp.fieldAddrT 3 Try.underlying57 rfl sz39 rfl rfl) ?_
  refine SL.pure rfl rfl rfl (PureOp.load (v := .slice ka kn kc) Try.underlying39 rfl rfl (fun _ => (ho.cell 3 rfl))) ?_
  refine SL.callo (fun ca cc => .slice ca kn cc) rfl rfl rfl rfl rfl rfl callable32 (fun w hw => clonem_ok (keptL B d) ka kn kc (by rw [keptL_len]; exact hkn) (by omega) w (hk.below hw.below)) (fun ca cc => ?_)
  refine SL.norm [_] rfl ?_
  refine SL.pure rfl rfl rfl (PureOp.assign rfl) ?_
  refine SL.nil_then ?_
  refine WC.ret ?_
  refine QX.ret1 rfl rfl ?_
  intro w hw
  exact ⟨_, _, rfl, hw.mem (i := 0) rfl⟩

set_option maxHeartbeats 4000000 in
set_option maxRecDepth 100000 in
theorem skept_ok (b : Nat) (room : Int) (B : List ByteArray) (d : Nat) (ka : Option Addr) (kn kc : Nat) (hr : 1 ≤ room) (hd : d ≤ B.length) (hkn : kn = B.length - d) (hB : B.length ≤ 1000) (w0 : World) (ho : ObjIn w0 b [.int .i64 room, .int .i64 (B.length : Int), .int .i64 (d : Int), .slice ka kn kc]) (hk : SliceIn w0 4 ka kn kc (rowsF enc32 (keptL B d))) : FnC Try.prog 19 [.pointer (some ⟨b, 0, none⟩)] w0 fun v w' => v = .int .i64 (kn : Int) := by
  refine fnc (N := 6) Try.func19 rfl rfl rfl ?_
  refine WC.seq ?_
  refine WC.region ?_
  refine SL.pure rfl rfl rfl (PureOp.assign rfl) ?_
  refine SL.nil_then ?_
  refine WC.seq ?_
  refine WC.region ?_
  refine SL.pure rfl rfl rfl (PureOp.move rfl) ?_
  refine SL.callo (fun aa ac => .slice aa kn ac) rfl rfl rfl rfl rfl rfl callable15 (fun w hw => sagain_ok b room B d ka kn kc hr hd hkn hB w (ho.below hw.below) (hk.below hw.below)) (fun aa ac => ?_)
  refine SL.norm [_] rfl ?_
  refine SL.pure rfl rfl rfl (PureOp.len rfl Try.underlying39) ?_
  refine SL.pure rfl rfl rfl (PureOp.assign rfl) ?_
  refine SL.nil_then ?_
  refine WC.ret ?_
  refine QX.ret1 rfl rfl ?_
  intro w hw
  rfl

set_option maxHeartbeats 4000000 in
set_option maxRecDepth 100000 in
theorem rlast_ok (b : Nat) (room : Int) (B : List ByteArray) (d : Nat) (ba : Option Addr) (bc : Nat) (hd : d ≤ B.length) (hB : B.length ≤ 1000) (w0 : World) (ho : ObjIn w0 b [.int .i64 room, .slice ba B.length bc, .int .i64 (d : Int)]) : FnC Try.prog 18 [.pointer (some ⟨b, 0, none⟩)] w0 fun v w' => v = .int .i64 (B.length : Int) := by
  refine fnc (N := 8) Try.func18 rfl rfl rfl ?_
  refine WC.seq ?_
  refine WC.region ?_
  refine SL.pure rfl rfl rfl (PureOp.assign rfl) ?_
  refine SL.nil_then ?_
  refine WC.seq ?_
  refine WC.region ?_
  refine SL.pure rfl rfl rfl (PureOp.move rfl) ?_
  refine SL.pure rfl rfl rfl (PureOp.nilCheckp rfl) ?_
  refine SL.pure rfl rfl rfl (PureOp.fieldAddrT 1 Try.underlying64 rfl sz49 rfl rfl) ?_
  refine SL.pure rfl rfl rfl (PureOp.load (v := .slice ba B.length bc) Try.underlying49 rfl rfl (fun _ => (ho.cell 1 rfl))) ?_
  refine SL.pure rfl rfl rfl (PureOp.len rfl Try.underlying49) ?_
  refine SL.pure rfl rfl rfl (PureOp.assign rfl) ?_
  refine SL.nil_then ?_
  refine WC.ret ?_
  refine QX.ret1 rfl rfl ?_
  intro w hw
  rfl

set_option maxHeartbeats 4000000 in
set_option maxRecDepth 100000 in
theorem rkept_ok (b : Nat) (room : Int) (B : List ByteArray) (d : Nat) (ba : Option Addr) (bc : Nat) (hd : d ≤ B.length) (hB : B.length ≤ 1000) (w0 : World) (ho : ObjIn w0 b [.int .i64 room, .slice ba B.length bc, .int .i64 (d : Int)]) : FnC Try.prog 20 [.pointer (some ⟨b, 0, none⟩)] w0 fun v w' => v = .int .i64 ((B.length - d : Nat) : Int) := by
  refine fnc (N := 13) Try.func20 rfl rfl rfl ?_
  refine WC.seq ?_
  refine WC.region ?_
  refine SL.pure rfl rfl rfl (PureOp.assign rfl) ?_
  refine SL.nil_then ?_
  refine WC.seq ?_
  refine WC.quiet rfl (by kernel_rfl) ?_
  refine SQ.pure rfl rfl rfl (PureOp.move rfl) ?_
  refine SQ.pure rfl rfl rfl (PureOp.nilCheckp rfl) ?_
  refine SQ.pure rfl rfl rfl (PureOp.fieldAddrT 1 Try.underlying64 rfl sz49 rfl rfl) ?_
  refine SQ.pure rfl rfl rfl (PureOp.load (v := .slice ba B.length bc) Try.underlying49 rfl rfl (fun _ => (ho.cell 1 rfl))) ?_
  refine SQ.pure rfl rfl rfl (PureOp.len rfl Try.underlying49) ?_
  refine SQ.pure rfl rfl rfl (PureOp.move rfl) ?_
  refine SQ.pure rfl rfl rfl (PureOp.nilCheckp rfl) ?_
  refine SQ.pure rfl rfl rfl (PureOp.fieldAddrT 2 Try.underlying64 rfl sz3 rfl rfl) ?_
  refine SQ.pure rfl rfl rfl (PureOp.load (v := .int .i64 ((d : Nat) : Int)) Try.underlying3 rfl rfl (fun _ => (ho.cell 2 rfl))) ?_
  refine SQ.pure rfl rfl rfl (PureOp.sub rfl rfl (fun _ => by omega)) ?_
  refine SQ.pure rfl rfl rfl (PureOp.assign rfl) ?_
  refine SQ.nil_then ?_
  refine WC.ret ?_
  refine QX.ret1 rfl rfl ?_
  intro w hw
  refine congrArg (Value.int .i64) ?_
  omega

set_option maxHeartbeats 4000000 in
set_option maxRecDepth 100000 in
theorem data_ok (seq : Int) (body : ByteArray) (w0 : World) : FnC Try.prog 30 [.int .i64 seq, .string body] w0 fun v w' => v = .agg (enc32 (dataM seq body)).toArray := by
  refine fnc (N := 8) Try.func30 rfl rfl rfl ?_
  refine WC.seq ?_
  refine WC.region ?_
  refine SL.alloc rfl rfl zero32 (fun b1 hb1 => ?_)
  refine SL.norm [_] rfl ?_
  refine SL.nil_then ?_
  refine WC.seq ?_
  refine WC.region ?_
  refine SL.pure rfl rfl rfl (PureOp.move rfl) ?_
  refine SL.pure rfl rfl rfl (PureOp.move rfl) ?_
  refine SL.pure rfl rfl rfl (PureOp.build bld32 rfl rfl) ?_
  refine SL.store 0 rfl rfl rfl rfl sz32 rfl rfl ?_
  refine SL.norm [_] rfl ?_
  refine SL.nil_then ?_
  refine WC.ret ?_
  refine QX.retv rfl (RVs.cons (RV.cell rfl Try.underlying32 rfl (RowIs.cells 0 0 4 rfl rfl) sz32) RVs.nil) ?_
  intro w hw
  rfl

set_option maxHeartbeats 4000000 in
set_option maxRecDepth 100000 in
theorem ragain_ok (b : Nat) (room : Int) (B : List ByteArray) (d : Nat) (ba : Option Addr) (bc : Nat) (hd : d ≤ B.length) (hB : B.length ≤ 1000) (w0 : World) (ho : ObjIn w0 b [.int .i64 room, .slice ba B.length bc, .int .i64 (d : Int)]) (hb : SliceIn w0 1 ba B.length bc (rowsF encStr B)) : FnC Try.prog 16 [.pointer (some ⟨b, 0, none⟩)] w0 fun v w' => ∃ a c, v = .slice a (B.length - d) c ∧ w'.ownsRow w0.heap.size 32 4 (.slice a (B.length - d) c) (B.length - d) (cellsOf enc32 (keptL B d)) := by
  refine fnc (N := 32) Try.func16 rfl rfl rfl ?_
  refine WC.seq ?_
  refine WC.region ?_
  refine SL.pure rfl rfl rfl (PureOp.assign rfl) ?_
  refine SL.nil_then ?_
  refine WC.seq ?_
  refine WC.region ?_
  refine SL.addnil 32 4 ?_
  refine SL.pure rfl rfl rfl (PureOp.assign rfl) ?_
  refine SL.nil_then ?_
  refine WC.seq ?_
  refine WC.seq ?_
  refine WC.region ?_
  refine SL.pure rfl rfl rfl (PureOp.move rfl) ?_
  refine SL.pure rfl rfl rfl (PureOp.nilCheckp rfl) ?_
  refine SL.pure rfl rfl rfl (PureOp.fieldAddrT 2 Try.underlying64 rfl sz3 rfl rfl) ?_
  refine SL.pure rfl rfl rfl (PureOp.load (v := .int .i64 ((d : Nat) : Int)) Try.underlying3 rfl rfl (fun _ => (ho.cell 2 rfl))) ?_
  refine SL.pure rfl rfl rfl (PureOp.assign rfl) ?_
  refine SL.nil_then ?_
  refine WC.block ?_
  refine WC.loop (σ := Nat × Option Addr × Nat) (fun q_ => [(0, 0, .pointer (some ⟨b, 0, none⟩)), (2, 0, .slice none 0 0), (5, 0, .pointer (some ⟨b, 0, none⟩)), (6, 0, .pointer (some ⟨b, 0, none⟩)), (7, 0, .pointer (some ⟨b, 2, none⟩)), (8, 0, .int .i64 ((d : Nat) : Int)), (4, 0, .int .i64 ((d + q_.1 : Nat) : Int)), (3, 0, .slice q_.2.1 q_.1 q_.2.2)]) (fun q_ => [Item.own w0.heap.size q_.2.1 q_.1 q_.2.2 32 4 (cellsOf enc32 (tab q_.1 fun i => dataM (((d + i : Nat) : Int) + 1) (nth B (d + i))))]) (fun q_ => d + q_.1 ≤ B.length) (fun q_ => B.length - q_.1) 1 ((0, none, 0)) (by show d + 0 ≤ _; omega) ⟨rfl, rfl, rfl, rfl, rfl, rfl, rfl, rfl, rfl, rfl, rfl, rfl, rfl, rfl, rfl, rfl, trivial⟩ rfl ?_
  rintro ⟨k, a, c⟩ hk
  try dsimp only at *
  refine WC.seq ?_
  refine WC.seq ?_
  refine WC.region ?_
  refine SL.pure rfl rfl rfl (PureOp.move rfl) ?_
  refine SL.pure rfl rfl rfl (PureOp.move rfl) ?_
  refine SL.pure rfl rfl rfl (PureOp.nilCheckp rfl) ?_
  refine SL.pure rfl rfl rfl (PureOp.fieldAddrT 1 Try.underlying64 rfl sz49 rfl rfl) ?_
  refine SL.pure rfl rfl rfl (PureOp.load (v := .slice ba B.length bc) Try.underlying49 rfl rfl (fun _ => (ho.cell 1 rfl))) ?_
  refine SL.pure rfl rfl rfl (PureOp.len rfl Try.underlying49) ?_
  refine SL.pure rfl rfl rfl (PureOp.lss rfl rfl) ?_
  refine SL.nil_then ?_
  refine WC.cond rfl (fun h1 => ?_) (fun h1 => ?_)
  · try simp only [Bool.and_eq_true, Bool.or_eq_true, Bool.not_eq_true', Bool.not_eq_false', Bool.and_eq_false_iff, Bool.or_eq_false_iff, decide_eq_true_eq, decide_eq_false_iff_not, Int.not_lt, Int.not_le, ne_eq, Decidable.not_not] at h1
    refine WC.skip ?_
    refine QX.then_ ?_
    refine WC.seq ?_
    refine WC.block ?_
    refine WC.region ?_
    refine SL.pure rfl rfl rfl (PureOp.move rfl) ?_
    refine SL.pure rfl rfl rfl (PureOp.move rfl) ?_
    refine SL.pure rfl rfl rfl (PureOp.addN (k := 1) rfl rfl (fun _ => by omega)) ?_
    refine SL.pure rfl rfl rfl (PureOp.move rfl) ?_
    refine SL.pure rfl rfl rfl (PureOp.nilCheckp rfl) ?_
    refine SL.pure rfl rfl rfl (PureOp.fieldAddrT 1 Try.underlying64 rfl sz49 rfl rfl) ?_
    refine SL.pure rfl rfl rfl (PureOp.load (v := .slice ba B.length bc) Try.underlying49 rfl rfl (fun _ => (ho.cell 1 rfl))) ?_
    refine SL.pure rfl rfl rfl (PureOp.move rfl) ?_
    refine SL.pure rfl rfl rfl (PureOp.indexAddrN Try.underlying49 sz9 rfl rfl (AoOk.in_ hb) (fun _ => by omega)) ?_
    refine SL.pure rfl rfl rfl (PureOp.load (v := .string (nth B (d + k))) Try.underlying9 rfl rfl (fun _ => (CellIs.in_ hb (d + k) 0 (by omega) (by omega)))) ?_
    refine SL.calle rfl rfl rfl rfl rfl rfl callable30 (fun w hw => data_ok _ _ w) ?_
    refine SL.norm [_] rfl ?_
    refine SL.buildSlice rfl rfl Try.underlying39 elem32 rfl rfl rfl rfl (fun b1 hb1 => ?_)
    refine SL.norm [_, _] rfl ?_
    refine SL.append 0 rfl rfl Try.underlying39 elem32 rfl rfl rfl rfl (SrcIs.own 1 rfl) (by rfl) (by omega) (by omega) (fun ao1_ cap1_ => ?_)
    refine SL.itemxs 0 rfl (show _ = cellsOf enc32 (tab (k + 1) fun i => dataM (((d + i : Nat) : Int) + 1) (nth B (d + i))) from by rw [tab_succ, cellsOf_append, cellsOf_one]; rfl) ?_
    refine SL.norm [_, _] rfl ?_
    refine SL.pure rfl rfl rfl (PureOp.assign rfl) ?_
    refine SL.nil ?_
    refine QX.normal_in ?_
    refine QX.then_ ?_
    refine WC.region ?_
    refine SL.pure rfl rfl rfl (PureOp.move rfl) ?_
    refine SL.pure rfl rfl rfl (PureOp.addN (k := 1) rfl rfl (fun _ => by omega)) ?_
    refine SL.pure rfl rfl rfl (PureOp.assign rfl) ?_
    refine SL.nil ?_
    refine QX.round (σ := Nat × Option Addr × Nat) (Ef := fun q_ => [(0, 0, .pointer (some ⟨b, 0, none⟩)), (2, 0, .slice none 0 0), (5, 0, .pointer (some ⟨b, 0, none⟩)), (6, 0, .pointer (some ⟨b, 0, none⟩)), (7, 0, .pointer (some ⟨b, 2, none⟩)), (8, 0, .int .i64 ((d : Nat) : Int)), (4, 0, .int .i64 ((d + q_.1 : Nat) : Int)), (3, 0, .slice q_.2.1 q_.1 q_.2.2)]) (Hf := fun q_ => [Item.own w0.heap.size q_.2.1 q_.1 q_.2.2 32 4 (cellsOf enc32 (tab q_.1 fun i => dataM (((d + i : Nat) : Int) + 1) (nth B (d + i))))]) (I := fun q_ => d + q_.1 ≤ B.length) (μ := fun q_ => B.length - q_.1) (s := (k, a, c)) 1 ((k + 1, ao1_, cap1_)) ⟨(by first | omega | (dsimp only; omega)), by first | omega | (dsimp only; omega)⟩ ⟨rfl, rfl, rfl, rfl, rfl, rfl, rfl, rfl, rfl, rfl, rfl, rfl, rfl, rfl, rfl, rfl, trivial⟩ rfl
  · try simp only [Bool.and_eq_true, Bool.or_eq_true, Bool.not_eq_true', Bool.not_eq_false', Bool.and_eq_false_iff, Bool.or_eq_false_iff, decide_eq_true_eq, decide_eq_false_iff_not, Int.not_lt, Int.not_le, ne_eq, Decidable.not_not] at h1
    refine WC.exit ?_
    refine QX.exit_then ?_
    refine QX.exit_then ?_
    refine QX.exit_hit ?_
    refine QX.then_ ?_
    refine WC.seq ?_
    refine WC.region ?_
    refine SL.pure rfl rfl rfl (PureOp.move rfl) ?_
    refine SL.pure rfl rfl rfl (PureOp.assign rfl) ?_
    refine SL.nil_then ?_
    refine WC.ret ?_
    refine QX.ret1 rfl rfl ?_
    intro w hw
    obtain rfl : k = B.length - d := by omega
    exact ⟨_, _, rfl, hw.mem (i := 0) rfl⟩

end Go.Proofs.Ytmnhdiblkjmmfaa
