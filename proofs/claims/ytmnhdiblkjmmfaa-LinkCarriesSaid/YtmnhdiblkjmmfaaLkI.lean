import Derived.Test.YtmnhdiblkjmmfaaLkG
namespace Go.Proofs.Ytmnhdiblkjmmfaa
open Go Go.RowKit Eng
set_option linter.unusedVariables false
set_option linter.unusedSimpArgs false

set_option maxHeartbeats 4000000 in
set_option maxRecDepth 100000 in
theorem receives_law (l : List Msg) (al : Option Addr) (n cl : Nat) (hn : n = l.length) (f : Int) (hf : -9223372036854775808 ≤ f ∧ f ≤ 9223372036854775807) (w0 : World) (hl : SliceIn w0 4 al n cl (rowsF enc32 l)) : FnC Try.prog 4 [.slice al n cl, .int .i64 f] w0 fun v w' => v = .bool true := by
  refine fnc (N := 77) Try.func4 rfl rfl rfl ?_
  refine WC.seq ?_
  refine WC.region ?_
  refine SL.pure rfl rfl rfl (PureOp.assign rfl) ?_
  refine SL.nil_then ?_
  refine WC.seq ?_
  refine WC.seq ?_
  refine WC.region ?_
  refine SL.pure rfl rfl rfl (PureOp.move rfl) ?_
  refine SL.pure rfl rfl rfl (PureOp.len rfl Try.underlying39) ?_
  refine SL.pure rfl rfl rfl (PureOp.gtr rfl rfl) ?_
  refine SL.nil_then ?_
  refine WC.cond rfl (fun h1 => ?_) (fun h1 => ?_)
  · try simp only [Bool.and_eq_true, Bool.or_eq_true, Bool.not_eq_true', Bool.not_eq_false', Bool.and_eq_false_iff, Bool.or_eq_false_iff, decide_eq_true_eq, decide_eq_false_iff_not, Int.not_lt, Int.not_le, ne_eq, Decidable.not_not] at h1
    refine WC.seq ?_
    refine WC.region ?_
    refine SL.calle rfl rfl rfl rfl rfl rfl callable7 (fun w hw => awake_ok w) ?_
    refine SL.norm [] rfl ?_
    refine SL.pure rfl rfl rfl (PureOp.assign rfl) ?_
    refine SL.nil_then ?_
    refine WC.ret ?_
    refine QX.ret_then ?_
    refine QX.ret1 rfl rfl ?_
    intro w hw
    rfl
  · try simp only [Bool.and_eq_true, Bool.or_eq_true, Bool.not_eq_true', Bool.not_eq_false', Bool.and_eq_false_iff, Bool.or_eq_false_iff, decide_eq_true_eq, decide_eq_false_iff_not, Int.not_lt, Int.not_le, ne_eq, Decidable.not_not] at h1
    refine WC.skip ?_
    refine QX.then_ ?_
    refine WC.seq ?_
    refine WC.region ?_
    refine SL.callM [] rfl rfl rfl rfl rfl rfl callable21 (by decide) (newrecv_ok w0) rfl (fun _ _ => rfl) ?_
    rintro br hbr
    refine SL.addnil 9 1 ?_
    refine SL.norm [_, _] rfl ?_
    refine SL.callM [] rfl rfl rfl rfl rfl rfl callable22 (by decide) (rnewrecv_ok w0) rfl (fun _ _ => rfl) ?_
    rintro bt hbt
    refine SL.addnil 9 1 ?_
    refine SL.norm [_, _, _, _] rfl ?_
    refine SL.pure rfl rfl rfl (PureOp.assign rfl) ?_
    refine SL.pure rfl rfl rfl (PureOp.assign rfl) ?_
    refine SL.nil_then ?_
    refine WC.seq ?_
    refine WC.seq ?_
    refine WC.region ?_
    refine SL.pure rfl rfl rfl (PureOp.assign rfl) ?_
    refine SL.nil_then ?_
    refine WC.block ?_
    refine WC.loop (σ := Nat × List ByteArray × Option Addr × Nat × Option Addr × Nat) (fun q_ => [(0, 0, .slice al n cl), (1, 0, .int .i64 f), (5, 0, .pointer (some ⟨br, 0, none⟩)), (6, 0, .pointer (some ⟨bt, 0, none⟩)), (12, 0, .slice al n cl), (13, 0, .int .i64 ((n : Nat) : Int)), (14, 0, .bool (decide (40 < ((n : Nat) : Int)))), (16, 0, .pointer (some ⟨br, 0, none⟩)), (17, 0, .pointer (some ⟨bt, 0, none⟩)), (7, 0, .int .i64 ((q_.1 : Nat) : Int))]) (fun q_ => [Item.cells br [.slice q_.2.2.1 ((q_.2.1).length) q_.2.2.2.1, .bool true] 60, Item.own w0.heap.size q_.2.2.1 ((q_.2.1).length) q_.2.2.2.1 9 1 (cellsOf encStr (q_.2.1)), Item.cells bt [.slice q_.2.2.2.2.1 ((q_.2.1).length) q_.2.2.2.2.2] 69, Item.own w0.heap.size q_.2.2.2.2.1 ((q_.2.1).length) q_.2.2.2.2.2 9 1 (cellsOf encStr (q_.2.1))]) (fun q_ => q_.1 ≤ n ∧ q_.2.1.length ≤ q_.1) (fun q_ => n - q_.1) 4 ((0, [], none, 0, none, 0)) (⟨Nat.zero_le _, Nat.le_refl _⟩) ⟨rfl, rfl, rfl, rfl, rfl, rfl, rfl, rfl, rfl, rfl, rfl, rfl, rfl, rfl, rfl, rfl, rfl, rfl, rfl, rfl, trivial⟩ rfl ?_
    rintro ⟨i, B, ra, rc, ba, bc⟩ ⟨hi, hB⟩
    try dsimp only at *
    refine WC.seq ?_
    refine WC.seq ?_
    refine WC.region ?_
    refine SL.pure rfl rfl rfl (PureOp.move rfl) ?_
    refine SL.pure rfl rfl rfl (PureOp.move rfl) ?_
    refine SL.pure rfl rfl rfl (PureOp.len rfl Try.underlying39) ?_
    refine SL.pure rfl rfl rfl (PureOp.lss rfl rfl) ?_
    refine SL.nil_then ?_
    refine WC.cond rfl (fun h2 => ?_) (fun h2 => ?_)
    · try simp only [Bool.and_eq_true, Bool.or_eq_true, Bool.not_eq_true', Bool.not_eq_false', Bool.and_eq_false_iff, Bool.or_eq_false_iff, decide_eq_true_eq, decide_eq_false_iff_not, Int.not_lt, Int.not_le, ne_eq, Decidable.not_not] at h2
      refine WC.skip ?_
      refine QX.then_ ?_
      refine WC.seq ?_
      refine WC.block ?_
      refine WC.seq ?_
      refine WC.seq ?_
      refine WC.region ?_
      refine SL.pure rfl rfl rfl (PureOp.move rfl) ?_
      refine SL.pure rfl rfl rfl (PureOp.move rfl) ?_
      refine SL.pure rfl rfl rfl (PureOp.indexAddrN Try.underlying39 sz32 rfl rfl (AoOk.in_ hl) (fun _ => by omega)) ?_
      refine SL.pure rfl rfl rfl (PureOp.fieldAddr 3 Try.underlying32 rfl rfl sz9 rfl) ?_
      refine SL.pure rfl rfl rfl (PureOp.load (v := .string ((nth l i).2.2.2)) Try.underlying9 rfl rfl (fun _ => (CellIs.in_ hl i 3 (by omega) (by omega)))) ?_
      refine SL.pure rfl rfl rfl (PureOp.lens rfl Try.underlying9) ?_
      refine SL.pure rfl rfl rfl (PureOp.gtr rfl rfl) ?_
      refine SL.nil_then ?_
      refine WC.cond rfl (fun h3 => ?_) (fun h3 => ?_)
      · try simp only [Bool.and_eq_true, Bool.or_eq_true, Bool.not_eq_true', Bool.not_eq_false', Bool.and_eq_false_iff, Bool.or_eq_false_iff, decide_eq_true_eq, decide_eq_false_iff_not, Int.not_lt, Int.not_le, ne_eq, Decidable.not_not] at h3
        refine WC.seq ?_
        refine WC.region ?_
        refine SL.calle rfl rfl rfl rfl rfl rfl callable7 (fun w hw => awake_ok w) ?_
        refine SL.norm [_, _, _, _] rfl ?_
        refine SL.pure rfl rfl rfl (PureOp.assign rfl) ?_
        refine SL.nil_then ?_
        refine WC.ret ?_
        refine QX.ret_then ?_
        refine QX.ret_in ?_
        refine QX.ret_then ?_
        refine QX.ret_then ?_
        refine QX.ret_in ?_
        refine QX.ret_then ?_
        refine QX.ret1 rfl rfl ?_
        intro w hw
        rfl
      · try simp only [Bool.and_eq_true, Bool.or_eq_true, Bool.not_eq_true', Bool.not_eq_false', Bool.and_eq_false_iff, Bool.or_eq_false_iff, decide_eq_true_eq, decide_eq_false_iff_not, Int.not_lt, Int.not_le, ne_eq, Decidable.not_not] at h3
        refine WC.skip ?_
        refine QX.then_ ?_
        refine WC.seq ?_
        refine WC.region ?_
        refine SL.pure rfl rfl rfl (PureOp.move rfl) ?_
        refine SL.pure rfl rfl rfl (PureOp.move rfl) ?_
        refine SL.pure rfl rfl rfl (PureOp.move rfl) ?_
        refine SL.pure rfl rfl rfl (PureOp.indexAddrN Try.underlying39 sz32 rfl rfl (AoOk.in_ hl) (fun _ => by omega)) ?_
        refine SL.pure rfl rfl rfl (PureOp.loads (vs := [.int .i64 ((nth l i).1), .int .i64 ((nth l i).2.1), .int .i64 ((nth l i).2.2.1), .string ((nth l i).2.2.2)]) Try.underlying32 rfl rfl (fun _ => (RowIs.in_ hl i 0 4 (by omega) (by omega))) sz32) ?_
        refine SL.callM [0, 1] rfl rfl rfl rfl rfl rfl callable23 (by decide) (recv_ok br B ra rc (by omega) w0 (nth l i)) rfl (fun _ _ => rfl) ?_
        rintro ⟨ra2, rc2⟩ _
        refine SL.norm [_, _, _, _] rfl ?_
        refine SL.pure rfl rfl rfl (PureOp.move rfl) ?_
        refine SL.pure rfl rfl rfl (PureOp.extract rfl rfl) ?_
        refine SL.pure rfl rfl rfl (PureOp.extract rfl rfl) ?_
        refine SL.alloc rfl rfl zero32 (fun b1 hb1 => ?_)
        refine SL.norm [_, _, _, _, _] rfl ?_
        refine SL.store 4 rfl rfl rfl rfl sz32 rfl rfl ?_
        refine SL.norm [_, _, _, _, _] rfl ?_
        refine SL.pure rfl rfl rfl (PureOp.assign rfl) ?_
        refine SL.nil_then ?_
        refine WC.seq ?_
        refine WC.region ?_
        refine SL.pure rfl rfl rfl (PureOp.move rfl) ?_
        refine SL.pure rfl rfl rfl (PureOp.move rfl) ?_
        refine SL.pure rfl rfl rfl (PureOp.move rfl) ?_
        refine SL.pure rfl rfl rfl (PureOp.indexAddrN Try.underlying39 sz32 rfl rfl (AoOk.in_ hl) (fun _ => by omega)) ?_
        refine SL.pure rfl rfl rfl (PureOp.loads (vs := [.int .i64 ((nth l i).1), .int .i64 ((nth l i).2.1), .int .i64 ((nth l i).2.2.1), .string ((nth l i).2.2.2)]) Try.underlying32 rfl rfl (fun _ => (RowIs.in_ hl i 0 4 (by omega) (by omega))) sz32) ?_
        refine SL.callM [2, 3] rfl rfl rfl rfl rfl rfl callable24 (by decide) (rrecv_ok bt B ba bc (by omega) w0 (nth l i)) rfl (fun _ _ => rfl) ?_
        rintro ⟨ba2, bc2⟩ _
        refine SL.norm [_, _, _, _, _] rfl ?_
        refine SL.pure rfl rfl rfl (PureOp.move rfl) ?_
        refine SL.pure rfl rfl rfl (PureOp.extract rfl rfl) ?_
        refine SL.pure rfl rfl rfl (PureOp.extract rfl rfl) ?_
        refine SL.alloc rfl rfl zero32 (fun b2 hb2 => ?_)
        refine SL.norm [_, _, _, _, _, _] rfl ?_
        refine SL.store 5 rfl rfl rfl rfl sz32 rfl rfl ?_
        refine SL.norm [_, _, _, _, _, _] rfl ?_
        refine SL.pure rfl rfl rfl (PureOp.assign rfl) ?_
        refine SL.nil_then ?_
        refine WC.seq ?_
        refine WC.region ?_
        refine SL.pure rfl rfl rfl (PureOp.loads (vs := [.int .i64 ((recvM B (nth l i)).1), .int .i64 ((recvM B (nth l i)).2.1), .int .i64 ((recvM B (nth l i)).2.2.1), .string ((recvM B (nth l i)).2.2.2)]) Try.underlying32 rfl rfl (fun _ => (RowIs.cells 4 0 4 rfl rfl)) sz32) ?_
        refine SL.pure rfl rfl rfl (PureOp.loads (vs := [.int .i64 ((recvM B (nth l i)).1), .int .i64 ((recvM B (nth l i)).2.1), .int .i64 ((recvM B (nth l i)).2.2.1), .string ((recvM B (nth l i)).2.2.2)]) Try.underlying32 rfl rfl (fun _ => (RowIs.cells 5 0 4 rfl rfl)) sz32) ?_
        refine SL.pure rfl rfl rfl (PureOp.neqa rfl rfl flat32 rfl) ?_
        refine SL.lit 52 false rfl (by rw [eqB_refl (ks := [0, 0, 0, 1]) rfl]; rfl) ?_
        refine SL.pure rfl rfl rfl (PureOp.move rfl) ?_
        refine SL.ung rfl rfl rfl rfl ?_
        refine SL.pure rfl rfl rfl (PureOp.move rfl) ?_
        refine SL.ung rfl rfl rfl rfl ?_
        refine SL.pure rfl rfl rfl (PureOp.move rfl) ?_
        refine SL.ung rfl rfl rfl rfl ?_
        refine SL.pure rfl rfl rfl (PureOp.neq rfl rfl) ?_
        refine SL.lit 56 false rfl (by simp) ?_
        refine SL.pure rfl rfl rfl (PureOp.pickF rfl rfl) ?_
        refine SL.pure rfl rfl rfl (PureOp.move rfl) ?_
        refine SL.ung rfl rfl rfl rfl ?_
        refine SL.pure rfl rfl rfl (PureOp.move rfl) ?_
        refine SL.ung rfl rfl rfl rfl ?_
        refine SL.pure rfl rfl rfl (PureOp.move rfl) ?_
        refine SL.ung rfl rfl rfl rfl ?_
        refine SL.callo (fun ga1 gc1 => .slice ga1 ((recvB B (nth l i)).length - gotK (recvB B (nth l i)) f) gc1) rfl rfl rfl rfl rfl rfl callable26 (fun w hw => got_ok br (recvB B (nth l i)) _ _ (by have q1 := recvB_le (B := B) (m := (nth l i)); omega) w (ObjIn.of hw 0 rfl) (SliceIn.rows (hw.mem (i := 1) rfl) encStr_len (Nat.le_refl _)) f hf) (fun ga1 gc1 => ?_)
        refine SL.norm [_, _, _, _, _, _, _] rfl ?_
        refine SL.ung rfl rfl rfl rfl ?_
        refine SL.pure rfl rfl rfl (PureOp.move rfl) ?_
        refine SL.ung rfl rfl rfl rfl ?_
        refine SL.pure rfl rfl rfl (PureOp.move rfl) ?_
        refine SL.ung rfl rfl rfl rfl ?_
        refine SL.calle rfl rfl rfl rfl rfl rfl callable27 (fun w hw => rgot_ok bt (recvB B (nth l i)) _ _ (by have q1 := recvB_le (B := B) (m := (nth l i)); omega) w (ObjIn.of hw 2 rfl) f hf) ?_
        refine SL.norm [_, _, _, _, _, _, _] rfl ?_
        refine SL.ung rfl rfl rfl rfl ?_
        refine SL.calle rfl rfl rfl rfl rfl rfl callable25 (fun w hw => sames_ok (gotL (recvB B (nth l i)) f) _ _ _ _ _ _ (by rw [gotL_len]) (by rw [gotL_len, gN_eq]) w (SliceIn.rows (hw.mem (i := 6) rfl) encStr_len (by rw [gotL_len]; exact Nat.le_refl _)) (got_in (SliceIn.rows (hw.mem (i := 3) rfl) encStr_len (Nat.le_refl _)) f) (by have q1 := recvB_le (B := B) (m := (nth l i)); omega)) ?_
        refine SL.norm [_, _, _, _, _, _, _] rfl ?_
        refine SL.ung rfl rfl rfl rfl ?_
        refine SL.pure rfl rfl rfl (PureOp.not rfl) ?_
        refine SL.pure rfl rfl rfl (PureOp.pickF rfl rfl) ?_
        refine SL.pure rfl rfl rfl (PureOp.move rfl) ?_
        refine SL.ung rfl rfl rfl rfl ?_
        refine SL.pure rfl rfl rfl (PureOp.move rfl) ?_
        refine SL.ung rfl rfl rfl rfl ?_
        refine SL.callo (fun ga2 gc2 => .slice ga2 ((recvB B (nth l i)).length - gotK (recvB B (nth l i)) 1) gc2) rfl rfl rfl rfl rfl rfl callable26 (fun w hw => got_ok br (recvB B (nth l i)) _ _ (by have q1 := recvB_le (B := B) (m := (nth l i)); omega) w (ObjIn.of hw 0 rfl) (SliceIn.rows (hw.mem (i := 1) rfl) encStr_len (Nat.le_refl _)) 1 (by decide)) (fun ga2 gc2 => ?_)
        refine SL.norm [_, _, _, _, _, _, _, _] rfl ?_
        refine SL.ung rfl rfl rfl rfl ?_
        refine SL.pure rfl rfl rfl (PureOp.move rfl) ?_
        refine SL.ung rfl rfl rfl rfl ?_
        refine SL.calle rfl rfl rfl rfl rfl rfl callable27 (fun w hw => rgot_ok bt (recvB B (nth l i)) _ _ (by have q1 := recvB_le (B := B) (m := (nth l i)); omega) w (ObjIn.of hw 2 rfl) 1 (by decide)) ?_
        refine SL.norm [_, _, _, _, _, _, _, _] rfl ?_
        refine SL.ung rfl rfl rfl rfl ?_
        refine SL.calle rfl rfl rfl rfl rfl rfl callable25 (fun w hw => sames_ok (gotL (recvB B (nth l i)) 1) _ _ _ _ _ _ (by rw [gotL_len]) (by rw [gotL_len, gN_eq]) w (SliceIn.rows (hw.mem (i := 7) rfl) encStr_len (by rw [gotL_len]; exact Nat.le_refl _)) (got_in (SliceIn.rows (hw.mem (i := 3) rfl) encStr_len (Nat.le_refl _)) 1) (by have q1 := recvB_le (B := B) (m := (nth l i)); omega)) ?_
        refine SL.norm [_, _, _, _, _, _, _, _] rfl ?_
        refine SL.ung rfl rfl rfl rfl ?_
        refine SL.pure rfl rfl rfl (PureOp.not rfl) ?_
        refine SL.pure rfl rfl rfl (PureOp.pickF rfl rfl) ?_
        refine SL.nil_then ?_
        refine WC.condF rfl ?_
        refine WC.skip ?_
        refine QX.normal_in ?_
        refine QX.then_ ?_
        refine WC.region ?_
        refine SL.pure rfl rfl rfl (PureOp.move rfl) ?_
        refine SL.pure rfl rfl rfl (PureOp.addN (k := 1) rfl rfl (fun _ => by omega)) ?_
        refine SL.pure rfl rfl rfl (PureOp.assign rfl) ?_
        refine SL.nil ?_
        refine QX.round (σ := Nat × List ByteArray × Option Addr × Nat × Option Addr × Nat) (Ef := fun q_ => [(0, 0, .slice al n cl), (1, 0, .int .i64 f), (5, 0, .pointer (some ⟨br, 0, none⟩)), (6, 0, .pointer (some ⟨bt, 0, none⟩)), (12, 0, .slice al n cl), (13, 0, .int .i64 ((n : Nat) : Int)), (14, 0, .bool (decide (40 < ((n : Nat) : Int)))), (16, 0, .pointer (some ⟨br, 0, none⟩)), (17, 0, .pointer (some ⟨bt, 0, none⟩)), (7, 0, .int .i64 ((q_.1 : Nat) : Int))]) (Hf := fun q_ => [Item.cells br [.slice q_.2.2.1 ((q_.2.1).length) q_.2.2.2.1, .bool true] 60, Item.own w0.heap.size q_.2.2.1 ((q_.2.1).length) q_.2.2.2.1 9 1 (cellsOf encStr (q_.2.1)), Item.cells bt [.slice q_.2.2.2.2.1 ((q_.2.1).length) q_.2.2.2.2.2] 69, Item.own w0.heap.size q_.2.2.2.2.1 ((q_.2.1).length) q_.2.2.2.2.2 9 1 (cellsOf encStr (q_.2.1))]) (I := fun q_ => q_.1 ≤ n ∧ q_.2.1.length ≤ q_.1) (μ := fun q_ => n - q_.1) (s := (i, B, ra, rc, ba, bc)) 4 ((i + 1, recvB B (nth l i), ra2, rc2, ba2, bc2)) ⟨⟨(by first | omega | (dsimp only; omega)), (by have q1 := recvB_le (B := B) (m := (nth l i)); first | omega | (dsimp only; omega))⟩, by first | omega | (dsimp only; omega)⟩ ⟨rfl, rfl, rfl, rfl, rfl, rfl, rfl, rfl, rfl, rfl, rfl, rfl, rfl, rfl, rfl, rfl, rfl, rfl, rfl, rfl, trivial⟩ rfl
    · try simp only [Bool.and_eq_true, Bool.or_eq_true, Bool.not_eq_true', Bool.not_eq_false', Bool.and_eq_false_iff, Bool.or_eq_false_iff, decide_eq_true_eq, decide_eq_false_iff_not, Int.not_lt, Int.not_le, ne_eq, Decidable.not_not] at h2
      refine WC.exit ?_
      refine QX.exit_then ?_
      refine QX.exit_then ?_
      refine QX.exit_hit ?_
      refine QX.then_ ?_
      refine WC.seq ?_
      refine WC.region ?_
      refine SL.calle rfl rfl rfl rfl rfl rfl callable7 (fun w hw => awake_ok w) ?_
      refine SL.norm [_, _, _, _] rfl ?_
      refine SL.pure rfl rfl rfl (PureOp.assign rfl) ?_
      refine SL.nil_then ?_
      refine WC.ret ?_
      refine QX.ret1 rfl rfl ?_
      intro w hw
      rfl

end Go.Proofs.Ytmnhdiblkjmmfaa
