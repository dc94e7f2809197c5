import Derived.Test.YtmnhdiblkjmmfaaLkI
namespace Go.Proofs.Ytmnhdiblkjmmfaa
open Go Go.RowKit Eng
set_option linter.unusedVariables false
set_option linter.unusedSimpArgs false

theorem pre_slice {w : World} {base n cap : Nat} {ao : Option Addr} {R B : List ByteArray} (h : Pre R B) (hn : n = B.length) (hg : w.ownsRow base 9 1 (.slice ao n cap) n (cellsOf encStr B)) : SliceIn w 1 (subAo ao cap 0 1) ((R.length : Int).toNat - 0) (cap - 0) (rowsF encStr R) := by
  have h1 : SliceIn w 1 ao n cap (rowsF encStr B) := SliceIn.rows hg encStr_len (by omega)
  have h2 := h1.subrows hn 0 R.length (Nat.zero_le _) (by have := h.1; omega)
  rw [List.drop_zero, Nat.sub_zero, ← h.2] at h2
  simpa using h2
set_option maxHeartbeats 4000000 in
set_option maxRecDepth 100000 in
theorem carries_law (bs_ : List ByteArray) (abd : Option Addr) (nbd cbd : Nat) (hnbd : nbd = bs_.length) (hsz : ∀ i, i < bs_.length → (nth bs_ i).size ≤ maxLen) (room : Int) (way : List Int) (aw : Option Addr) (nw cw : Nat) (hnw : nw = way.length) (hway : ∀ i, i < way.length → 0 ≤ nth way i ∧ nth way i ≤ 255) (w0 : World) (hbd : SliceIn w0 1 abd nbd cbd (rowsF encStr bs_)) (hw_ : SliceIn w0 1 aw nw cw (rowsF (encK .u8) way)) : FnC Try.prog 5 [.slice abd nbd cbd, .int .i64 room, .slice aw nw cw] w0 fun v w' => v = .bool true := by
  refine fnc (N := 212) Try.func5 rfl rfl rfl ?_
  refine WC.seq ?_
  refine WC.region ?_
  refine SL.pure rfl rfl rfl (PureOp.assign rfl) ?_
  refine SL.nil_then ?_
  refine WC.seq ?_
  refine WC.seq ?_
  refine WC.region ?_
  refine SL.pure rfl rfl rfl (PureOp.move rfl) ?_
  refine SL.callv rfl rfl rfl rfl rfl rfl callable28 (fun w hw => long_ok bs_ abd nbd cbd hnbd 300 (by decide) hsz trivial w (hbd.below hw.below)) ?_
  rintro v ⟨lq, rfl, hlq⟩
  refine SL.norm [] rfl ?_
  refine SL.pure rfl rfl rfl (PureOp.move rfl) ?_
  refine SL.newg 25 false rfl ?_
  refine SL.gpure (c := 1) rfl rfl rfl rfl rfl rfl rfl (PureOp.move rfl) ?_
  refine SL.gpure (c := 1) rfl rfl rfl rfl rfl rfl rfl (PureOp.len rfl Try.underlying49) ?_
  refine SL.gpure (c := 1) rfl rfl rfl rfl rfl rfl rfl (PureOp.gtr rfl rfl) ?_
  refine SL.pure rfl rfl rfl (PureOp.or_ rfl rfl rfl rfl) ?_
  refine SL.pure rfl rfl rfl (PureOp.move rfl) ?_
  refine SL.newg 30 false rfl ?_
  refine SL.gpure (c := 2) rfl rfl rfl rfl rfl rfl rfl (PureOp.move rfl) ?_
  refine SL.gpure (c := 2) rfl rfl rfl rfl rfl rfl rfl (PureOp.len rfl Try.underlying52) ?_
  refine SL.gpure (c := 2) rfl rfl rfl rfl rfl rfl rfl (PureOp.gtr rfl rfl) ?_
  refine SL.pure rfl rfl rfl (PureOp.or_ rfl rfl rfl rfl) ?_
  refine SL.nil_then ?_
  refine WC.cond rfl (fun h1 => ?_) (fun h1 => ?_)
  · try simp only [Bool.and_eq_true, Bool.or_eq_true, Bool.not_eq_true', Bool.not_eq_false', Bool.and_eq_false_iff, Bool.or_eq_false_iff, decide_eq_true_eq, decide_eq_false_iff_not, Int.not_lt, Int.not_le, ne_eq, Decidable.not_not] at h1
    refine WC.seq ?_
    refine WC.region ?_
    refine SL.calle rfl rfl rfl rfl rfl rfl callable7 (fun w hw => awake_ok w) ?_
    refine SL.norm [] rfl ?_
    refine SL.pure rfl rfl rfl (PureOp.assign rfl) ?_
    refine SL.nil_then ?_
    refine WC.ret ?_
    refine QX.ret_then ?_
    refine QX.ret1 rfl rfl ?_
    intro w hw
    rfl
  · try simp only [Bool.and_eq_true, Bool.or_eq_true, Bool.not_eq_true', Bool.not_eq_false', Bool.and_eq_false_iff, Bool.or_eq_false_iff, decide_eq_true_eq, decide_eq_false_iff_not, Int.not_lt, Int.not_le, ne_eq, Decidable.not_not] at h1
    refine WC.skip ?_
    refine QX.then_ ?_
    refine WC.seq ?_
    refine WC.region ?_
    refine SL.pure rfl rfl rfl (PureOp.move rfl) ?_
    refine SL.pure rfl rfl rfl (PureOp.conv rfl Try.underlying3 Try.underlying54) ?_
    refine SL.pure rfl rfl rfl (PureOp.rem rfl rfl (fun _ => by (first | omega | decide | (constructor <;> decide) | (have q := u64_bd room; omega) | (have q := rm9_bd room; unfold rm9 at q; omega) | exact Nat.mod_lt _ (by omega) | (have q := (hway i (by omega)); obtain ⟨x, hx⟩ : ∃ x : Nat, nth way i = x := ⟨(nth way i).toNat, by omega⟩; rw [hx]; refine ⟨by decide, ?_⟩; show -9223372036854775808 ≤ ((x / 4 : Nat) : Int) ∧ ((x / 4 : Nat) : Int) ≤ _; omega)))) ?_
    refine SL.pure rfl rfl rfl (PureOp.conv rfl Try.underlying54 Try.underlying3) ?_
    refine SL.pure rfl rfl rfl (PureOp.add rfl rfl (fun _ => by (first | omega | decide | (constructor <;> decide) | (have q := u64_bd room; omega) | (have q := rm9_bd room; unfold rm9 at q; omega) | exact Nat.mod_lt _ (by omega) | (have q := (hway i (by omega)); obtain ⟨x, hx⟩ : ∃ x : Nat, nth way i = x := ⟨(nth way i).toNat, by omega⟩; rw [hx]; refine ⟨by decide, ?_⟩; show -9223372036854775808 ≤ ((x / 4 : Nat) : Int) ∧ ((x / 4 : Nat) : Int) ≤ _; omega)))) ?_
    refine SL.callM [] rfl rfl rfl rfl rfl rfl callable8 (by decide) (newsender_ok (rm9 room) (by have q := rm9_bd room; omega) w0) rfl (fun _ _ => rfl) ?_
    rintro bs hbs
    refine SL.addnil 32 4 ?_
    refine SL.norm [_, _] rfl ?_
    refine SL.pure rfl rfl rfl (PureOp.move rfl) ?_
    refine SL.pure rfl rfl rfl (PureOp.extract rfl rfl) ?_
    refine SL.pure rfl rfl rfl (PureOp.extract rfl rfl) ?_
    refine SL.pure rfl rfl rfl (PureOp.assign rfl) ?_
    refine SL.pure rfl rfl rfl (PureOp.assign rfl) ?_
    refine SL.nil_then ?_
    refine WC.seq ?_
    refine WC.seq ?_
    refine WC.region ?_
    refine SL.pure rfl rfl rfl (PureOp.move rfl) ?_
    refine SL.pure rfl rfl rfl (PureOp.neq rfl rfl) ?_
    refine SL.lit 46 false rfl (by decide) ?_
    refine SL.pure rfl rfl rfl (PureOp.move rfl) ?_
    refine SL.ung rfl rfl rfl rfl ?_
    refine SL.pure rfl rfl rfl (PureOp.move rfl) ?_
    refine SL.ung rfl rfl rfl rfl ?_
    refine SL.pure rfl rfl rfl (PureOp.eqlpnil1 rfl rfl Try.underlying24) ?_
    refine SL.pure rfl rfl rfl (PureOp.pickF rfl rfl) ?_
    refine SL.nil_then ?_
    refine WC.condF rfl ?_
    refine WC.skip ?_
    refine QX.then_ ?_
    refine WC.seq ?_
    refine WC.region ?_
    refine SL.callM [] rfl rfl rfl rfl rfl rfl callable21 (by decide) (newrecv_ok w0) rfl (fun _ _ => rfl) ?_
    rintro br hbr
    refine SL.addnil 9 1 ?_
    refine SL.norm [_, _, _, _] rfl ?_
    refine SL.pure rfl rfl rfl (PureOp.assign rfl) ?_
    refine SL.nil_then ?_
    refine WC.seq ?_
    refine WC.region ?_
    refine SL.addnil 9 1 ?_
    refine SL.pure rfl rfl rfl (PureOp.assign rfl) ?_
    refine SL.nil_then ?_
    refine WC.seq ?_
    refine WC.region ?_
    refine SL.addnil 32 4 ?_
    refine SL.pure rfl rfl rfl (PureOp.assign rfl) ?_
    refine SL.addnil 32 4 ?_
    refine SL.pure rfl rfl rfl (PureOp.assign rfl) ?_
    refine SL.nil_then ?_
    refine WC.seq ?_
    refine WC.seq ?_
    refine WC.region ?_
    refine SL.pure rfl rfl rfl (PureOp.assign rfl) ?_
    refine SL.nil_then ?_
    refine WC.block ?_
    refine WC.loop (σ := Nat × List ByteArray × Nat × Nat × Option Addr × Nat × List ByteArray × Nat × Option Addr × Nat × Option Addr × Nat × List Msg × Nat × Option Addr × Nat × List Msg × Nat × Option Addr × Nat) (fun q_ => [(0, 0, .slice abd nbd cbd), (1, 0, .int .i64 room), (2, 0, .slice aw nw cw), (7, 0, .pointer (some ⟨bs, 0, none⟩)), (8, 0, .int .i64 0), (9, 0, .pointer (some ⟨br, 0, none⟩)), (23, 0, .slice abd nbd cbd), (24, 0, .bool lq), (25, 0, .bool lq), (29, 0, .bool (lq || (decide (30 < ((nbd : Nat) : Int))))), (30, 0, .bool (lq || (decide (30 < ((nbd : Nat) : Int))))), (34, 0, .bool ((lq || (decide (30 < ((nbd : Nat) : Int)))) || (decide (200 < ((nw : Nat) : Int))))), (36, 0, .tuple #[.pointer (some ⟨bs, 0, none⟩), .int .i64 0]), (37, 0, .int .i64 room), (38, 0, .int .u64 (IntKind.u64.wrap room)), (39, 0, .int .u64 ((IntKind.u64.wrap room).tmod 9)), (40, 0, .int .i64 (IntKind.i64.wrap ((IntKind.u64.wrap room).tmod 9))), (41, 0, .int .i64 (rm9 room)), (42, 0, .tuple #[.pointer (some ⟨bs, 0, none⟩), .int .i64 0]), (43, 0, .pointer (some ⟨bs, 0, none⟩)), (44, 0, .int .i64 0), (45, 0, .int .i64 0), (46, 0, .bool false), (47, 0, .bool false), (48, 0, .pointer (some ⟨bs, 0, none⟩)), (49, 0, .bool false), (50, 0, .bool false), (51, 0, .pointer (some ⟨br, 0, none⟩)), (13, 0, .int .i64 ((q_.1 : Nat) : Int)), (10, 0, .slice q_.2.2.2.2.2.2.2.2.2.2.1 q_.2.2.1 q_.2.2.2.2.2.2.2.2.2.2.2.1), (11, 0, .slice q_.2.2.2.2.2.2.2.2.2.2.2.2.2.2.1 q_.2.2.2.2.2.2.2.2.2.2.2.2.2.1 q_.2.2.2.2.2.2.2.2.2.2.2.2.2.2.2.1), (12, 0, .slice q_.2.2.2.2.2.2.2.2.2.2.2.2.2.2.2.2.2.2.1 q_.2.2.2.2.2.2.2.2.2.2.2.2.2.2.2.2.2.1 q_.2.2.2.2.2.2.2.2.2.2.2.2.2.2.2.2.2.2.2)]) (fun q_ => [Item.cells bs [.int .i64 (rm9 room), .int .i64 ((q_.2.2.1 : Nat) : Int), .int .i64 ((q_.2.2.2.1 : Nat) : Int), .slice q_.2.2.2.2.1 ((q_.2.2.1) - (q_.2.2.2.1)) q_.2.2.2.2.2.1] 57, Item.own w0.heap.size q_.2.2.2.2.1 ((q_.2.2.1) - (q_.2.2.2.1)) q_.2.2.2.2.2.1 32 4 (cellsOf enc32 (keptL (q_.2.1) (q_.2.2.2.1))), Item.cells br [.slice q_.2.2.2.2.2.2.2.2.1 q_.2.2.2.2.2.2.2.1 q_.2.2.2.2.2.2.2.2.2.1, .bool true] 60, Item.own w0.heap.size q_.2.2.2.2.2.2.2.2.1 q_.2.2.2.2.2.2.2.1 q_.2.2.2.2.2.2.2.2.2.1 9 1 (cellsOf encStr (q_.2.2.2.2.2.2.1)), Item.own w0.heap.size q_.2.2.2.2.2.2.2.2.2.2.1 q_.2.2.1 q_.2.2.2.2.2.2.2.2.2.2.2.1 9 1 (cellsOf encStr (q_.2.1)), Item.own w0.heap.size q_.2.2.2.2.2.2.2.2.2.2.2.2.2.2.1 q_.2.2.2.2.2.2.2.2.2.2.2.2.2.1 q_.2.2.2.2.2.2.2.2.2.2.2.2.2.2.2.1 32 4 (cellsOf enc32 (q_.2.2.2.2.2.2.2.2.2.2.2.2.1)), Item.own w0.heap.size q_.2.2.2.2.2.2.2.2.2.2.2.2.2.2.2.2.2.2.1 q_.2.2.2.2.2.2.2.2.2.2.2.2.2.2.2.2.2.1 q_.2.2.2.2.2.2.2.2.2.2.2.2.2.2.2.2.2.2.2 32 4 (cellsOf enc32 (q_.2.2.2.2.2.2.2.2.2.2.2.2.2.2.2.2.1))]) (fun q_ => q_.1 ≤ nw ∧ q_.2.2.1 = q_.2.1.length ∧ q_.2.1.length ≤ nbd ∧ q_.2.2.2.2.2.2.2.1 = q_.2.2.2.2.2.2.1.length ∧ Pre q_.2.2.2.2.2.2.1 q_.2.1 ∧ q_.2.2.2.1 ≤ q_.2.2.2.2.2.2.1.length ∧ q_.2.2.2.2.2.2.2.2.2.2.2.2.2.1 = q_.2.2.2.2.2.2.2.2.2.2.2.2.1.length ∧ q_.2.2.2.2.2.2.2.2.2.2.2.2.1.length ≤ 1000 ∧ (∀ m ∈ q_.2.2.2.2.2.2.2.2.2.2.2.2.1, IsData q_.2.1 m) ∧ q_.2.2.2.2.2.2.2.2.2.2.2.2.2.2.2.2.2.1 = q_.2.2.2.2.2.2.2.2.2.2.2.2.2.2.2.2.1.length ∧ q_.2.2.2.2.2.2.2.2.2.2.2.2.2.2.2.2.1.length ≤ q_.1 ∧ (∀ m ∈ q_.2.2.2.2.2.2.2.2.2.2.2.2.2.2.2.2.1, IsAck q_.2.2.2.2.2.2.1.length m)) (fun q_ => nw - q_.1) 7 ((0, [], 0, 0, none, 0, [], 0, none, 0, none, 0, [], 0, none, 0, [], 0, none, 0)) (⟨Nat.zero_le _, rfl, Nat.zero_le _, rfl, ⟨Nat.le_refl _, rfl⟩, Nat.le_refl _, rfl, by decide, fun m hm => (by cases hm), rfl, Nat.le_refl _, fun m hm => (by cases hm)⟩) ⟨rfl, rfl, rfl, rfl, rfl, rfl, rfl, rfl, rfl, rfl, rfl, rfl, rfl, rfl, rfl, rfl, rfl, rfl, rfl, rfl, rfl, rfl, rfl, rfl, rfl, rfl, rfl, rfl, rfl, rfl, rfl, rfl, rfl, rfl, rfl, rfl, rfl, rfl, rfl, rfl, rfl, rfl, rfl, rfl, rfl, rfl, rfl, rfl, rfl, rfl, rfl, rfl, rfl, rfl, rfl, rfl, rfl, rfl, rfl, rfl, rfl, rfl, rfl, rfl, trivial⟩ rfl ?_
    rintro ⟨i, B, NB_, d, ka, kc, R, NR_, ra, rc, sa, sc, O, no, oa, oc, K, nk, ba, bc⟩ ⟨hi, hNB, hBb, hNR, hP, hd, hno, hO1, hO, hnk, hK1, hK⟩
    try dsimp only at *
    subst hNB
    subst hNR
    have hRB := hP.1
    refine WC.seq ?_
    refine WC.seq ?_
    refine WC.region ?_
    refine SL.pure rfl rfl rfl (PureOp.move rfl) ?_
    refine SL.pure rfl rfl rfl (PureOp.move rfl) ?_
    refine SL.pure rfl rfl rfl (PureOp.len rfl Try.underlying52) ?_
    refine SL.pure rfl rfl rfl (PureOp.lss rfl rfl) ?_
    refine SL.nil_then ?_
    refine WC.cond rfl (fun h2 => ?_) (fun h2 => ?_)
    · try simp only [Bool.and_eq_true, Bool.or_eq_true, Bool.not_eq_true', Bool.not_eq_false', Bool.and_eq_false_iff, Bool.or_eq_false_iff, decide_eq_true_eq, decide_eq_false_iff_not, Int.not_lt, Int.not_le, ne_eq, Decidable.not_not] at h2
      refine WC.skip ?_
      refine QX.then_ ?_
      refine WC.seq ?_
      refine WC.block ?_
      refine WC.seq ?_
      refine WC.region ?_
      refine SL.pure rfl rfl rfl (PureOp.move rfl) ?_
      refine SL.pure rfl rfl rfl (PureOp.move rfl) ?_
      refine SL.pure rfl rfl rfl (PureOp.indexAddrN Try.underlying52 sz5 rfl rfl (AoOk.in_ hw_) (fun _ => by (first | omega | decide | (constructor <;> decide) | (have q := u64_bd room; omega) | (have q := rm9_bd room; unfold rm9 at q; omega) | exact Nat.mod_lt _ (by omega) | (have q := (hway i (by omega)); obtain ⟨x, hx⟩ : ∃ x : Nat, nth way i = x := ⟨(nth way i).toNat, by omega⟩; rw [hx]; refine ⟨by decide, ?_⟩; show -9223372036854775808 ≤ ((x / 4 : Nat) : Int) ∧ ((x / 4 : Nat) : Int) ≤ _; omega)))) ?_
      refine SL.pure rfl rfl rfl (PureOp.load (v := .int .u8 (nth way i)) Try.underlying5 rfl rfl (fun _ => (CellIs.in_ hw_ i 0 (by (first | omega | decide | (constructor <;> decide) | (have q := u64_bd room; omega) | (have q := rm9_bd room; unfold rm9 at q; omega) | exact Nat.mod_lt _ (by omega) | (have q := (hway i (by omega)); obtain ⟨x, hx⟩ : ∃ x : Nat, nth way i = x := ⟨(nth way i).toNat, by omega⟩; rw [hx]; refine ⟨by decide, ?_⟩; show -9223372036854775808 ≤ ((x / 4 : Nat) : Int) ∧ ((x / 4 : Nat) : Int) ≤ _; omega))) (by omega)))) ?_
      refine SL.pure rfl rfl rfl (PureOp.conv rfl Try.underlying5 Try.underlying3) ?_
      refine SL.reval 62 (.int .i64 (nth way i)) rfl (by rw [i64_id (by have q := (hway i (by omega)); omega)]) ?_
      refine SL.pure rfl rfl rfl (PureOp.quo rfl rfl (fun _ => by (first | omega | decide | (constructor <;> decide) | (have q := u64_bd room; omega) | (have q := rm9_bd room; unfold rm9 at q; omega) | exact Nat.mod_lt _ (by omega) | (have q := (hway i (by omega)); obtain ⟨x, hx⟩ : ∃ x : Nat, nth way i = x := ⟨(nth way i).toNat, by omega⟩; rw [hx]; refine ⟨by decide, ?_⟩; show -9223372036854775808 ≤ ((x / 4 : Nat) : Int) ∧ ((x / 4 : Nat) : Int) ≤ _; omega)))) ?_
      refine SL.reval 63 (.int .i64 (((nth way i).toNat / 4 : Nat) : Int)) rfl (by have q := (hway i (by omega)); obtain ⟨x, hx⟩ : ∃ x : Nat, nth way i = x := ⟨(nth way i).toNat, by omega⟩; rw [hx]; rfl) ?_
      refine SL.pure rfl rfl rfl (PureOp.assign rfl) ?_
      refine SL.nil_then ?_
      refine WC.cutx (σ := List ByteArray × Nat × Nat × Option Addr × Nat × List ByteArray × Nat × Option Addr × Nat × Option Addr × Nat × List Msg × Nat × Option Addr × Nat × List Msg × Nat × Option Addr × Nat) (fun q_ => [(0, 0, .slice abd nbd cbd), (1, 0, .int .i64 room), (2, 0, .slice aw nw cw), (7, 0, .pointer (some ⟨bs, 0, none⟩)), (8, 0, .int .i64 0), (9, 0, .pointer (some ⟨br, 0, none⟩)), (13, 0, .int .i64 ((i : Nat) : Int)), (14, 0, .int .i64 (((nth way i).toNat / 4 : Nat) : Int)), (23, 0, .slice abd nbd cbd), (24, 0, .bool lq), (25, 0, .bool lq), (29, 0, .bool (lq || (decide (30 < ((nbd : Nat) : Int))))), (30, 0, .bool (lq || (decide (30 < ((nbd : Nat) : Int))))), (34, 0, .bool ((lq || (decide (30 < ((nbd : Nat) : Int)))) || (decide (200 < ((nw : Nat) : Int))))), (36, 0, .tuple #[.pointer (some ⟨bs, 0, none⟩), .int .i64 0]), (37, 0, .int .i64 room), (38, 0, .int .u64 (IntKind.u64.wrap room)), (39, 0, .int .u64 ((IntKind.u64.wrap room).tmod 9)), (40, 0, .int .i64 (IntKind.i64.wrap ((IntKind.u64.wrap room).tmod 9))), (41, 0, .int .i64 (rm9 room)), (42, 0, .tuple #[.pointer (some ⟨bs, 0, none⟩), .int .i64 0]), (43, 0, .pointer (some ⟨bs, 0, none⟩)), (44, 0, .int .i64 0), (45, 0, .int .i64 0), (46, 0, .bool false), (47, 0, .bool false), (48, 0, .pointer (some ⟨bs, 0, none⟩)), (49, 0, .bool false), (50, 0, .bool false), (51, 0, .pointer (some ⟨br, 0, none⟩)), (52, 0, .int .i64 ((i : Nat) : Int)), (53, 0, .slice aw nw cw), (54, 0, .int .i64 ((nw : Nat) : Int)), (55, 0, .bool (decide (((i : Nat) : Int) < ((nw : Nat) : Int)))), (58, 0, .slice aw nw cw), (59, 0, .int .i64 ((i : Nat) : Int)), (60, 0, .pointer (some ⟨blk aw, off aw + i * 1, none⟩)), (61, 0, .int .u8 (nth way i)), (62, 0, .int .i64 (nth way i)), (63, 0, .int .i64 (((nth way i).toNat / 4 : Nat) : Int)), (10, 0, .slice q_.2.2.2.2.2.2.2.2.2.1 q_.2.1 q_.2.2.2.2.2.2.2.2.2.2.1), (11, 0, .slice q_.2.2.2.2.2.2.2.2.2.2.2.2.2.1 q_.2.2.2.2.2.2.2.2.2.2.2.2.1 q_.2.2.2.2.2.2.2.2.2.2.2.2.2.2.1), (12, 0, .slice q_.2.2.2.2.2.2.2.2.2.2.2.2.2.2.2.2.2.1 q_.2.2.2.2.2.2.2.2.2.2.2.2.2.2.2.2.1 q_.2.2.2.2.2.2.2.2.2.2.2.2.2.2.2.2.2.2)]) (fun q_ => [Item.cells bs [.int .i64 (rm9 room), .int .i64 ((q_.2.1 : Nat) : Int), .int .i64 ((q_.2.2.1 : Nat) : Int), .slice q_.2.2.2.1 ((q_.2.1) - (q_.2.2.1)) q_.2.2.2.2.1] 57, Item.own w0.heap.size q_.2.2.2.1 ((q_.2.1) - (q_.2.2.1)) q_.2.2.2.2.1 32 4 (cellsOf enc32 (keptL (q_.1) (q_.2.2.1))), Item.cells br [.slice q_.2.2.2.2.2.2.2.1 q_.2.2.2.2.2.2.1 q_.2.2.2.2.2.2.2.2.1, .bool true] 60, Item.own w0.heap.size q_.2.2.2.2.2.2.2.1 q_.2.2.2.2.2.2.1 q_.2.2.2.2.2.2.2.2.1 9 1 (cellsOf encStr (q_.2.2.2.2.2.1)), Item.own w0.heap.size q_.2.2.2.2.2.2.2.2.2.1 q_.2.1 q_.2.2.2.2.2.2.2.2.2.2.1 9 1 (cellsOf encStr (q_.1)), Item.own w0.heap.size q_.2.2.2.2.2.2.2.2.2.2.2.2.2.1 q_.2.2.2.2.2.2.2.2.2.2.2.2.1 q_.2.2.2.2.2.2.2.2.2.2.2.2.2.2.1 32 4 (cellsOf enc32 (q_.2.2.2.2.2.2.2.2.2.2.2.1)), Item.own w0.heap.size q_.2.2.2.2.2.2.2.2.2.2.2.2.2.2.2.2.2.1 q_.2.2.2.2.2.2.2.2.2.2.2.2.2.2.2.2.1 q_.2.2.2.2.2.2.2.2.2.2.2.2.2.2.2.2.2.2 32 4 (cellsOf enc32 (q_.2.2.2.2.2.2.2.2.2.2.2.2.2.2.2.1))]) (fun q_ => q_.2.1 = q_.1.length ∧ q_.1.length ≤ nbd ∧ q_.2.2.2.2.2.2.1 = q_.2.2.2.2.2.1.length ∧ Pre q_.2.2.2.2.2.1 q_.1 ∧ q_.2.2.1 ≤ q_.2.2.2.2.2.1.length ∧ q_.2.2.2.2.2.2.2.2.2.2.2.2.1 = q_.2.2.2.2.2.2.2.2.2.2.2.1.length ∧ q_.2.2.2.2.2.2.2.2.2.2.2.1.length ≤ 1030 ∧ (∀ m ∈ q_.2.2.2.2.2.2.2.2.2.2.2.1, IsData q_.1 m) ∧ q_.2.2.2.2.2.2.2.2.2.2.2.2.2.2.2.2.1 = q_.2.2.2.2.2.2.2.2.2.2.2.2.2.2.2.1.length ∧ q_.2.2.2.2.2.2.2.2.2.2.2.2.2.2.2.1.length ≤ i + 1 ∧ (∀ m ∈ q_.2.2.2.2.2.2.2.2.2.2.2.2.2.2.2.1, IsAck q_.2.2.2.2.2.1.length m)) ?_ ?_
      · skip
        refine WC.seq ?_
        refine WC.region ?_
        refine SL.pure rfl rfl rfl (PureOp.move rfl) ?_
        refine SL.pure rfl rfl rfl (PureOp.move rfl) ?_
        refine SL.pure rfl rfl rfl (PureOp.indexAddrN Try.underlying52 sz5 rfl rfl (AoOk.in_ hw_) (fun _ => by (first | omega | decide | (constructor <;> decide) | (have q := u64_bd room; omega) | (have q := rm9_bd room; unfold rm9 at q; omega) | exact Nat.mod_lt _ (by omega) | (have q := (hway i (by omega)); obtain ⟨x, hx⟩ : ∃ x : Nat, nth way i = x := ⟨(nth way i).toNat, by omega⟩; rw [hx]; refine ⟨by decide, ?_⟩; show -9223372036854775808 ≤ ((x / 4 : Nat) : Int) ∧ ((x / 4 : Nat) : Int) ≤ _; omega)))) ?_
        refine SL.pure rfl rfl rfl (PureOp.load (v := .int .u8 (nth way i)) Try.underlying5 rfl rfl (fun _ => (CellIs.in_ hw_ i 0 (by (first | omega | decide | (constructor <;> decide) | (have q := u64_bd room; omega) | (have q := rm9_bd room; unfold rm9 at q; omega) | exact Nat.mod_lt _ (by omega) | (have q := (hway i (by omega)); obtain ⟨x, hx⟩ : ∃ x : Nat, nth way i = x := ⟨(nth way i).toNat, by omega⟩; rw [hx]; refine ⟨by decide, ?_⟩; show -9223372036854775808 ≤ ((x / 4 : Nat) : Int) ∧ ((x / 4 : Nat) : Int) ≤ _; omega))) (by omega)))) ?_
        refine SL.pure rfl rfl rfl (PureOp.conv rfl Try.underlying5 Try.underlying3) ?_
        refine SL.reval 68 (.int .i64 (nth way i)) rfl (by rw [i64_id (by have q := (hway i (by omega)); omega)]) ?_
        refine SL.pure rfl rfl rfl (PureOp.rem rfl rfl (fun _ => by (first | omega | decide | (constructor <;> decide) | (have q := u64_bd room; omega) | (have q := rm9_bd room; unfold rm9 at q; omega) | exact Nat.mod_lt _ (by omega) | (have q := (hway i (by omega)); obtain ⟨x, hx⟩ : ∃ x : Nat, nth way i = x := ⟨(nth way i).toNat, by omega⟩; rw [hx]; refine ⟨by decide, ?_⟩; show -9223372036854775808 ≤ ((x / 4 : Nat) : Int) ∧ ((x / 4 : Nat) : Int) ≤ _; omega)))) ?_
        refine SL.reval 69 (.int .i64 (((nth way i).toNat % 4 : Nat) : Int)) rfl (by have q := (hway i (by omega)); obtain ⟨x, hx⟩ : ∃ x : Nat, nth way i = x := ⟨(nth way i).toNat, by omega⟩; rw [hx]; rfl) ?_
        refine SL.nil_then ?_
        refine WC.block ?_
        refine WC.seq ?_
        refine WC.region ?_
        refine SL.pure rfl rfl rfl (PureOp.eql rfl rfl) ?_
        refine SL.pure rfl rfl rfl (PureOp.assign rfl) ?_
        refine SL.nil_then ?_
        refine WC.cond rfl (fun h3 => ?_) (fun h3 => ?_)
        · try simp only [Bool.and_eq_true, Bool.or_eq_true, Bool.not_eq_true', Bool.not_eq_false', Bool.and_eq_false_iff, Bool.or_eq_false_iff, decide_eq_true_eq, decide_eq_false_iff_not, Int.not_lt, Int.not_le, ne_eq, Decidable.not_not] at h3
          refine WC.seq ?_
          refine WC.region ?_
          refine SL.pure rfl rfl rfl (PureOp.move rfl) ?_
          refine SL.pure rfl rfl rfl (PureOp.len rfl Try.underlying49) ?_
          refine SL.pure rfl rfl rfl (PureOp.move rfl) ?_
          refine SL.pure rfl rfl rfl (PureOp.len rfl Try.underlying49) ?_
          refine SL.pure rfl rfl rfl (PureOp.lss rfl rfl) ?_
          refine SL.nil_then ?_
          refine WC.cond rfl (fun h4 => ?_) (fun h4 => ?_)
          · try simp only [Bool.and_eq_true, Bool.or_eq_true, Bool.not_eq_true', Bool.not_eq_false', Bool.and_eq_false_iff, Bool.or_eq_false_iff, decide_eq_true_eq, decide_eq_false_iff_not, Int.not_lt, Int.not_le, ne_eq, Decidable.not_not] at h4
            refine WC.seq ?_
            refine WC.region ?_
            refine SL.pure rfl rfl rfl (PureOp.move rfl) ?_
            refine SL.pure rfl rfl rfl (PureOp.move rfl) ?_
            refine SL.pure rfl rfl rfl (PureOp.move rfl) ?_
            refine SL.pure rfl rfl rfl (PureOp.len rfl Try.underlying49) ?_
            refine SL.pure rfl rfl rfl (PureOp.indexAddrN Try.underlying49 sz9 rfl rfl (AoOk.in_ hbd) (fun _ => by (first | omega | decide | (constructor <;> decide) | (have q := u64_bd room; omega) | (have q := rm9_bd room; unfold rm9 at q; omega) | exact Nat.mod_lt _ (by omega) | (have q := (hway i (by omega)); obtain ⟨x, hx⟩ : ∃ x : Nat, nth way i = x := ⟨(nth way i).toNat, by omega⟩; rw [hx]; refine ⟨by decide, ?_⟩; show -9223372036854775808 ≤ ((x / 4 : Nat) : Int) ∧ ((x / 4 : Nat) : Int) ≤ _; omega)))) ?_
            refine SL.pure rfl rfl rfl (PureOp.load (v := .string (nth bs_ B.length)) Try.underlying9 rfl rfl (fun _ => (CellIs.in_ hbd B.length 0 (by (first | omega | decide | (constructor <;> decide) | (have q := u64_bd room; omega) | (have q := rm9_bd room; unfold rm9 at q; omega) | exact Nat.mod_lt _ (by omega) | (have q := (hway i (by omega)); obtain ⟨x, hx⟩ : ∃ x : Nat, nth way i = x := ⟨(nth way i).toNat, by omega⟩; rw [hx]; refine ⟨by decide, ?_⟩; show -9223372036854775808 ≤ ((x / 4 : Nat) : Int) ∧ ((x / 4 : Nat) : Int) ≤ _; omega))) (by omega)))) ?_
            refine SL.callM [0, 1] rfl rfl rfl rfl rfl rfl callable10 (by decide) (send_ok bs (rm9 room) B d ka (B.length - d) kc (rm9_bd room).1 (by omega) rfl (by omega) w0 (nth bs_ B.length)) rfl (fun _ _ => rfl) ?_
            rintro ⟨ka2, kc2⟩ _
            refine SL.norm [_, _, _, _, _, _, _] rfl ?_
            refine SL.pure rfl rfl rfl (PureOp.move rfl) ?_
            refine SL.pure rfl rfl rfl (PureOp.extract rfl rfl) ?_
            refine SL.pure rfl rfl rfl (PureOp.extract rfl rfl) ?_
            refine SL.alloc rfl rfl zero32 (fun b1 hb1 => ?_)
            refine SL.norm [_, _, _, _, _, _, _, _] rfl ?_
            refine SL.store 7 rfl rfl rfl rfl sz32 rfl rfl ?_
            refine SL.norm [_, _, _, _, _, _, _, _] rfl ?_
            refine SL.pure rfl rfl rfl (PureOp.assign rfl) ?_
            refine SL.nil_then ?_
            refine WC.seq ?_
            refine WC.region ?_
            refine SL.pure rfl rfl rfl (PureOp.move rfl) ?_
            refine SL.pure rfl rfl rfl (PureOp.eql rfl rfl) ?_
            refine SL.nil_then ?_
            refine WC.cond rfl (fun h5 => ?_) (fun h5 => ?_)
            · try simp only [Bool.and_eq_true, Bool.or_eq_true, Bool.not_eq_true', Bool.not_eq_false', Bool.and_eq_false_iff, Bool.or_eq_false_iff, decide_eq_true_eq, decide_eq_false_iff_not, Int.not_lt, Int.not_le, ne_eq, Decidable.not_not] at h5
              have e0 : sendE (rm9 room) B d (nth bs_ B.length) = 0 := by assumption
              have eB : sendB (rm9 room) B d (nth bs_ B.length) = B ++ [(nth bs_ B.length)] := if_pos e0
              have eM : sendM (rm9 room) B d (nth bs_ B.length) = dataM ((B.length : Int) + 1) (nth bs_ B.length) := if_pos e0
              have eL : (B ++ [(nth bs_ B.length)]).length = B.length + 1 := by simp
              rw [eB, eM, eL]
              refine WC.seq ?_
              refine WC.region ?_
              refine SL.pure rfl rfl rfl (PureOp.move rfl) ?_
              refine SL.pure rfl rfl rfl (PureOp.move rfl) ?_
              refine SL.pure rfl rfl rfl (PureOp.move rfl) ?_
              refine SL.pure rfl rfl rfl (PureOp.len rfl Try.underlying49) ?_
              refine SL.pure rfl rfl rfl (PureOp.indexAddrN Try.underlying49 sz9 rfl rfl (AoOk.in_ hbd) (fun _ => by (first | omega | decide | (constructor <;> decide) | (have q := u64_bd room; omega) | (have q := rm9_bd room; unfold rm9 at q; omega) | exact Nat.mod_lt _ (by omega) | (have q := (hway i (by omega)); obtain ⟨x, hx⟩ : ∃ x : Nat, nth way i = x := ⟨(nth way i).toNat, by omega⟩; rw [hx]; refine ⟨by decide, ?_⟩; show -9223372036854775808 ≤ ((x / 4 : Nat) : Int) ∧ ((x / 4 : Nat) : Int) ≤ _; omega)))) ?_
              refine SL.pure rfl rfl rfl (PureOp.load (v := .string (nth bs_ B.length)) Try.underlying9 rfl rfl (fun _ => (CellIs.in_ hbd B.length 0 (by (first | omega | decide | (constructor <;> decide) | (have q := u64_bd room; omega) | (have q := rm9_bd room; unfold rm9 at q; omega) | exact Nat.mod_lt _ (by omega) | (have q := (hway i (by omega)); obtain ⟨x, hx⟩ : ∃ x : Nat, nth way i = x := ⟨(nth way i).toNat, by omega⟩; rw [hx]; refine ⟨by decide, ?_⟩; show -9223372036854775808 ≤ ((x / 4 : Nat) : Int) ∧ ((x / 4 : Nat) : Int) ≤ _; omega))) (by omega)))) ?_
              refine SL.buildSlice rfl rfl Try.underlying49 elem9 rfl rfl rfl rfl (fun b2 hb2 => ?_)
              refine SL.norm [_, _, _, _, _, _, _, _, _] rfl ?_
              refine SL.append 4 rfl rfl Try.underlying49 elem9 rfl rfl rfl rfl (SrcIs.own 8 rfl) (by rfl) (by (first | omega | decide | (constructor <;> decide) | (have q := u64_bd room; omega) | (have q := rm9_bd room; unfold rm9 at q; omega) | exact Nat.mod_lt _ (by omega) | (have q := (hway i (by omega)); obtain ⟨x, hx⟩ : ∃ x : Nat, nth way i = x := ⟨(nth way i).toNat, by omega⟩; rw [hx]; refine ⟨by decide, ?_⟩; show -9223372036854775808 ≤ ((x / 4 : Nat) : Int) ∧ ((x / 4 : Nat) : Int) ≤ _; omega))) (by (first | omega | decide | (constructor <;> decide) | (have q := u64_bd room; omega) | (have q := rm9_bd room; unfold rm9 at q; omega) | exact Nat.mod_lt _ (by omega) | (have q := (hway i (by omega)); obtain ⟨x, hx⟩ : ∃ x : Nat, nth way i = x := ⟨(nth way i).toNat, by omega⟩; rw [hx]; refine ⟨by decide, ?_⟩; show -9223372036854775808 ≤ ((x / 4 : Nat) : Int) ∧ ((x / 4 : Nat) : Int) ≤ _; omega))) (fun ao1_ cap1_ => ?_)
              refine SL.itemxs 4 rfl (show _ = cellsOf encStr (B ++ [(nth bs_ B.length)]) from by rw [cellsOf_append (l := B), cellsOf_one]; rfl) ?_
              refine SL.norm [_, _, _, _, _, _, _, _, _] rfl ?_
              refine SL.pure rfl rfl rfl (PureOp.assign rfl) ?_
              refine SL.nil_then ?_
              refine WC.region ?_
              refine SL.pure rfl rfl rfl (PureOp.move rfl) ?_
              refine SL.pure rfl rfl rfl (PureOp.loads (vs := [.int .i64 ((dataM ((B.length : Int) + 1) (nth bs_ B.length)).1), .int .i64 ((dataM ((B.length : Int) + 1) (nth bs_ B.length)).2.1), .int .i64 ((dataM ((B.length : Int) + 1) (nth bs_ B.length)).2.2.1), .string ((dataM ((B.length : Int) + 1) (nth bs_ B.length)).2.2.2)]) Try.underlying32 rfl rfl (fun _ => (RowIs.cells 7 0 4 rfl rfl)) sz32) ?_
              refine SL.buildSlice rfl rfl Try.underlying39 elem32 rfl rfl rfl rfl (fun b3 hb3 => ?_)
              refine SL.norm [_, _, _, _, _, _, _, _, _, _] rfl ?_
              refine SL.append 5 rfl rfl Try.underlying39 elem32 rfl rfl rfl rfl (SrcIs.own 9 rfl) (by rfl) (by (first | omega | decide | (constructor <;> decide) | (have q := u64_bd room; omega) | (have q := rm9_bd room; unfold rm9 at q; omega) | exact Nat.mod_lt _ (by omega) | (have q := (hway i (by omega)); obtain ⟨x, hx⟩ : ∃ x : Nat, nth way i = x := ⟨(nth way i).toNat, by omega⟩; rw [hx]; refine ⟨by decide, ?_⟩; show -9223372036854775808 ≤ ((x / 4 : Nat) : Int) ∧ ((x / 4 : Nat) : Int) ≤ _; omega))) (by (first | omega | decide | (constructor <;> decide) | (have q := u64_bd room; omega) | (have q := rm9_bd room; unfold rm9 at q; omega) | exact Nat.mod_lt _ (by omega) | (have q := (hway i (by omega)); obtain ⟨x, hx⟩ : ∃ x : Nat, nth way i = x := ⟨(nth way i).toNat, by omega⟩; rw [hx]; refine ⟨by decide, ?_⟩; show -9223372036854775808 ≤ ((x / 4 : Nat) : Int) ∧ ((x / 4 : Nat) : Int) ≤ _; omega))) (fun ao2_ cap2_ => ?_)
              refine SL.itemxs 5 rfl (show _ = cellsOf enc32 (O ++ [dataM ((B.length : Int) + 1) (nth bs_ B.length)]) from by rw [cellsOf_append (l := O), cellsOf_one]; rfl) ?_
              refine SL.norm [_, _, _, _, _, _, _, _, _, _] rfl ?_
              refine SL.pure rfl rfl rfl (PureOp.assign rfl) ?_
              refine SL.nil ?_
              refine QX.normal_in ?_
              refine QX.cutx (σ := List ByteArray × Nat × Nat × Option Addr × Nat × List ByteArray × Nat × Option Addr × Nat × Option Addr × Nat × List Msg × Nat × Option Addr × Nat × List Msg × Nat × Option Addr × Nat) (E' := fun q_ => [(0, 0, .slice abd nbd cbd), (1, 0, .int .i64 room), (2, 0, .slice aw nw cw), (7, 0, .pointer (some ⟨bs, 0, none⟩)), (8, 0, .int .i64 0), (9, 0, .pointer (some ⟨br, 0, none⟩)), (13, 0, .int .i64 ((i : Nat) : Int)), (14, 0, .int .i64 (((nth way i).toNat / 4 : Nat) : Int)), (23, 0, .slice abd nbd cbd), (24, 0, .bool lq), (25, 0, .bool lq), (29, 0, .bool (lq || (decide (30 < ((nbd : Nat) : Int))))), (30, 0, .bool (lq || (decide (30 < ((nbd : Nat) : Int))))), (34, 0, .bool ((lq || (decide (30 < ((nbd : Nat) : Int)))) || (decide (200 < ((nw : Nat) : Int))))), (36, 0, .tuple #[.pointer (some ⟨bs, 0, none⟩), .int .i64 0]), (37, 0, .int .i64 room), (38, 0, .int .u64 (IntKind.u64.wrap room)), (39, 0, .int .u64 ((IntKind.u64.wrap room).tmod 9)), (40, 0, .int .i64 (IntKind.i64.wrap ((IntKind.u64.wrap room).tmod 9))), (41, 0, .int .i64 (rm9 room)), (42, 0, .tuple #[.pointer (some ⟨bs, 0, none⟩), .int .i64 0]), (43, 0, .pointer (some ⟨bs, 0, none⟩)), (44, 0, .int .i64 0), (45, 0, .int .i64 0), (46, 0, .bool false), (47, 0, .bool false), (48, 0, .pointer (some ⟨bs, 0, none⟩)), (49, 0, .bool false), (50, 0, .bool false), (51, 0, .pointer (some ⟨br, 0, none⟩)), (52, 0, .int .i64 ((i : Nat) : Int)), (53, 0, .slice aw nw cw), (54, 0, .int .i64 ((nw : Nat) : Int)), (55, 0, .bool (decide (((i : Nat) : Int) < ((nw : Nat) : Int)))), (58, 0, .slice aw nw cw), (59, 0, .int .i64 ((i : Nat) : Int)), (60, 0, .pointer (some ⟨blk aw, off aw + i * 1, none⟩)), (61, 0, .int .u8 (nth way i)), (62, 0, .int .i64 (nth way i)), (63, 0, .int .i64 (((nth way i).toNat / 4 : Nat) : Int)), (10, 0, .slice q_.2.2.2.2.2.2.2.2.2.1 q_.2.1 q_.2.2.2.2.2.2.2.2.2.2.1), (11, 0, .slice q_.2.2.2.2.2.2.2.2.2.2.2.2.2.1 q_.2.2.2.2.2.2.2.2.2.2.2.2.1 q_.2.2.2.2.2.2.2.2.2.2.2.2.2.2.1), (12, 0, .slice q_.2.2.2.2.2.2.2.2.2.2.2.2.2.2.2.2.2.1 q_.2.2.2.2.2.2.2.2.2.2.2.2.2.2.2.2.1 q_.2.2.2.2.2.2.2.2.2.2.2.2.2.2.2.2.2.2)]) (H' := fun q_ => [Item.cells bs [.int .i64 (rm9 room), .int .i64 ((q_.2.1 : Nat) : Int), .int .i64 ((q_.2.2.1 : Nat) : Int), .slice q_.2.2.2.1 ((q_.2.1) - (q_.2.2.1)) q_.2.2.2.2.1] 57, Item.own w0.heap.size q_.2.2.2.1 ((q_.2.1) - (q_.2.2.1)) q_.2.2.2.2.1 32 4 (cellsOf enc32 (keptL (q_.1) (q_.2.2.1))), Item.cells br [.slice q_.2.2.2.2.2.2.2.1 q_.2.2.2.2.2.2.1 q_.2.2.2.2.2.2.2.2.1, .bool true] 60, Item.own w0.heap.size q_.2.2.2.2.2.2.2.1 q_.2.2.2.2.2.2.1 q_.2.2.2.2.2.2.2.2.1 9 1 (cellsOf encStr (q_.2.2.2.2.2.1)), Item.own w0.heap.size q_.2.2.2.2.2.2.2.2.2.1 q_.2.1 q_.2.2.2.2.2.2.2.2.2.2.1 9 1 (cellsOf encStr (q_.1)), Item.own w0.heap.size q_.2.2.2.2.2.2.2.2.2.2.2.2.2.1 q_.2.2.2.2.2.2.2.2.2.2.2.2.1 q_.2.2.2.2.2.2.2.2.2.2.2.2.2.2.1 32 4 (cellsOf enc32 (q_.2.2.2.2.2.2.2.2.2.2.2.1)), Item.own w0.heap.size q_.2.2.2.2.2.2.2.2.2.2.2.2.2.2.2.2.2.1 q_.2.2.2.2.2.2.2.2.2.2.2.2.2.2.2.2.1 q_.2.2.2.2.2.2.2.2.2.2.2.2.2.2.2.2.2.2 32 4 (cellsOf enc32 (q_.2.2.2.2.2.2.2.2.2.2.2.2.2.2.2.1))]) (I := fun q_ => q_.2.1 = q_.1.length ∧ q_.1.length ≤ nbd ∧ q_.2.2.2.2.2.2.1 = q_.2.2.2.2.2.1.length ∧ Pre q_.2.2.2.2.2.1 q_.1 ∧ q_.2.2.1 ≤ q_.2.2.2.2.2.1.length ∧ q_.2.2.2.2.2.2.2.2.2.2.2.2.1 = q_.2.2.2.2.2.2.2.2.2.2.2.1.length ∧ q_.2.2.2.2.2.2.2.2.2.2.2.1.length ≤ 1030 ∧ (∀ m ∈ q_.2.2.2.2.2.2.2.2.2.2.2.1, IsData q_.1 m) ∧ q_.2.2.2.2.2.2.2.2.2.2.2.2.2.2.2.2.1 = q_.2.2.2.2.2.2.2.2.2.2.2.2.2.2.2.1.length ∧ q_.2.2.2.2.2.2.2.2.2.2.2.2.2.2.2.1.length ≤ i + 1 ∧ (∀ m ∈ q_.2.2.2.2.2.2.2.2.2.2.2.2.2.2.2.1, IsAck q_.2.2.2.2.2.1.length m)) 7 ((B ++ [(nth bs_ B.length)], B.length + 1, d, ka2, kc2, R, R.length, ra, rc, ao1_, cap1_, O ++ [dataM ((B.length : Int) + 1) (nth bs_ B.length)], no + 1, ao2_, cap2_, K, nk, ba, bc)) (⟨by show _ = (B ++ [(nth bs_ B.length)]).length; first | rfl | omega | (simp <;> omega) | (simp only [List.length_append, keptL_len, List.length_cons, List.length_nil]; omega), by show (B ++ [(nth bs_ B.length)]).length ≤ nbd; first | omega | (simp only [List.length_append, keptL_len, List.length_cons, List.length_nil]; omega), by show _ = (R).length; first | rfl | omega | (simp <;> omega) | (simp only [List.length_append, keptL_len, List.length_cons, List.length_nil]; omega), hP.snoc _, by show d ≤ (R).length; exact hd, by show _ = (O ++ [dataM ((B.length : Int) + 1) (nth bs_ B.length)]).length; first | rfl | omega | (simp <;> omega) | (simp only [List.length_append, keptL_len, List.length_cons, List.length_nil]; omega), by show (O ++ [dataM ((B.length : Int) + 1) (nth bs_ B.length)]).length ≤ 1030; first | omega | (simp only [List.length_append, keptL_len, List.length_cons, List.length_nil]; omega), fun m hm => by rcases List.mem_append.1 hm with q | q; (exact (hO m q).snoc _); (rw [List.mem_singleton.1 q]; exact isData_new B _), by show _ = (K).length; first | rfl | omega | (simp <;> omega) | (simp only [List.length_append, keptL_len, List.length_cons, List.length_nil]; omega), by show (K).length ≤ i + 1; first | omega | (simp only [List.length_append, keptL_len, List.length_cons, List.length_nil]; omega), hK⟩) ⟨rfl, rfl, rfl, rfl, rfl, rfl, rfl, rfl, rfl, rfl, rfl, rfl, rfl, rfl, rfl, rfl, rfl, rfl, rfl, rfl, rfl, rfl, rfl, rfl, rfl, rfl, rfl, rfl, rfl, rfl, rfl, rfl, rfl, rfl, rfl, rfl, rfl, rfl, rfl, rfl, rfl, rfl, rfl, rfl, rfl, rfl, rfl, rfl, rfl, rfl, rfl, rfl, rfl, rfl, rfl, rfl, rfl, rfl, rfl, rfl, rfl, rfl, rfl, rfl, rfl, rfl, rfl, rfl, rfl, rfl, rfl, rfl, rfl, rfl, rfl, rfl, rfl, rfl, rfl, rfl, rfl, rfl, rfl, rfl, rfl, rfl, trivial⟩ rfl
            · try simp only [Bool.and_eq_true, Bool.or_eq_true, Bool.not_eq_true', Bool.not_eq_false', Bool.and_eq_false_iff, Bool.or_eq_false_iff, decide_eq_true_eq, decide_eq_false_iff_not, Int.not_lt, Int.not_le, ne_eq, Decidable.not_not] at h5
              have eB : sendB (rm9 room) B d (nth bs_ B.length) = B := if_neg (by assumption)
              rw [eB]
              refine WC.skip ?_
              refine QX.normal_in ?_
              refine QX.cutx (σ := List ByteArray × Nat × Nat × Option Addr × Nat × List ByteArray × Nat × Option Addr × Nat × Option Addr × Nat × List Msg × Nat × Option Addr × Nat × List Msg × Nat × Option Addr × Nat) (E' := fun q_ => [(0, 0, .slice abd nbd cbd), (1, 0, .int .i64 room), (2, 0, .slice aw nw cw), (7, 0, .pointer (some ⟨bs, 0, none⟩)), (8, 0, .int .i64 0), (9, 0, .pointer (some ⟨br, 0, none⟩)), (13, 0, .int .i64 ((i : Nat) : Int)), (14, 0, .int .i64 (((nth way i).toNat / 4 : Nat) : Int)), (23, 0, .slice abd nbd cbd), (24, 0, .bool lq), (25, 0, .bool lq), (29, 0, .bool (lq || (decide (30 < ((nbd : Nat) : Int))))), (30, 0, .bool (lq || (decide (30 < ((nbd : Nat) : Int))))), (34, 0, .bool ((lq || (decide (30 < ((nbd : Nat) : Int)))) || (decide (200 < ((nw : Nat) : Int))))), (36, 0, .tuple #[.pointer (some ⟨bs, 0, none⟩), .int .i64 0]), (37, 0, .int .i64 room), (38, 0, .int .u64 (IntKind.u64.wrap room)), (39, 0, .int .u64 ((IntKind.u64.wrap room).tmod 9)), (40, 0, .int .i64 (IntKind.i64.wrap ((IntKind.u64.wrap room).tmod 9))), (41, 0, .int .i64 (rm9 room)), (42, 0, .tuple #[.pointer (some ⟨bs, 0, none⟩), .int .i64 0]), (43, 0, .pointer (some ⟨bs, 0, none⟩)), (44, 0, .int .i64 0), (45, 0, .int .i64 0), (46, 0, .bool false), (47, 0, .bool false), (48, 0, .pointer (some ⟨bs, 0, none⟩)), (49, 0, .bool false), (50, 0, .bool false), (51, 0, .pointer (some ⟨br, 0, none⟩)), (52, 0, .int .i64 ((i : Nat) : Int)), (53, 0, .slice aw nw cw), (54, 0, .int .i64 ((nw : Nat) : Int)), (55, 0, .bool (decide (((i : Nat) : Int) < ((nw : Nat) : Int)))), (58, 0, .slice aw nw cw), (59, 0, .int .i64 ((i : Nat) : Int)), (60, 0, .pointer (some ⟨blk aw, off aw + i * 1, none⟩)), (61, 0, .int .u8 (nth way i)), (62, 0, .int .i64 (nth way i)), (63, 0, .int .i64 (((nth way i).toNat / 4 : Nat) : Int)), (10, 0, .slice q_.2.2.2.2.2.2.2.2.2.1 q_.2.1 q_.2.2.2.2.2.2.2.2.2.2.1), (11, 0, .slice q_.2.2.2.2.2.2.2.2.2.2.2.2.2.1 q_.2.2.2.2.2.2.2.2.2.2.2.2.1 q_.2.2.2.2.2.2.2.2.2.2.2.2.2.2.1), (12, 0, .slice q_.2.2.2.2.2.2.2.2.2.2.2.2.2.2.2.2.2.1 q_.2.2.2.2.2.2.2.2.2.2.2.2.2.2.2.2.1 q_.2.2.2.2.2.2.2.2.2.2.2.2.2.2.2.2.2.2)]) (H' := fun q_ => [Item.cells bs [.int .i64 (rm9 room), .int .i64 ((q_.2.1 : Nat) : Int), .int .i64 ((q_.2.2.1 : Nat) : Int), .slice q_.2.2.2.1 ((q_.2.1) - (q_.2.2.1)) q_.2.2.2.2.1] 57, Item.own w0.heap.size q_.2.2.2.1 ((q_.2.1) - (q_.2.2.1)) q_.2.2.2.2.1 32 4 (cellsOf enc32 (keptL (q_.1) (q_.2.2.1))), Item.cells br [.slice q_.2.2.2.2.2.2.2.1 q_.2.2.2.2.2.2.1 q_.2.2.2.2.2.2.2.2.1, .bool true] 60, Item.own w0.heap.size q_.2.2.2.2.2.2.2.1 q_.2.2.2.2.2.2.1 q_.2.2.2.2.2.2.2.2.1 9 1 (cellsOf encStr (q_.2.2.2.2.2.1)), Item.own w0.heap.size q_.2.2.2.2.2.2.2.2.2.1 q_.2.1 q_.2.2.2.2.2.2.2.2.2.2.1 9 1 (cellsOf encStr (q_.1)), Item.own w0.heap.size q_.2.2.2.2.2.2.2.2.2.2.2.2.2.1 q_.2.2.2.2.2.2.2.2.2.2.2.2.1 q_.2.2.2.2.2.2.2.2.2.2.2.2.2.2.1 32 4 (cellsOf enc32 (q_.2.2.2.2.2.2.2.2.2.2.2.1)), Item.own w0.heap.size q_.2.2.2.2.2.2.2.2.2.2.2.2.2.2.2.2.2.1 q_.2.2.2.2.2.2.2.2.2.2.2.2.2.2.2.2.1 q_.2.2.2.2.2.2.2.2.2.2.2.2.2.2.2.2.2.2 32 4 (cellsOf enc32 (q_.2.2.2.2.2.2.2.2.2.2.2.2.2.2.2.1))]) (I := fun q_ => q_.2.1 = q_.1.length ∧ q_.1.length ≤ nbd ∧ q_.2.2.2.2.2.2.1 = q_.2.2.2.2.2.1.length ∧ Pre q_.2.2.2.2.2.1 q_.1 ∧ q_.2.2.1 ≤ q_.2.2.2.2.2.1.length ∧ q_.2.2.2.2.2.2.2.2.2.2.2.2.1 = q_.2.2.2.2.2.2.2.2.2.2.2.1.length ∧ q_.2.2.2.2.2.2.2.2.2.2.2.1.length ≤ 1030 ∧ (∀ m ∈ q_.2.2.2.2.2.2.2.2.2.2.2.1, IsData q_.1 m) ∧ q_.2.2.2.2.2.2.2.2.2.2.2.2.2.2.2.2.1 = q_.2.2.2.2.2.2.2.2.2.2.2.2.2.2.2.1.length ∧ q_.2.2.2.2.2.2.2.2.2.2.2.2.2.2.2.1.length ≤ i + 1 ∧ (∀ m ∈ q_.2.2.2.2.2.2.2.2.2.2.2.2.2.2.2.1, IsAck q_.2.2.2.2.2.1.length m)) 7 ((B, B.length, d, ka2, kc2, R, R.length, ra, rc, sa, sc, O, no, oa, oc, K, nk, ba, bc)) (⟨by show _ = (B).length; first | rfl | omega | (simp <;> omega) | (simp only [List.length_append, keptL_len, List.length_cons, List.length_nil]; omega), by show (B).length ≤ nbd; first | omega | (simp only [List.length_append, keptL_len, List.length_cons, List.length_nil]; omega), by show _ = (R).length; first | rfl | omega | (simp <;> omega) | (simp only [List.length_append, keptL_len, List.length_cons, List.length_nil]; omega), hP, by show d ≤ (R).length; exact hd, by show _ = (O).length; first | rfl | omega | (simp <;> omega) | (simp only [List.length_append, keptL_len, List.length_cons, List.length_nil]; omega), by show (O).length ≤ 1030; first | omega | (simp only [List.length_append, keptL_len, List.length_cons, List.length_nil]; omega), hO, by show _ = (K).length; first | rfl | omega | (simp <;> omega) | (simp only [List.length_append, keptL_len, List.length_cons, List.length_nil]; omega), by show (K).length ≤ i + 1; first | omega | (simp only [List.length_append, keptL_len, List.length_cons, List.length_nil]; omega), hK⟩) ⟨rfl, rfl, rfl, rfl, rfl, rfl, rfl, rfl, rfl, rfl, rfl, rfl, rfl, rfl, rfl, rfl, rfl, rfl, rfl, rfl, rfl, rfl, rfl, rfl, rfl, rfl, rfl, rfl, rfl, rfl, rfl, rfl, rfl, rfl, rfl, rfl, rfl, rfl, rfl, rfl, rfl, rfl, rfl, rfl, rfl, rfl, rfl, rfl, rfl, rfl, rfl, rfl, rfl, rfl, rfl, rfl, rfl, rfl, rfl, rfl, rfl, rfl, rfl, rfl, rfl, rfl, rfl, rfl, rfl, rfl, rfl, rfl, rfl, rfl, rfl, rfl, rfl, rfl, rfl, rfl, rfl, rfl, rfl, rfl, rfl, rfl, trivial⟩ rfl
          · try simp only [Bool.and_eq_true, Bool.or_eq_true, Bool.not_eq_true', Bool.not_eq_false', Bool.and_eq_false_iff, Bool.or_eq_false_iff, decide_eq_true_eq, decide_eq_false_iff_not, Int.not_lt, Int.not_le, ne_eq, Decidable.not_not] at h4
            refine WC.skip ?_
            refine QX.normal_in ?_
            refine QX.cutx (σ := List ByteArray × Nat × Nat × Option Addr × Nat × List ByteArray × Nat × Option Addr × Nat × Option Addr × Nat × List Msg × Nat × Option Addr × Nat × List Msg × Nat × Option Addr × Nat) (E' := fun q_ => [(0, 0, .slice abd nbd cbd), (1, 0, .int .i64 room), (2, 0, .slice aw nw cw), (7, 0, .pointer (some ⟨bs, 0, none⟩)), (8, 0, .int .i64 0), (9, 0, .pointer (some ⟨br, 0, none⟩)), (13, 0, .int .i64 ((i : Nat) : Int)), (14, 0, .int .i64 (((nth way i).toNat / 4 : Nat) : Int)), (23, 0, .slice abd nbd cbd), (24, 0, .bool lq), (25, 0, .bool lq), (29, 0, .bool (lq || (decide (30 < ((nbd : Nat) : Int))))), (30, 0, .bool (lq || (decide (30 < ((nbd : Nat) : Int))))), (34, 0, .bool ((lq || (decide (30 < ((nbd : Nat) : Int)))) || (decide (200 < ((nw : Nat) : Int))))), (36, 0, .tuple #[.pointer (some ⟨bs, 0, none⟩), .int .i64 0]), (37, 0, .int .i64 room), (38, 0, .int .u64 (IntKind.u64.wrap room)), (39, 0, .int .u64 ((IntKind.u64.wrap room).tmod 9)), (40, 0, .int .i64 (IntKind.i64.wrap ((IntKind.u64.wrap room).tmod 9))), (41, 0, .int .i64 (rm9 room)), (42, 0, .tuple #[.pointer (some ⟨bs, 0, none⟩), .int .i64 0]), (43, 0, .pointer (some ⟨bs, 0, none⟩)), (44, 0, .int .i64 0), (45, 0, .int .i64 0), (46, 0, .bool false), (47, 0, .bool false), (48, 0, .pointer (some ⟨bs, 0, none⟩)), (49, 0, .bool false), (50, 0, .bool false), (51, 0, .pointer (some ⟨br, 0, none⟩)), (52, 0, .int .i64 ((i : Nat) : Int)), (53, 0, .slice aw nw cw), (54, 0, .int .i64 ((nw : Nat) : Int)), (55, 0, .bool (decide (((i : Nat) : Int) < ((nw : Nat) : Int)))), (58, 0, .slice aw nw cw), (59, 0, .int .i64 ((i : Nat) : Int)), (60, 0, .pointer (some ⟨blk aw, off aw + i * 1, none⟩)), (61, 0, .int .u8 (nth way i)), (62, 0, .int .i64 (nth way i)), (63, 0, .int .i64 (((nth way i).toNat / 4 : Nat) : Int)), (10, 0, .slice q_.2.2.2.2.2.2.2.2.2.1 q_.2.1 q_.2.2.2.2.2.2.2.2.2.2.1), (11, 0, .slice q_.2.2.2.2.2.2.2.2.2.2.2.2.2.1 q_.2.2.2.2.2.2.2.2.2.2.2.2.1 q_.2.2.2.2.2.2.2.2.2.2.2.2.2.2.1), (12, 0, .slice q_.2.2.2.2.2.2.2.2.2.2.2.2.2.2.2.2.2.1 q_.2.2.2.2.2.2.2.2.2.2.2.2.2.2.2.2.1 q_.2.2.2.2.2.2.2.2.2.2.2.2.2.2.2.2.2.2)]) (H' := fun q_ => [Item.cells bs [.int .i64 (rm9 room), .int .i64 ((q_.2.1 : Nat) : Int), .int .i64 ((q_.2.2.1 : Nat) : Int), .slice q_.2.2.2.1 ((q_.2.1) - (q_.2.2.1)) q_.2.2.2.2.1] 57, Item.own w0.heap.size q_.2.2.2.1 ((q_.2.1) - (q_.2.2.1)) q_.2.2.2.2.1 32 4 (cellsOf enc32 (keptL (q_.1) (q_.2.2.1))), Item.cells br [.slice q_.2.2.2.2.2.2.2.1 q_.2.2.2.2.2.2.1 q_.2.2.2.2.2.2.2.2.1, .bool true] 60, Item.own w0.heap.size q_.2.2.2.2.2.2.2.1 q_.2.2.2.2.2.2.1 q_.2.2.2.2.2.2.2.2.1 9 1 (cellsOf encStr (q_.2.2.2.2.2.1)), Item.own w0.heap.size q_.2.2.2.2.2.2.2.2.2.1 q_.2.1 q_.2.2.2.2.2.2.2.2.2.2.1 9 1 (cellsOf encStr (q_.1)), Item.own w0.heap.size q_.2.2.2.2.2.2.2.2.2.2.2.2.2.1 q_.2.2.2.2.2.2.2.2.2.2.2.2.1 q_.2.2.2.2.2.2.2.2.2.2.2.2.2.2.1 32 4 (cellsOf enc32 (q_.2.2.2.2.2.2.2.2.2.2.2.1)), Item.own w0.heap.size q_.2.2.2.2.2.2.2.2.2.2.2.2.2.2.2.2.2.1 q_.2.2.2.2.2.2.2.2.2.2.2.2.2.2.2.2.1 q_.2.2.2.2.2.2.2.2.2.2.2.2.2.2.2.2.2.2 32 4 (cellsOf enc32 (q_.2.2.2.2.2.2.2.2.2.2.2.2.2.2.2.1))]) (I := fun q_ => q_.2.1 = q_.1.length ∧ q_.1.length ≤ nbd ∧ q_.2.2.2.2.2.2.1 = q_.2.2.2.2.2.1.length ∧ Pre q_.2.2.2.2.2.1 q_.1 ∧ q_.2.2.1 ≤ q_.2.2.2.2.2.1.length ∧ q_.2.2.2.2.2.2.2.2.2.2.2.2.1 = q_.2.2.2.2.2.2.2.2.2.2.2.1.length ∧ q_.2.2.2.2.2.2.2.2.2.2.2.1.length ≤ 1030 ∧ (∀ m ∈ q_.2.2.2.2.2.2.2.2.2.2.2.1, IsData q_.1 m) ∧ q_.2.2.2.2.2.2.2.2.2.2.2.2.2.2.2.2.1 = q_.2.2.2.2.2.2.2.2.2.2.2.2.2.2.2.1.length ∧ q_.2.2.2.2.2.2.2.2.2.2.2.2.2.2.2.1.length ≤ i + 1 ∧ (∀ m ∈ q_.2.2.2.2.2.2.2.2.2.2.2.2.2.2.2.1, IsAck q_.2.2.2.2.2.1.length m)) 7 ((B, B.length, d, ka, kc, R, R.length, ra, rc, sa, sc, O, no, oa, oc, K, nk, ba, bc)) (⟨by show _ = (B).length; first | rfl | omega | (simp <;> omega) | (simp only [List.length_append, keptL_len, List.length_cons, List.length_nil]; omega), by show (B).length ≤ nbd; first | omega | (simp only [List.length_append, keptL_len, List.length_cons, List.length_nil]; omega), by show _ = (R).length; first | rfl | omega | (simp <;> omega) | (simp only [List.length_append, keptL_len, List.length_cons, List.length_nil]; omega), hP, by show d ≤ (R).length; exact hd, by show _ = (O).length; first | rfl | omega | (simp <;> omega) | (simp only [List.length_append, keptL_len, List.length_cons, List.length_nil]; omega), by show (O).length ≤ 1030; first | omega | (simp only [List.length_append, keptL_len, List.length_cons, List.length_nil]; omega), hO, by show _ = (K).length; first | rfl | omega | (simp <;> omega) | (simp only [List.length_append, keptL_len, List.length_cons, List.length_nil]; omega), by show (K).length ≤ i + 1; first | omega | (simp only [List.length_append, keptL_len, List.length_cons, List.length_nil]; omega), hK⟩) ⟨rfl, rfl, rfl, rfl, rfl, rfl, rfl, rfl, rfl, rfl, rfl, rfl, rfl, rfl, rfl, rfl, rfl, rfl, rfl, rfl, rfl, rfl, rfl, rfl, rfl, rfl, rfl, rfl, rfl, rfl, rfl, rfl, rfl, rfl, rfl, rfl, rfl, rfl, rfl, rfl, rfl, rfl, rfl, rfl, rfl, rfl, rfl, rfl, rfl, rfl, rfl, rfl, rfl, rfl, rfl, rfl, rfl, rfl, rfl, rfl, rfl, rfl, rfl, rfl, rfl, rfl, rfl, rfl, rfl, rfl, rfl, rfl, rfl, rfl, rfl, rfl, rfl, rfl, rfl, rfl, rfl, rfl, rfl, rfl, rfl, rfl, trivial⟩ rfl
        · try simp only [Bool.and_eq_true, Bool.or_eq_true, Bool.not_eq_true', Bool.not_eq_false', Bool.and_eq_false_iff, Bool.or_eq_false_iff, decide_eq_true_eq, decide_eq_false_iff_not, Int.not_lt, Int.not_le, ne_eq, Decidable.not_not] at h3
          refine WC.seq ?_
          refine WC.region ?_
          refine SL.pure rfl rfl rfl (PureOp.eql rfl rfl) ?_
          refine SL.pure rfl rfl rfl (PureOp.assign rfl) ?_
          refine SL.nil_then ?_
          refine WC.cond rfl (fun h6 => ?_) (fun h6 => ?_)
          · try simp only [Bool.and_eq_true, Bool.or_eq_true, Bool.not_eq_true', Bool.not_eq_false', Bool.and_eq_false_iff, Bool.or_eq_false_iff, decide_eq_true_eq, decide_eq_false_iff_not, Int.not_lt, Int.not_le, ne_eq, Decidable.not_not] at h6
            refine WC.region ?_
            refine SL.pure rfl rfl rfl (PureOp.move rfl) ?_
            refine SL.pure rfl rfl rfl (PureOp.move rfl) ?_
            refine SL.callo (fun aa ac => .slice aa (B.length - d) ac) rfl rfl rfl rfl rfl rfl callable15 (fun w hw => sagain_ok bs (rm9 room) B d _ _ _ (rm9_bd room).1 (by omega) rfl (by omega) w (ObjIn.of hw 0 rfl) (SliceIn.rows (hw.mem (i := 1) rfl) enc32_len (by rw [keptL_len]; exact Nat.le_refl _))) (fun aa ac => ?_)
            refine SL.norm [_, _, _, _, _, _, _, _] rfl ?_
            refine SL.append 5 rfl rfl Try.underlying39 elem32 rfl rfl rfl rfl (SrcIs.own 7 rfl) (by exact all_one_cells (fun x => rfl) (keptL B d)) (by (first | omega | decide | (constructor <;> decide) | (have q := u64_bd room; omega) | (have q := rm9_bd room; unfold rm9 at q; omega) | exact Nat.mod_lt _ (by omega) | (have q := (hway i (by omega)); obtain ⟨x, hx⟩ : ∃ x : Nat, nth way i = x := ⟨(nth way i).toNat, by omega⟩; rw [hx]; refine ⟨by decide, ?_⟩; show -9223372036854775808 ≤ ((x / 4 : Nat) : Int) ∧ ((x / 4 : Nat) : Int) ≤ _; omega))) (by (first | omega | decide | (constructor <;> decide) | (have q := u64_bd room; omega) | (have q := rm9_bd room; unfold rm9 at q; omega) | exact Nat.mod_lt _ (by omega) | (have q := (hway i (by omega)); obtain ⟨x, hx⟩ : ∃ x : Nat, nth way i = x := ⟨(nth way i).toNat, by omega⟩; rw [hx]; refine ⟨by decide, ?_⟩; show -9223372036854775808 ≤ ((x / 4 : Nat) : Int) ∧ ((x / 4 : Nat) : Int) ≤ _; omega))) (fun ao3_ cap3_ => ?_)
            refine SL.itemxs 5 rfl (show _ = cellsOf enc32 (O ++ keptL B d) from (cellsOf_append enc32 O (keptL B d)).symm) ?_
            refine SL.norm [_, _, _, _, _, _, _, _] rfl ?_
            refine SL.pure rfl rfl rfl (PureOp.assign rfl) ?_
            refine SL.nil ?_
            refine QX.normal_in ?_
            refine QX.cutx (σ := List ByteArray × Nat × Nat × Option Addr × Nat × List ByteArray × Nat × Option Addr × Nat × Option Addr × Nat × List Msg × Nat × Option Addr × Nat × List Msg × Nat × Option Addr × Nat) (E' := fun q_ => [(0, 0, .slice abd nbd cbd), (1, 0, .int .i64 room), (2, 0, .slice aw nw cw), (7, 0, .pointer (some ⟨bs, 0, none⟩)), (8, 0, .int .i64 0), (9, 0, .pointer (some ⟨br, 0, none⟩)), (13, 0, .int .i64 ((i : Nat) : Int)), (14, 0, .int .i64 (((nth way i).toNat / 4 : Nat) : Int)), (23, 0, .slice abd nbd cbd), (24, 0, .bool lq), (25, 0, .bool lq), (29, 0, .bool (lq || (decide (30 < ((nbd : Nat) : Int))))), (30, 0, .bool (lq || (decide (30 < ((nbd : Nat) : Int))))), (34, 0, .bool ((lq || (decide (30 < ((nbd : Nat) : Int)))) || (decide (200 < ((nw : Nat) : Int))))), (36, 0, .tuple #[.pointer (some ⟨bs, 0, none⟩), .int .i64 0]), (37, 0, .int .i64 room), (38, 0, .int .u64 (IntKind.u64.wrap room)), (39, 0, .int .u64 ((IntKind.u64.wrap room).tmod 9)), (40, 0, .int .i64 (IntKind.i64.wrap ((IntKind.u64.wrap room).tmod 9))), (41, 0, .int .i64 (rm9 room)), (42, 0, .tuple #[.pointer (some ⟨bs, 0, none⟩), .int .i64 0]), (43, 0, .pointer (some ⟨bs, 0, none⟩)), (44, 0, .int .i64 0), (45, 0, .int .i64 0), (46, 0, .bool false), (47, 0, .bool false), (48, 0, .pointer (some ⟨bs, 0, none⟩)), (49, 0, .bool false), (50, 0, .bool false), (51, 0, .pointer (some ⟨br, 0, none⟩)), (52, 0, .int .i64 ((i : Nat) : Int)), (53, 0, .slice aw nw cw), (54, 0, .int .i64 ((nw : Nat) : Int)), (55, 0, .bool (decide (((i : Nat) : Int) < ((nw : Nat) : Int)))), (58, 0, .slice aw nw cw), (59, 0, .int .i64 ((i : Nat) : Int)), (60, 0, .pointer (some ⟨blk aw, off aw + i * 1, none⟩)), (61, 0, .int .u8 (nth way i)), (62, 0, .int .i64 (nth way i)), (63, 0, .int .i64 (((nth way i).toNat / 4 : Nat) : Int)), (10, 0, .slice q_.2.2.2.2.2.2.2.2.2.1 q_.2.1 q_.2.2.2.2.2.2.2.2.2.2.1), (11, 0, .slice q_.2.2.2.2.2.2.2.2.2.2.2.2.2.1 q_.2.2.2.2.2.2.2.2.2.2.2.2.1 q_.2.2.2.2.2.2.2.2.2.2.2.2.2.2.1), (12, 0, .slice q_.2.2.2.2.2.2.2.2.2.2.2.2.2.2.2.2.2.1 q_.2.2.2.2.2.2.2.2.2.2.2.2.2.2.2.2.1 q_.2.2.2.2.2.2.2.2.2.2.2.2.2.2.2.2.2.2)]) (H' := fun q_ => [Item.cells bs [.int .i64 (rm9 room), .int .i64 ((q_.2.1 : Nat) : Int), .int .i64 ((q_.2.2.1 : Nat) : Int), .slice q_.2.2.2.1 ((q_.2.1) - (q_.2.2.1)) q_.2.2.2.2.1] 57, Item.own w0.heap.size q_.2.2.2.1 ((q_.2.1) - (q_.2.2.1)) q_.2.2.2.2.1 32 4 (cellsOf enc32 (keptL (q_.1) (q_.2.2.1))), Item.cells br [.slice q_.2.2.2.2.2.2.2.1 q_.2.2.2.2.2.2.1 q_.2.2.2.2.2.2.2.2.1, .bool true] 60, Item.own w0.heap.size q_.2.2.2.2.2.2.2.1 q_.2.2.2.2.2.2.1 q_.2.2.2.2.2.2.2.2.1 9 1 (cellsOf encStr (q_.2.2.2.2.2.1)), Item.own w0.heap.size q_.2.2.2.2.2.2.2.2.2.1 q_.2.1 q_.2.2.2.2.2.2.2.2.2.2.1 9 1 (cellsOf encStr (q_.1)), Item.own w0.heap.size q_.2.2.2.2.2.2.2.2.2.2.2.2.2.1 q_.2.2.2.2.2.2.2.2.2.2.2.2.1 q_.2.2.2.2.2.2.2.2.2.2.2.2.2.2.1 32 4 (cellsOf enc32 (q_.2.2.2.2.2.2.2.2.2.2.2.1)), Item.own w0.heap.size q_.2.2.2.2.2.2.2.2.2.2.2.2.2.2.2.2.2.1 q_.2.2.2.2.2.2.2.2.2.2.2.2.2.2.2.2.1 q_.2.2.2.2.2.2.2.2.2.2.2.2.2.2.2.2.2.2 32 4 (cellsOf enc32 (q_.2.2.2.2.2.2.2.2.2.2.2.2.2.2.2.1))]) (I := fun q_ => q_.2.1 = q_.1.length ∧ q_.1.length ≤ nbd ∧ q_.2.2.2.2.2.2.1 = q_.2.2.2.2.2.1.length ∧ Pre q_.2.2.2.2.2.1 q_.1 ∧ q_.2.2.1 ≤ q_.2.2.2.2.2.1.length ∧ q_.2.2.2.2.2.2.2.2.2.2.2.2.1 = q_.2.2.2.2.2.2.2.2.2.2.2.1.length ∧ q_.2.2.2.2.2.2.2.2.2.2.2.1.length ≤ 1030 ∧ (∀ m ∈ q_.2.2.2.2.2.2.2.2.2.2.2.1, IsData q_.1 m) ∧ q_.2.2.2.2.2.2.2.2.2.2.2.2.2.2.2.2.1 = q_.2.2.2.2.2.2.2.2.2.2.2.2.2.2.2.1.length ∧ q_.2.2.2.2.2.2.2.2.2.2.2.2.2.2.2.1.length ≤ i + 1 ∧ (∀ m ∈ q_.2.2.2.2.2.2.2.2.2.2.2.2.2.2.2.1, IsAck q_.2.2.2.2.2.1.length m)) 7 ((B, B.length, d, ka, kc, R, R.length, ra, rc, sa, sc, O ++ keptL B d, no + (B.length - d), ao3_, cap3_, K, nk, ba, bc)) (⟨by show _ = (B).length; first | rfl | omega | (simp <;> omega) | (simp only [List.length_append, keptL_len, List.length_cons, List.length_nil]; omega), by show (B).length ≤ nbd; first | omega | (simp only [List.length_append, keptL_len, List.length_cons, List.length_nil]; omega), by show _ = (R).length; first | rfl | omega | (simp <;> omega) | (simp only [List.length_append, keptL_len, List.length_cons, List.length_nil]; omega), hP, by show d ≤ (R).length; exact hd, by show _ = (O ++ keptL B d).length; first | rfl | omega | (simp <;> omega) | (simp only [List.length_append, keptL_len, List.length_cons, List.length_nil]; omega), by show (O ++ keptL B d).length ≤ 1030; first | omega | (simp only [List.length_append, keptL_len, List.length_cons, List.length_nil]; omega), fun m hm => by rcases List.mem_append.1 hm with q | q; (exact hO m q); (exact isData_kept q), by show _ = (K).length; first | rfl | omega | (simp <;> omega) | (simp only [List.length_append, keptL_len, List.length_cons, List.length_nil]; omega), by show (K).length ≤ i + 1; first | omega | (simp only [List.length_append, keptL_len, List.length_cons, List.length_nil]; omega), hK⟩) ⟨rfl, rfl, rfl, rfl, rfl, rfl, rfl, rfl, rfl, rfl, rfl, rfl, rfl, rfl, rfl, rfl, rfl, rfl, rfl, rfl, rfl, rfl, rfl, rfl, rfl, rfl, rfl, rfl, rfl, rfl, rfl, rfl, rfl, rfl, rfl, rfl, rfl, rfl, rfl, rfl, rfl, rfl, rfl, rfl, rfl, rfl, rfl, rfl, rfl, rfl, rfl, rfl, rfl, rfl, rfl, rfl, rfl, rfl, rfl, rfl, rfl, rfl, rfl, rfl, rfl, rfl, rfl, rfl, rfl, rfl, rfl, rfl, rfl, rfl, rfl, rfl, rfl, rfl, rfl, rfl, rfl, rfl, rfl, rfl, rfl, rfl, trivial⟩ rfl
          · try simp only [Bool.and_eq_true, Bool.or_eq_true, Bool.not_eq_true', Bool.not_eq_false', Bool.and_eq_false_iff, Bool.or_eq_false_iff, decide_eq_true_eq, decide_eq_false_iff_not, Int.not_lt, Int.not_le, ne_eq, Decidable.not_not] at h6
            refine WC.seq ?_
            refine WC.region ?_
            refine SL.pure rfl rfl rfl (PureOp.eql rfl rfl) ?_
            refine SL.pure rfl rfl rfl (PureOp.assign rfl) ?_
            refine SL.nil_then ?_
            refine WC.cond rfl (fun h7 => ?_) (fun h7 => ?_)
            · try simp only [Bool.and_eq_true, Bool.or_eq_true, Bool.not_eq_true', Bool.not_eq_false', Bool.and_eq_false_iff, Bool.or_eq_false_iff, decide_eq_true_eq, decide_eq_false_iff_not, Int.not_lt, Int.not_le, ne_eq, Decidable.not_not] at h7
              refine WC.seq ?_
              refine WC.region ?_
              refine SL.pure rfl rfl rfl (PureOp.move rfl) ?_
              refine SL.pure rfl rfl rfl (PureOp.len rfl Try.underlying39) ?_
              refine SL.pure rfl rfl rfl (PureOp.gtr rfl rfl) ?_
              refine SL.nil_then ?_
              refine WC.cond rfl (fun h8 => ?_) (fun h8 => ?_)
              · try simp only [Bool.and_eq_true, Bool.or_eq_true, Bool.not_eq_true', Bool.not_eq_false', Bool.and_eq_false_iff, Bool.or_eq_false_iff, decide_eq_true_eq, decide_eq_false_iff_not, Int.not_lt, Int.not_le, ne_eq, Decidable.not_not] at h8
                refine WC.seq ?_
                refine WC.region ?_
                refine SL.pure rfl rfl rfl (PureOp.move rfl) ?_
                refine SL.pure rfl rfl rfl (PureOp.move rfl) ?_
                refine SL.pure rfl rfl rfl (PureOp.move rfl) ?_
                refine SL.pure rfl rfl rfl (PureOp.move rfl) ?_
                refine SL.pure rfl rfl rfl (PureOp.len rfl Try.underlying39) ?_
                refine SL.pure rfl rfl rfl (PureOp.rem rfl rfl (fun _ => by (first | omega | decide | (constructor <;> decide) | (have q := u64_bd room; omega) | (have q := rm9_bd room; unfold rm9 at q; omega) | exact Nat.mod_lt _ (by omega) | (have q := (hway i (by omega)); obtain ⟨x, hx⟩ : ∃ x : Nat, nth way i = x := ⟨(nth way i).toNat, by omega⟩; rw [hx]; refine ⟨by decide, ?_⟩; show -9223372036854775808 ≤ ((x / 4 : Nat) : Int) ∧ ((x / 4 : Nat) : Int) ≤ _; omega)))) ?_
                refine SL.pure rfl rfl rfl (PureOp.indexAddrN Try.underlying39 sz32 rfl rfl (AoOk.own 5 rfl) (fun _ => by (first | omega | decide | (constructor <;> decide) | (have q := u64_bd room; omega) | (have q := rm9_bd room; unfold rm9 at q; omega) | exact Nat.mod_lt _ (by omega) | (have q := (hway i (by omega)); obtain ⟨x, hx⟩ : ∃ x : Nat, nth way i = x := ⟨(nth way i).toNat, by omega⟩; rw [hx]; refine ⟨by decide, ?_⟩; show -9223372036854775808 ≤ ((x / 4 : Nat) : Int) ∧ ((x / 4 : Nat) : Int) ≤ _; omega)))) ?_
                refine SL.pure rfl rfl rfl (PureOp.loads (vs := [.int .i64 ((nth O ((nth way i).toNat / 4 % no)).1), .int .i64 ((nth O ((nth way i).toNat / 4 % no)).2.1), .int .i64 ((nth O ((nth way i).toNat / 4 % no)).2.2.1), .string ((nth O ((nth way i).toNat / 4 % no)).2.2.2)]) Try.underlying32 rfl rfl (fun _ => (RowIs.ownc 5 rfl ((nth way i).toNat / 4 % no) 0 4 (rowsF enc32 O _) (fun j hj => cellsOf_get enc32_len O _ _ (by rw [← hno]; exact Nat.mod_lt _ (by omega)) (by omega)))) sz32) ?_
                refine SL.callM [2, 3] rfl rfl rfl rfl rfl rfl callable23 (by decide) (recv_ok br R ra rc (by omega) w0 (nth O ((nth way i).toNat / 4 % no))) rfl (fun _ _ => rfl) ?_
                rintro ⟨ra2, rc2⟩ _
                refine SL.norm [_, _, _, _, _, _, _] rfl ?_
                refine SL.pure rfl rfl rfl (PureOp.move rfl) ?_
                refine SL.pure rfl rfl rfl (PureOp.extract rfl rfl) ?_
                refine SL.pure rfl rfl rfl (PureOp.extract rfl rfl) ?_
                refine SL.alloc rfl rfl zero32 (fun b4 hb4 => ?_)
                refine SL.norm [_, _, _, _, _, _, _, _] rfl ?_
                refine SL.store 7 rfl rfl rfl rfl sz32 rfl rfl ?_
                refine SL.norm [_, _, _, _, _, _, _, _] rfl ?_
                refine SL.pure rfl rfl rfl (PureOp.assign rfl) ?_
                refine SL.nil_then ?_
                refine WC.region ?_
                refine SL.pure rfl rfl rfl (PureOp.move rfl) ?_
                refine SL.pure rfl rfl rfl (PureOp.loads (vs := [.int .i64 ((recvM R (nth O ((nth way i).toNat / 4 % no))).1), .int .i64 ((recvM R (nth O ((nth way i).toNat / 4 % no))).2.1), .int .i64 ((recvM R (nth O ((nth way i).toNat / 4 % no))).2.2.1), .string ((recvM R (nth O ((nth way i).toNat / 4 % no))).2.2.2)]) Try.underlying32 rfl rfl (fun _ => (RowIs.cells 7 0 4 rfl rfl)) sz32) ?_
                refine SL.buildSlice rfl rfl Try.underlying39 elem32 rfl rfl rfl rfl (fun b5 hb5 => ?_)
                refine SL.norm [_, _, _, _, _, _, _, _, _] rfl ?_
                refine SL.append 6 rfl rfl Try.underlying39 elem32 rfl rfl rfl rfl (SrcIs.own 8 rfl) (by rfl) (by (first | omega | decide | (constructor <;> decide) | (have q := u64_bd room; omega) | (have q := rm9_bd room; unfold rm9 at q; omega) | exact Nat.mod_lt _ (by omega) | (have q := (hway i (by omega)); obtain ⟨x, hx⟩ : ∃ x : Nat, nth way i = x := ⟨(nth way i).toNat, by omega⟩; rw [hx]; refine ⟨by decide, ?_⟩; show -9223372036854775808 ≤ ((x / 4 : Nat) : Int) ∧ ((x / 4 : Nat) : Int) ≤ _; omega))) (by (first | omega | decide | (constructor <;> decide) | (have q := u64_bd room; omega) | (have q := rm9_bd room; unfold rm9 at q; omega) | exact Nat.mod_lt _ (by omega) | (have q := (hway i (by omega)); obtain ⟨x, hx⟩ : ∃ x : Nat, nth way i = x := ⟨(nth way i).toNat, by omega⟩; rw [hx]; refine ⟨by decide, ?_⟩; show -9223372036854775808 ≤ ((x / 4 : Nat) : Int) ∧ ((x / 4 : Nat) : Int) ≤ _; omega))) (fun ao4_ cap4_ => ?_)
                refine SL.itemxs 6 rfl (show _ = cellsOf enc32 (K ++ [recvM R (nth O ((nth way i).toNat / 4 % no))]) from by rw [cellsOf_append (l := K), cellsOf_one]; rfl) ?_
                refine SL.norm [_, _, _, _, _, _, _, _, _] rfl ?_
                refine SL.pure rfl rfl rfl (PureOp.assign rfl) ?_
                refine SL.nil ?_
                refine QX.normal_in ?_
                refine QX.cutx (σ := List ByteArray × Nat × Nat × Option Addr × Nat × List ByteArray × Nat × Option Addr × Nat × Option Addr × Nat × List Msg × Nat × Option Addr × Nat × List Msg × Nat × Option Addr × Nat) (E' := fun q_ => [(0, 0, .slice abd nbd cbd), (1, 0, .int .i64 room), (2, 0, .slice aw nw cw), (7, 0, .pointer (some ⟨bs, 0, none⟩)), (8, 0, .int .i64 0), (9, 0, .pointer (some ⟨br, 0, none⟩)), (13, 0, .int .i64 ((i : Nat) : Int)), (14, 0, .int .i64 (((nth way i).toNat / 4 : Nat) : Int)), (23, 0, .slice abd nbd cbd), (24, 0, .bool lq), (25, 0, .bool lq), (29, 0, .bool (lq || (decide (30 < ((nbd : Nat) : Int))))), (30, 0, .bool (lq || (decide (30 < ((nbd : Nat) : Int))))), (34, 0, .bool ((lq || (decide (30 < ((nbd : Nat) : Int)))) || (decide (200 < ((nw : Nat) : Int))))), (36, 0, .tuple #[.pointer (some ⟨bs, 0, none⟩), .int .i64 0]), (37, 0, .int .i64 room), (38, 0, .int .u64 (IntKind.u64.wrap room)), (39, 0, .int .u64 ((IntKind.u64.wrap room).tmod 9)), (40, 0, .int .i64 (IntKind.i64.wrap ((IntKind.u64.wrap room).tmod 9))), (41, 0, .int .i64 (rm9 room)), (42, 0, .tuple #[.pointer (some ⟨bs, 0, none⟩), .int .i64 0]), (43, 0, .pointer (some ⟨bs, 0, none⟩)), (44, 0, .int .i64 0), (45, 0, .int .i64 0), (46, 0, .bool false), (47, 0, .bool false), (48, 0, .pointer (some ⟨bs, 0, none⟩)), (49, 0, .bool false), (50, 0, .bool false), (51, 0, .pointer (some ⟨br, 0, none⟩)), (52, 0, .int .i64 ((i : Nat) : Int)), (53, 0, .slice aw nw cw), (54, 0, .int .i64 ((nw : Nat) : Int)), (55, 0, .bool (decide (((i : Nat) : Int) < ((nw : Nat) : Int)))), (58, 0, .slice aw nw cw), (59, 0, .int .i64 ((i : Nat) : Int)), (60, 0, .pointer (some ⟨blk aw, off aw + i * 1, none⟩)), (61, 0, .int .u8 (nth way i)), (62, 0, .int .i64 (nth way i)), (63, 0, .int .i64 (((nth way i).toNat / 4 : Nat) : Int)), (10, 0, .slice q_.2.2.2.2.2.2.2.2.2.1 q_.2.1 q_.2.2.2.2.2.2.2.2.2.2.1), (11, 0, .slice q_.2.2.2.2.2.2.2.2.2.2.2.2.2.1 q_.2.2.2.2.2.2.2.2.2.2.2.2.1 q_.2.2.2.2.2.2.2.2.2.2.2.2.2.2.1), (12, 0, .slice q_.2.2.2.2.2.2.2.2.2.2.2.2.2.2.2.2.2.1 q_.2.2.2.2.2.2.2.2.2.2.2.2.2.2.2.2.1 q_.2.2.2.2.2.2.2.2.2.2.2.2.2.2.2.2.2.2)]) (H' := fun q_ => [Item.cells bs [.int .i64 (rm9 room), .int .i64 ((q_.2.1 : Nat) : Int), .int .i64 ((q_.2.2.1 : Nat) : Int), .slice q_.2.2.2.1 ((q_.2.1) - (q_.2.2.1)) q_.2.2.2.2.1] 57, Item.own w0.heap.size q_.2.2.2.1 ((q_.2.1) - (q_.2.2.1)) q_.2.2.2.2.1 32 4 (cellsOf enc32 (keptL (q_.1) (q_.2.2.1))), Item.cells br [.slice q_.2.2.2.2.2.2.2.1 q_.2.2.2.2.2.2.1 q_.2.2.2.2.2.2.2.2.1, .bool true] 60, Item.own w0.heap.size q_.2.2.2.2.2.2.2.1 q_.2.2.2.2.2.2.1 q_.2.2.2.2.2.2.2.2.1 9 1 (cellsOf encStr (q_.2.2.2.2.2.1)), Item.own w0.heap.size q_.2.2.2.2.2.2.2.2.2.1 q_.2.1 q_.2.2.2.2.2.2.2.2.2.2.1 9 1 (cellsOf encStr (q_.1)), Item.own w0.heap.size q_.2.2.2.2.2.2.2.2.2.2.2.2.2.1 q_.2.2.2.2.2.2.2.2.2.2.2.2.1 q_.2.2.2.2.2.2.2.2.2.2.2.2.2.2.1 32 4 (cellsOf enc32 (q_.2.2.2.2.2.2.2.2.2.2.2.1)), Item.own w0.heap.size q_.2.2.2.2.2.2.2.2.2.2.2.2.2.2.2.2.2.1 q_.2.2.2.2.2.2.2.2.2.2.2.2.2.2.2.2.1 q_.2.2.2.2.2.2.2.2.2.2.2.2.2.2.2.2.2.2 32 4 (cellsOf enc32 (q_.2.2.2.2.2.2.2.2.2.2.2.2.2.2.2.1))]) (I := fun q_ => q_.2.1 = q_.1.length ∧ q_.1.length ≤ nbd ∧ q_.2.2.2.2.2.2.1 = q_.2.2.2.2.2.1.length ∧ Pre q_.2.2.2.2.2.1 q_.1 ∧ q_.2.2.1 ≤ q_.2.2.2.2.2.1.length ∧ q_.2.2.2.2.2.2.2.2.2.2.2.2.1 = q_.2.2.2.2.2.2.2.2.2.2.2.1.length ∧ q_.2.2.2.2.2.2.2.2.2.2.2.1.length ≤ 1030 ∧ (∀ m ∈ q_.2.2.2.2.2.2.2.2.2.2.2.1, IsData q_.1 m) ∧ q_.2.2.2.2.2.2.2.2.2.2.2.2.2.2.2.2.1 = q_.2.2.2.2.2.2.2.2.2.2.2.2.2.2.2.1.length ∧ q_.2.2.2.2.2.2.2.2.2.2.2.2.2.2.2.1.length ≤ i + 1 ∧ (∀ m ∈ q_.2.2.2.2.2.2.2.2.2.2.2.2.2.2.2.1, IsAck q_.2.2.2.2.2.1.length m)) 7 ((B, B.length, d, ka, kc, recvB R (nth O ((nth way i).toNat / 4 % no)), (recvB R (nth O ((nth way i).toNat / 4 % no))).length, ra2, rc2, sa, sc, O, no, oa, oc, K ++ [recvM R (nth O ((nth way i).toNat / 4 % no))], nk + 1, ao4_, cap4_)) (⟨by show _ = (B).length; first | rfl | omega | (simp <;> omega) | (simp only [List.length_append, keptL_len, List.length_cons, List.length_nil]; omega), by show (B).length ≤ nbd; first | omega | (simp only [List.length_append, keptL_len, List.length_cons, List.length_nil]; omega), by show _ = (recvB R (nth O ((nth way i).toNat / 4 % no))).length; first | rfl | omega | (simp <;> omega) | (simp only [List.length_append, keptL_len, List.length_cons, List.length_nil]; omega), (recv_pre hP (hO _ (nth_mem (by rw [← hno]; exact Nat.mod_lt _ (by omega))))).1, by show d ≤ (recvB R (nth O ((nth way i).toNat / 4 % no))).length; (have q := (recvB_le (B := R) (m := (nth O ((nth way i).toNat / 4 % no)))).1; omega), by show _ = (O).length; first | rfl | omega | (simp <;> omega) | (simp only [List.length_append, keptL_len, List.length_cons, List.length_nil]; omega), by show (O).length ≤ 1030; first | omega | (simp only [List.length_append, keptL_len, List.length_cons, List.length_nil]; omega), hO, by show _ = (K ++ [recvM R (nth O ((nth way i).toNat / 4 % no))]).length; first | rfl | omega | (simp <;> omega) | (simp only [List.length_append, keptL_len, List.length_cons, List.length_nil]; omega), by show (K ++ [recvM R (nth O ((nth way i).toNat / 4 % no))]).length ≤ i + 1; first | omega | (simp only [List.length_append, keptL_len, List.length_cons, List.length_nil]; omega), fun m hm => by rcases List.mem_append.1 hm with q | q; (exact (hK m q).mono (recvB_le (B := R) (m := (nth O ((nth way i).toNat / 4 % no)))).1); (rw [List.mem_singleton.1 q, (recv_pre hP (hO _ (nth_mem (by rw [← hno]; exact Nat.mod_lt _ (by omega))))).2]; exact ⟨_, Nat.le_refl _, rfl⟩)⟩) ⟨rfl, rfl, rfl, rfl, rfl, rfl, rfl, rfl, rfl, rfl, rfl, rfl, rfl, rfl, rfl, rfl, rfl, rfl, rfl, rfl, rfl, rfl, rfl, rfl, rfl, rfl, rfl, rfl, rfl, rfl, rfl, rfl, rfl, rfl, rfl, rfl, rfl, rfl, rfl, rfl, rfl, rfl, rfl, rfl, rfl, rfl, rfl, rfl, rfl, rfl, rfl, rfl, rfl, rfl, rfl, rfl, rfl, rfl, rfl, rfl, rfl, rfl, rfl, rfl, rfl, rfl, rfl, rfl, rfl, rfl, rfl, rfl, rfl, rfl, rfl, rfl, rfl, rfl, rfl, rfl, rfl, rfl, rfl, rfl, rfl, rfl, trivial⟩ rfl
              · try simp only [Bool.and_eq_true, Bool.or_eq_true, Bool.not_eq_true', Bool.not_eq_false', Bool.and_eq_false_iff, Bool.or_eq_false_iff, decide_eq_true_eq, decide_eq_false_iff_not, Int.not_lt, Int.not_le, ne_eq, Decidable.not_not] at h8
                refine WC.skip ?_
                refine QX.normal_in ?_
                refine QX.cutx (σ := List ByteArray × Nat × Nat × Option Addr × Nat × List ByteArray × Nat × Option Addr × Nat × Option Addr × Nat × List Msg × Nat × Option Addr × Nat × List Msg × Nat × Option Addr × Nat) (E' := fun q_ => [(0, 0, .slice abd nbd cbd), (1, 0, .int .i64 room), (2, 0, .slice aw nw cw), (7, 0, .pointer (some ⟨bs, 0, none⟩)), (8, 0, .int .i64 0), (9, 0, .pointer (some ⟨br, 0, none⟩)), (13, 0, .int .i64 ((i : Nat) : Int)), (14, 0, .int .i64 (((nth way i).toNat / 4 : Nat) : Int)), (23, 0, .slice abd nbd cbd), (24, 0, .bool lq), (25, 0, .bool lq), (29, 0, .bool (lq || (decide (30 < ((nbd : Nat) : Int))))), (30, 0, .bool (lq || (decide (30 < ((nbd : Nat) : Int))))), (34, 0, .bool ((lq || (decide (30 < ((nbd : Nat) : Int)))) || (decide (200 < ((nw : Nat) : Int))))), (36, 0, .tuple #[.pointer (some ⟨bs, 0, none⟩), .int .i64 0]), (37, 0, .int .i64 room), (38, 0, .int .u64 (IntKind.u64.wrap room)), (39, 0, .int .u64 ((IntKind.u64.wrap room).tmod 9)), (40, 0, .int .i64 (IntKind.i64.wrap ((IntKind.u64.wrap room).tmod 9))), (41, 0, .int .i64 (rm9 room)), (42, 0, .tuple #[.pointer (some ⟨bs, 0, none⟩), .int .i64 0]), (43, 0, .pointer (some ⟨bs, 0, none⟩)), (44, 0, .int .i64 0), (45, 0, .int .i64 0), (46, 0, .bool false), (47, 0, .bool false), (48, 0, .pointer (some ⟨bs, 0, none⟩)), (49, 0, .bool false), (50, 0, .bool false), (51, 0, .pointer (some ⟨br, 0, none⟩)), (52, 0, .int .i64 ((i : Nat) : Int)), (53, 0, .slice aw nw cw), (54, 0, .int .i64 ((nw : Nat) : Int)), (55, 0, .bool (decide (((i : Nat) : Int) < ((nw : Nat) : Int)))), (58, 0, .slice aw nw cw), (59, 0, .int .i64 ((i : Nat) : Int)), (60, 0, .pointer (some ⟨blk aw, off aw + i * 1, none⟩)), (61, 0, .int .u8 (nth way i)), (62, 0, .int .i64 (nth way i)), (63, 0, .int .i64 (((nth way i).toNat / 4 : Nat) : Int)), (10, 0, .slice q_.2.2.2.2.2.2.2.2.2.1 q_.2.1 q_.2.2.2.2.2.2.2.2.2.2.1), (11, 0, .slice q_.2.2.2.2.2.2.2.2.2.2.2.2.2.1 q_.2.2.2.2.2.2.2.2.2.2.2.2.1 q_.2.2.2.2.2.2.2.2.2.2.2.2.2.2.1), (12, 0, .slice q_.2.2.2.2.2.2.2.2.2.2.2.2.2.2.2.2.2.1 q_.2.2.2.2.2.2.2.2.2.2.2.2.2.2.2.2.1 q_.2.2.2.2.2.2.2.2.2.2.2.2.2.2.2.2.2.2)]) (H' := fun q_ => [Item.cells bs [.int .i64 (rm9 room), .int .i64 ((q_.2.1 : Nat) : Int), .int .i64 ((q_.2.2.1 : Nat) : Int), .slice q_.2.2.2.1 ((q_.2.1) - (q_.2.2.1)) q_.2.2.2.2.1] 57, Item.own w0.heap.size q_.2.2.2.1 ((q_.2.1) - (q_.2.2.1)) q_.2.2.2.2.1 32 4 (cellsOf enc32 (keptL (q_.1) (q_.2.2.1))), Item.cells br [.slice q_.2.2.2.2.2.2.2.1 q_.2.2.2.2.2.2.1 q_.2.2.2.2.2.2.2.2.1, .bool true] 60, Item.own w0.heap.size q_.2.2.2.2.2.2.2.1 q_.2.2.2.2.2.2.1 q_.2.2.2.2.2.2.2.2.1 9 1 (cellsOf encStr (q_.2.2.2.2.2.1)), Item.own w0.heap.size q_.2.2.2.2.2.2.2.2.2.1 q_.2.1 q_.2.2.2.2.2.2.2.2.2.2.1 9 1 (cellsOf encStr (q_.1)), Item.own w0.heap.size q_.2.2.2.2.2.2.2.2.2.2.2.2.2.1 q_.2.2.2.2.2.2.2.2.2.2.2.2.1 q_.2.2.2.2.2.2.2.2.2.2.2.2.2.2.1 32 4 (cellsOf enc32 (q_.2.2.2.2.2.2.2.2.2.2.2.1)), Item.own w0.heap.size q_.2.2.2.2.2.2.2.2.2.2.2.2.2.2.2.2.2.1 q_.2.2.2.2.2.2.2.2.2.2.2.2.2.2.2.2.1 q_.2.2.2.2.2.2.2.2.2.2.2.2.2.2.2.2.2.2 32 4 (cellsOf enc32 (q_.2.2.2.2.2.2.2.2.2.2.2.2.2.2.2.1))]) (I := fun q_ => q_.2.1 = q_.1.length ∧ q_.1.length ≤ nbd ∧ q_.2.2.2.2.2.2.1 = q_.2.2.2.2.2.1.length ∧ Pre q_.2.2.2.2.2.1 q_.1 ∧ q_.2.2.1 ≤ q_.2.2.2.2.2.1.length ∧ q_.2.2.2.2.2.2.2.2.2.2.2.2.1 = q_.2.2.2.2.2.2.2.2.2.2.2.1.length ∧ q_.2.2.2.2.2.2.2.2.2.2.2.1.length ≤ 1030 ∧ (∀ m ∈ q_.2.2.2.2.2.2.2.2.2.2.2.1, IsData q_.1 m) ∧ q_.2.2.2.2.2.2.2.2.2.2.2.2.2.2.2.2.1 = q_.2.2.2.2.2.2.2.2.2.2.2.2.2.2.2.1.length ∧ q_.2.2.2.2.2.2.2.2.2.2.2.2.2.2.2.1.length ≤ i + 1 ∧ (∀ m ∈ q_.2.2.2.2.2.2.2.2.2.2.2.2.2.2.2.1, IsAck q_.2.2.2.2.2.1.length m)) 7 ((B, B.length, d, ka, kc, R, R.length, ra, rc, sa, sc, O, no, oa, oc, K, nk, ba, bc)) (⟨by show _ = (B).length; first | rfl | omega | (simp <;> omega) | (simp only [List.length_append, keptL_len, List.length_cons, List.length_nil]; omega), by show (B).length ≤ nbd; first | omega | (simp only [List.length_append, keptL_len, List.length_cons, List.length_nil]; omega), by show _ = (R).length; first | rfl | omega | (simp <;> omega) | (simp only [List.length_append, keptL_len, List.length_cons, List.length_nil]; omega), hP, by show d ≤ (R).length; exact hd, by show _ = (O).length; first | rfl | omega | (simp <;> omega) | (simp only [List.length_append, keptL_len, List.length_cons, List.length_nil]; omega), by show (O).length ≤ 1030; first | omega | (simp only [List.length_append, keptL_len, List.length_cons, List.length_nil]; omega), hO, by show _ = (K).length; first | rfl | omega | (simp <;> omega) | (simp only [List.length_append, keptL_len, List.length_cons, List.length_nil]; omega), by show (K).length ≤ i + 1; first | omega | (simp only [List.length_append, keptL_len, List.length_cons, List.length_nil]; omega), hK⟩) ⟨rfl, rfl, rfl, rfl, rfl, rfl, rfl, rfl, rfl, rfl, rfl, rfl, rfl, rfl, rfl, rfl, rfl, rfl, rfl, rfl, rfl, rfl, rfl, rfl, rfl, rfl, rfl, rfl, rfl, rfl, rfl, rfl, rfl, rfl, rfl, rfl, rfl, rfl, rfl, rfl, rfl, rfl, rfl, rfl, rfl, rfl, rfl, rfl, rfl, rfl, rfl, rfl, rfl, rfl, rfl, rfl, rfl, rfl, rfl, rfl, rfl, rfl, rfl, rfl, rfl, rfl, rfl, rfl, rfl, rfl, rfl, rfl, rfl, rfl, rfl, rfl, rfl, rfl, rfl, rfl, rfl, rfl, rfl, rfl, rfl, rfl, trivial⟩ rfl
            · try simp only [Bool.and_eq_true, Bool.or_eq_true, Bool.not_eq_true', Bool.not_eq_false', Bool.and_eq_false_iff, Bool.or_eq_false_iff, decide_eq_true_eq, decide_eq_false_iff_not, Int.not_lt, Int.not_le, ne_eq, Decidable.not_not] at h7
              refine WC.seq ?_
              refine WC.region ?_
              refine SL.pure rfl rfl rfl (PureOp.move rfl) ?_
              refine SL.pure rfl rfl rfl (PureOp.len rfl Try.underlying39) ?_
              refine SL.pure rfl rfl rfl (PureOp.gtr rfl rfl) ?_
              refine SL.nil_then ?_
              refine WC.cond rfl (fun h9 => ?_) (fun h9 => ?_)
              · try simp only [Bool.and_eq_true, Bool.or_eq_true, Bool.not_eq_true', Bool.not_eq_false', Bool.and_eq_false_iff, Bool.or_eq_false_iff, decide_eq_true_eq, decide_eq_false_iff_not, Int.not_lt, Int.not_le, ne_eq, Decidable.not_not] at h9
                refine WC.region ?_
                refine SL.pure rfl rfl rfl (PureOp.move rfl) ?_
                refine SL.pure rfl rfl rfl (PureOp.move rfl) ?_
                refine SL.pure rfl rfl rfl (PureOp.move rfl) ?_
                refine SL.pure rfl rfl rfl (PureOp.move rfl) ?_
                refine SL.pure rfl rfl rfl (PureOp.len rfl Try.underlying39) ?_
                refine SL.pure rfl rfl rfl (PureOp.rem rfl rfl (fun _ => by (first | omega | decide | (constructor <;> decide) | (have q := u64_bd room; omega) | (have q := rm9_bd room; unfold rm9 at q; omega) | exact Nat.mod_lt _ (by omega) | (have q := (hway i (by omega)); obtain ⟨x, hx⟩ : ∃ x : Nat, nth way i = x := ⟨(nth way i).toNat, by omega⟩; rw [hx]; refine ⟨by decide, ?_⟩; show -9223372036854775808 ≤ ((x / 4 : Nat) : Int) ∧ ((x / 4 : Nat) : Int) ≤ _; omega)))) ?_
                refine SL.pure rfl rfl rfl (PureOp.indexAddrN Try.underlying39 sz32 rfl rfl (AoOk.own 6 rfl) (fun _ => by (first | omega | decide | (constructor <;> decide) | (have q := u64_bd room; omega) | (have q := rm9_bd room; unfold rm9 at q; omega) | exact Nat.mod_lt _ (by omega) | (have q := (hway i (by omega)); obtain ⟨x, hx⟩ : ∃ x : Nat, nth way i = x := ⟨(nth way i).toNat, by omega⟩; rw [hx]; refine ⟨by decide, ?_⟩; show -9223372036854775808 ≤ ((x / 4 : Nat) : Int) ∧ ((x / 4 : Nat) : Int) ≤ _; omega)))) ?_
                refine SL.pure rfl rfl rfl (PureOp.loads (vs := [.int .i64 ((nth K ((nth way i).toNat / 4 % nk)).1), .int .i64 ((nth K ((nth way i).toNat / 4 % nk)).2.1), .int .i64 ((nth K ((nth way i).toNat / 4 % nk)).2.2.1), .string ((nth K ((nth way i).toNat / 4 % nk)).2.2.2)]) Try.underlying32 rfl rfl (fun _ => (RowIs.ownc 6 rfl ((nth way i).toNat / 4 % nk) 0 4 (rowsF enc32 K _) (fun j hj => cellsOf_get enc32_len K _ _ (by rw [← hnk]; exact Nat.mod_lt _ (by omega)) (by omega)))) sz32) ?_
                refine SL.callM [0, 1] rfl rfl rfl rfl rfl rfl callable12 (by decide) (acked_ok bs (rm9 room) B d ka (B.length - d) kc (rm9_bd room).1 (by omega) rfl (by omega) w0 (nth K ((nth way i).toNat / 4 % nk))) rfl (fun _ _ => rfl) ?_
                rintro ⟨ka2, kc2⟩ _
                refine SL.norm [_, _, _, _, _, _, _] rfl ?_
                refine SL.nil ?_
                refine QX.normal_in ?_
                refine QX.cutx (σ := List ByteArray × Nat × Nat × Option Addr × Nat × List ByteArray × Nat × Option Addr × Nat × Option Addr × Nat × List Msg × Nat × Option Addr × Nat × List Msg × Nat × Option Addr × Nat) (E' := fun q_ => [(0, 0, .slice abd nbd cbd), (1, 0, .int .i64 room), (2, 0, .slice aw nw cw), (7, 0, .pointer (some ⟨bs, 0, none⟩)), (8, 0, .int .i64 0), (9, 0, .pointer (some ⟨br, 0, none⟩)), (13, 0, .int .i64 ((i : Nat) : Int)), (14, 0, .int .i64 (((nth way i).toNat / 4 : Nat) : Int)), (23, 0, .slice abd nbd cbd), (24, 0, .bool lq), (25, 0, .bool lq), (29, 0, .bool (lq || (decide (30 < ((nbd : Nat) : Int))))), (30, 0, .bool (lq || (decide (30 < ((nbd : Nat) : Int))))), (34, 0, .bool ((lq || (decide (30 < ((nbd : Nat) : Int)))) || (decide (200 < ((nw : Nat) : Int))))), (36, 0, .tuple #[.pointer (some ⟨bs, 0, none⟩), .int .i64 0]), (37, 0, .int .i64 room), (38, 0, .int .u64 (IntKind.u64.wrap room)), (39, 0, .int .u64 ((IntKind.u64.wrap room).tmod 9)), (40, 0, .int .i64 (IntKind.i64.wrap ((IntKind.u64.wrap room).tmod 9))), (41, 0, .int .i64 (rm9 room)), (42, 0, .tuple #[.pointer (some ⟨bs, 0, none⟩), .int .i64 0]), (43, 0, .pointer (some ⟨bs, 0, none⟩)), (44, 0, .int .i64 0), (45, 0, .int .i64 0), (46, 0, .bool false), (47, 0, .bool false), (48, 0, .pointer (some ⟨bs, 0, none⟩)), (49, 0, .bool false), (50, 0, .bool false), (51, 0, .pointer (some ⟨br, 0, none⟩)), (52, 0, .int .i64 ((i : Nat) : Int)), (53, 0, .slice aw nw cw), (54, 0, .int .i64 ((nw : Nat) : Int)), (55, 0, .bool (decide (((i : Nat) : Int) < ((nw : Nat) : Int)))), (58, 0, .slice aw nw cw), (59, 0, .int .i64 ((i : Nat) : Int)), (60, 0, .pointer (some ⟨blk aw, off aw + i * 1, none⟩)), (61, 0, .int .u8 (nth way i)), (62, 0, .int .i64 (nth way i)), (63, 0, .int .i64 (((nth way i).toNat / 4 : Nat) : Int)), (10, 0, .slice q_.2.2.2.2.2.2.2.2.2.1 q_.2.1 q_.2.2.2.2.2.2.2.2.2.2.1), (11, 0, .slice q_.2.2.2.2.2.2.2.2.2.2.2.2.2.1 q_.2.2.2.2.2.2.2.2.2.2.2.2.1 q_.2.2.2.2.2.2.2.2.2.2.2.2.2.2.1), (12, 0, .slice q_.2.2.2.2.2.2.2.2.2.2.2.2.2.2.2.2.2.1 q_.2.2.2.2.2.2.2.2.2.2.2.2.2.2.2.2.1 q_.2.2.2.2.2.2.2.2.2.2.2.2.2.2.2.2.2.2)]) (H' := fun q_ => [Item.cells bs [.int .i64 (rm9 room), .int .i64 ((q_.2.1 : Nat) : Int), .int .i64 ((q_.2.2.1 : Nat) : Int), .slice q_.2.2.2.1 ((q_.2.1) - (q_.2.2.1)) q_.2.2.2.2.1] 57, Item.own w0.heap.size q_.2.2.2.1 ((q_.2.1) - (q_.2.2.1)) q_.2.2.2.2.1 32 4 (cellsOf enc32 (keptL (q_.1) (q_.2.2.1))), Item.cells br [.slice q_.2.2.2.2.2.2.2.1 q_.2.2.2.2.2.2.1 q_.2.2.2.2.2.2.2.2.1, .bool true] 60, Item.own w0.heap.size q_.2.2.2.2.2.2.2.1 q_.2.2.2.2.2.2.1 q_.2.2.2.2.2.2.2.2.1 9 1 (cellsOf encStr (q_.2.2.2.2.2.1)), Item.own w0.heap.size q_.2.2.2.2.2.2.2.2.2.1 q_.2.1 q_.2.2.2.2.2.2.2.2.2.2.1 9 1 (cellsOf encStr (q_.1)), Item.own w0.heap.size q_.2.2.2.2.2.2.2.2.2.2.2.2.2.1 q_.2.2.2.2.2.2.2.2.2.2.2.2.1 q_.2.2.2.2.2.2.2.2.2.2.2.2.2.2.1 32 4 (cellsOf enc32 (q_.2.2.2.2.2.2.2.2.2.2.2.1)), Item.own w0.heap.size q_.2.2.2.2.2.2.2.2.2.2.2.2.2.2.2.2.2.1 q_.2.2.2.2.2.2.2.2.2.2.2.2.2.2.2.2.1 q_.2.2.2.2.2.2.2.2.2.2.2.2.2.2.2.2.2.2 32 4 (cellsOf enc32 (q_.2.2.2.2.2.2.2.2.2.2.2.2.2.2.2.1))]) (I := fun q_ => q_.2.1 = q_.1.length ∧ q_.1.length ≤ nbd ∧ q_.2.2.2.2.2.2.1 = q_.2.2.2.2.2.1.length ∧ Pre q_.2.2.2.2.2.1 q_.1 ∧ q_.2.2.1 ≤ q_.2.2.2.2.2.1.length ∧ q_.2.2.2.2.2.2.2.2.2.2.2.2.1 = q_.2.2.2.2.2.2.2.2.2.2.2.1.length ∧ q_.2.2.2.2.2.2.2.2.2.2.2.1.length ≤ 1030 ∧ (∀ m ∈ q_.2.2.2.2.2.2.2.2.2.2.2.1, IsData q_.1 m) ∧ q_.2.2.2.2.2.2.2.2.2.2.2.2.2.2.2.2.1 = q_.2.2.2.2.2.2.2.2.2.2.2.2.2.2.2.1.length ∧ q_.2.2.2.2.2.2.2.2.2.2.2.2.2.2.2.1.length ≤ i + 1 ∧ (∀ m ∈ q_.2.2.2.2.2.2.2.2.2.2.2.2.2.2.2.1, IsAck q_.2.2.2.2.2.1.length m)) 7 ((B, B.length, ackD B d (nth K ((nth way i).toNat / 4 % nk)), ka2, kc2, R, R.length, ra, rc, sa, sc, O, no, oa, oc, K, nk, ba, bc)) (⟨by show _ = (B).length; first | rfl | omega | (simp <;> omega) | (simp only [List.length_append, keptL_len, List.length_cons, List.length_nil]; omega), by show (B).length ≤ nbd; first | omega | (simp only [List.length_append, keptL_len, List.length_cons, List.length_nil]; omega), by show _ = (R).length; first | rfl | omega | (simp <;> omega) | (simp only [List.length_append, keptL_len, List.length_cons, List.length_nil]; omega), hP, by show (ackD B d (nth K ((nth way i).toNat / 4 % nk))) ≤ (R).length; (have q := ack_le (B := B) (hK (nth K ((nth way i).toNat / 4 % nk)) (nth_mem (by rw [← hnk]; exact Nat.mod_lt _ (by omega)))) hd; exact q), by show _ = (O).length; first | rfl | omega | (simp <;> omega) | (simp only [List.length_append, keptL_len, List.length_cons, List.length_nil]; omega), by show (O).length ≤ 1030; first | omega | (simp only [List.length_append, keptL_len, List.length_cons, List.length_nil]; omega), hO, by show _ = (K).length; first | rfl | omega | (simp <;> omega) | (simp only [List.length_append, keptL_len, List.length_cons, List.length_nil]; omega), by show (K).length ≤ i + 1; first | omega | (simp only [List.length_append, keptL_len, List.length_cons, List.length_nil]; omega), hK⟩) ⟨rfl, rfl, rfl, rfl, rfl, rfl, rfl, rfl, rfl, rfl, rfl, rfl, rfl, rfl, rfl, rfl, rfl, rfl, rfl, rfl, rfl, rfl, rfl, rfl, rfl, rfl, rfl, rfl, rfl, rfl, rfl, rfl, rfl, rfl, rfl, rfl, rfl, rfl, rfl, rfl, rfl, rfl, rfl, rfl, rfl, rfl, rfl, rfl, rfl, rfl, rfl, rfl, rfl, rfl, rfl, rfl, rfl, rfl, rfl, rfl, rfl, rfl, rfl, rfl, rfl, rfl, rfl, rfl, rfl, rfl, rfl, rfl, rfl, rfl, rfl, rfl, rfl, rfl, rfl, rfl, rfl, rfl, rfl, rfl, rfl, rfl, trivial⟩ rfl
              · try simp only [Bool.and_eq_true, Bool.or_eq_true, Bool.not_eq_true', Bool.not_eq_false', Bool.and_eq_false_iff, Bool.or_eq_false_iff, decide_eq_true_eq, decide_eq_false_iff_not, Int.not_lt, Int.not_le, ne_eq, Decidable.not_not] at h9
                refine WC.skip ?_
                refine QX.normal_in ?_
                refine QX.cutx (σ := List ByteArray × Nat × Nat × Option Addr × Nat × List ByteArray × Nat × Option Addr × Nat × Option Addr × Nat × List Msg × Nat × Option Addr × Nat × List Msg × Nat × Option Addr × Nat) (E' := fun q_ => [(0, 0, .slice abd nbd cbd), (1, 0, .int .i64 room), (2, 0, .slice aw nw cw), (7, 0, .pointer (some ⟨bs, 0, none⟩)), (8, 0, .int .i64 0), (9, 0, .pointer (some ⟨br, 0, none⟩)), (13, 0, .int .i64 ((i : Nat) : Int)), (14, 0, .int .i64 (((nth way i).toNat / 4 : Nat) : Int)), (23, 0, .slice abd nbd cbd), (24, 0, .bool lq), (25, 0, .bool lq), (29, 0, .bool (lq || (decide (30 < ((nbd : Nat) : Int))))), (30, 0, .bool (lq || (decide (30 < ((nbd : Nat) : Int))))), (34, 0, .bool ((lq || (decide (30 < ((nbd : Nat) : Int)))) || (decide (200 < ((nw : Nat) : Int))))), (36, 0, .tuple #[.pointer (some ⟨bs, 0, none⟩), .int .i64 0]), (37, 0, .int .i64 room), (38, 0, .int .u64 (IntKind.u64.wrap room)), (39, 0, .int .u64 ((IntKind.u64.wrap room).tmod 9)), (40, 0, .int .i64 (IntKind.i64.wrap ((IntKind.u64.wrap room).tmod 9))), (41, 0, .int .i64 (rm9 room)), (42, 0, .tuple #[.pointer (some ⟨bs, 0, none⟩), .int .i64 0]), (43, 0, .pointer (some ⟨bs, 0, none⟩)), (44, 0, .int .i64 0), (45, 0, .int .i64 0), (46, 0, .bool false), (47, 0, .bool false), (48, 0, .pointer (some ⟨bs, 0, none⟩)), (49, 0, .bool false), (50, 0, .bool false), (51, 0, .pointer (some ⟨br, 0, none⟩)), (52, 0, .int .i64 ((i : Nat) : Int)), (53, 0, .slice aw nw cw), (54, 0, .int .i64 ((nw : Nat) : Int)), (55, 0, .bool (decide (((i : Nat) : Int) < ((nw : Nat) : Int)))), (58, 0, .slice aw nw cw), (59, 0, .int .i64 ((i : Nat) : Int)), (60, 0, .pointer (some ⟨blk aw, off aw + i * 1, none⟩)), (61, 0, .int .u8 (nth way i)), (62, 0, .int .i64 (nth way i)), (63, 0, .int .i64 (((nth way i).toNat / 4 : Nat) : Int)), (10, 0, .slice q_.2.2.2.2.2.2.2.2.2.1 q_.2.1 q_.2.2.2.2.2.2.2.2.2.2.1), (11, 0, .slice q_.2.2.2.2.2.2.2.2.2.2.2.2.2.1 q_.2.2.2.2.2.2.2.2.2.2.2.2.1 q_.2.2.2.2.2.2.2.2.2.2.2.2.2.2.1), (12, 0, .slice q_.2.2.2.2.2.2.2.2.2.2.2.2.2.2.2.2.2.1 q_.2.2.2.2.2.2.2.2.2.2.2.2.2.2.2.2.1 q_.2.2.2.2.2.2.2.2.2.2.2.2.2.2.2.2.2.2)]) (H' := fun q_ => [Item.cells bs [.int .i64 (rm9 room), .int .i64 ((q_.2.1 : Nat) : Int), .int .i64 ((q_.2.2.1 : Nat) : Int), .slice q_.2.2.2.1 ((q_.2.1) - (q_.2.2.1)) q_.2.2.2.2.1] 57, Item.own w0.heap.size q_.2.2.2.1 ((q_.2.1) - (q_.2.2.1)) q_.2.2.2.2.1 32 4 (cellsOf enc32 (keptL (q_.1) (q_.2.2.1))), Item.cells br [.slice q_.2.2.2.2.2.2.2.1 q_.2.2.2.2.2.2.1 q_.2.2.2.2.2.2.2.2.1, .bool true] 60, Item.own w0.heap.size q_.2.2.2.2.2.2.2.1 q_.2.2.2.2.2.2.1 q_.2.2.2.2.2.2.2.2.1 9 1 (cellsOf encStr (q_.2.2.2.2.2.1)), Item.own w0.heap.size q_.2.2.2.2.2.2.2.2.2.1 q_.2.1 q_.2.2.2.2.2.2.2.2.2.2.1 9 1 (cellsOf encStr (q_.1)), Item.own w0.heap.size q_.2.2.2.2.2.2.2.2.2.2.2.2.2.1 q_.2.2.2.2.2.2.2.2.2.2.2.2.1 q_.2.2.2.2.2.2.2.2.2.2.2.2.2.2.1 32 4 (cellsOf enc32 (q_.2.2.2.2.2.2.2.2.2.2.2.1)), Item.own w0.heap.size q_.2.2.2.2.2.2.2.2.2.2.2.2.2.2.2.2.2.1 q_.2.2.2.2.2.2.2.2.2.2.2.2.2.2.2.2.1 q_.2.2.2.2.2.2.2.2.2.2.2.2.2.2.2.2.2.2 32 4 (cellsOf enc32 (q_.2.2.2.2.2.2.2.2.2.2.2.2.2.2.2.1))]) (I := fun q_ => q_.2.1 = q_.1.length ∧ q_.1.length ≤ nbd ∧ q_.2.2.2.2.2.2.1 = q_.2.2.2.2.2.1.length ∧ Pre q_.2.2.2.2.2.1 q_.1 ∧ q_.2.2.1 ≤ q_.2.2.2.2.2.1.length ∧ q_.2.2.2.2.2.2.2.2.2.2.2.2.1 = q_.2.2.2.2.2.2.2.2.2.2.2.1.length ∧ q_.2.2.2.2.2.2.2.2.2.2.2.1.length ≤ 1030 ∧ (∀ m ∈ q_.2.2.2.2.2.2.2.2.2.2.2.1, IsData q_.1 m) ∧ q_.2.2.2.2.2.2.2.2.2.2.2.2.2.2.2.2.1 = q_.2.2.2.2.2.2.2.2.2.2.2.2.2.2.2.1.length ∧ q_.2.2.2.2.2.2.2.2.2.2.2.2.2.2.2.1.length ≤ i + 1 ∧ (∀ m ∈ q_.2.2.2.2.2.2.2.2.2.2.2.2.2.2.2.1, IsAck q_.2.2.2.2.2.1.length m)) 7 ((B, B.length, d, ka, kc, R, R.length, ra, rc, sa, sc, O, no, oa, oc, K, nk, ba, bc)) (⟨by show _ = (B).length; first | rfl | omega | (simp <;> omega) | (simp only [List.length_append, keptL_len, List.length_cons, List.length_nil]; omega), by show (B).length ≤ nbd; first | omega | (simp only [List.length_append, keptL_len, List.length_cons, List.length_nil]; omega), by show _ = (R).length; first | rfl | omega | (simp <;> omega) | (simp only [List.length_append, keptL_len, List.length_cons, List.length_nil]; omega), hP, by show d ≤ (R).length; exact hd, by show _ = (O).length; first | rfl | omega | (simp <;> omega) | (simp only [List.length_append, keptL_len, List.length_cons, List.length_nil]; omega), by show (O).length ≤ 1030; first | omega | (simp only [List.length_append, keptL_len, List.length_cons, List.length_nil]; omega), hO, by show _ = (K).length; first | rfl | omega | (simp <;> omega) | (simp only [List.length_append, keptL_len, List.length_cons, List.length_nil]; omega), by show (K).length ≤ i + 1; first | omega | (simp only [List.length_append, keptL_len, List.length_cons, List.length_nil]; omega), hK⟩) ⟨rfl, rfl, rfl, rfl, rfl, rfl, rfl, rfl, rfl, rfl, rfl, rfl, rfl, rfl, rfl, rfl, rfl, rfl, rfl, rfl, rfl, rfl, rfl, rfl, rfl, rfl, rfl, rfl, rfl, rfl, rfl, rfl, rfl, rfl, rfl, rfl, rfl, rfl, rfl, rfl, rfl, rfl, rfl, rfl, rfl, rfl, rfl, rfl, rfl, rfl, rfl, rfl, rfl, rfl, rfl, rfl, rfl, rfl, rfl, rfl, rfl, rfl, rfl, rfl, rfl, rfl, rfl, rfl, rfl, rfl, rfl, rfl, rfl, rfl, rfl, rfl, rfl, rfl, rfl, rfl, rfl, rfl, rfl, rfl, rfl, rfl, trivial⟩ rfl
      rintro ⟨B1, NB1_, d1, ka1, kc1, R1, NR1_, ra1, rc1, sa1, sc1, O1, no1, oa1, oc1, K1, nk1, ba1, bc1⟩ ⟨hNB1, hBb1, hNR1, hP1, hd1, hno1, hO11, hO1_, hnk1, hK11, hK1_⟩
      try dsimp only at *
      subst hNB1
      subst hNR1
      have hRB1 := hP1.1
      refine WC.seq ?_
      refine WC.region ?_
      refine SL.pure rfl rfl rfl (PureOp.move rfl) ?_
      refine SL.callo (fun ga gc => .slice ga ((R1).length) gc) rfl rfl rfl rfl rfl rfl callable26 (fun w hw => (by have h := got_ok br (R1) _ _ (by omega) w (ObjIn.of hw 2 rfl) (SliceIn.rows (hw.mem (i := 3) rfl) encStr_len (Nat.le_refl _)) 1 (by decide); rw [(gotL_one (R1)).1, (gotL_one (R1)).2, Nat.sub_zero] at h; exact h)) (fun ga gc => ?_)
      refine SL.norm [_, _, _, _, _, _, _, _] rfl ?_
      refine SL.pure rfl rfl rfl (PureOp.assign rfl) ?_
      refine SL.nil_then ?_
      refine WC.seq ?_
      refine WC.region ?_
      refine SL.pure rfl rfl rfl (PureOp.move rfl) ?_
      refine SL.pure rfl rfl rfl (PureOp.len rfl Try.underlying49) ?_
      refine SL.pure rfl rfl rfl (PureOp.move rfl) ?_
      refine SL.pure rfl rfl rfl (PureOp.len rfl Try.underlying49) ?_
      refine SL.pure rfl rfl rfl (PureOp.gtr rfl rfl) ?_
      refine SL.pure rfl rfl rfl (PureOp.move rfl) ?_
      refine SL.newg 147 false rfl ?_
      refine SL.gpure (c := 1) rfl rfl rfl rfl rfl rfl rfl (PureOp.move rfl) ?_
      refine SL.gpure (c := 1) rfl rfl rfl rfl rfl rfl rfl (PureOp.move rfl) ?_
      refine SL.gpure (c := 1) rfl rfl rfl rfl rfl rfl rfl (PureOp.move rfl) ?_
      refine SL.gpure (c := 1) rfl rfl rfl rfl rfl rfl rfl (PureOp.len rfl Try.underlying49) ?_
      refine SL.gpure (c := 1) rfl rfl rfl rfl rfl rfl rfl (PureOp.sliceho 4 Try.underlying49 sz9 rfl rfl rfl (by intro hg; simp [gval] at hg; first | omega | (have q := recvB_le (B := R) (m := (nth O ((nth way i).toNat / 4 % no))); omega) | (have q := hPre.1; omega))) ?_
      refine SL.gcalle (c := 1) rfl rfl rfl rfl rfl rfl rfl rfl rfl rfl callable25 (by intro hg; simp [gval] at hg; exact (fun w hw => (have hq : Pre (R1) (B1) := (by exact hP1); sames_ok (R1) _ _ _ _ _ _ rfl (by simp) w (SliceIn.rows (hw.mem (i := 7) rfl) encStr_len (Nat.le_refl _)) (pre_slice hq (by simp) (hw.mem (i := 4) rfl)) (by omega)))) ?_
      refine SL.norm [_, _, _, _, _, _, _, _] rfl ?_
      refine SL.gpure (c := 1) rfl rfl rfl rfl rfl rfl rfl (PureOp.not rfl) ?_
      refine SL.pure rfl rfl rfl (PureOp.or_ rfl rfl rfl rfl) ?_
      refine SL.pure rfl rfl rfl (PureOp.move rfl) ?_
      refine SL.newg 156 false rfl ?_
      refine SL.gpure (c := 2) rfl rfl rfl rfl rfl rfl rfl (PureOp.move rfl) ?_
      refine SL.gpure (c := 2) rfl rfl rfl rfl rfl rfl rfl (PureOp.len rfl Try.underlying39) ?_
      refine SL.gpure (c := 2) rfl rfl rfl rfl rfl rfl rfl (PureOp.gtr rfl rfl) ?_
      refine SL.pure rfl rfl rfl (PureOp.or_ rfl rfl rfl rfl) ?_
      refine SL.nil_then ?_
      refine WC.cond rfl (fun h10 => ?_) (fun h10 => ?_)
      · try simp only [Bool.and_eq_true, Bool.or_eq_true, Bool.not_eq_true', Bool.not_eq_false', Bool.and_eq_false_iff, Bool.or_eq_false_iff, decide_eq_true_eq, decide_eq_false_iff_not, Int.not_lt, Int.not_le, ne_eq, Decidable.not_not] at h10
        refine WC.seq ?_
        refine WC.region ?_
        refine SL.pure rfl rfl rfl (PureOp.move rfl) ?_
        refine SL.pure rfl rfl rfl (PureOp.len rfl Try.underlying39) ?_
        refine SL.pure rfl rfl rfl (PureOp.gtr rfl rfl) ?_
        refine SL.pure rfl rfl rfl (PureOp.move rfl) ?_
        refine SL.newg 164 true rfl ?_
        refine SL.gcalle (c := 3) rfl rfl rfl rfl rfl rfl rfl rfl rfl rfl callable7 (by intro hg; simp [gval] at hg; exact (fun w hw => awake_ok w)) ?_
        refine SL.norm [_, _, _, _, _, _, _, _] rfl ?_
        refine SL.pure rfl rfl rfl (PureOp.and_ rfl rfl rfl rfl) ?_
        refine SL.pure rfl rfl rfl (PureOp.assign rfl) ?_
        refine SL.nil_then ?_
        refine WC.ret ?_
        refine QX.ret_in ?_
        refine QX.ret_then ?_
        refine QX.ret_then ?_
        refine QX.ret_in ?_
        refine QX.ret_then ?_
        refine QX.ret1 rfl rfl ?_
        intro w hw
        first
          | rfl
          | (have hPre : Pre (R1) (B1) := (by exact hP1)
             have hPl := hPre.1
             
             rcases h10 with (q | q) | q
             · exfalso; omega
             · cases q
             · rw [decide_eq_true q]; rfl)
      · try simp only [Bool.and_eq_true, Bool.or_eq_true, Bool.not_eq_true', Bool.not_eq_false', Bool.and_eq_false_iff, Bool.or_eq_false_iff, decide_eq_true_eq, decide_eq_false_iff_not, Int.not_lt, Int.not_le, ne_eq, Decidable.not_not] at h10
        refine WC.skip ?_
        refine QX.normal_in ?_
        refine QX.then_ ?_
        refine WC.region ?_
        refine SL.pure rfl rfl rfl (PureOp.move rfl) ?_
        refine SL.pure rfl rfl rfl (PureOp.addN (k := 1) rfl rfl (fun _ => by (first | omega | decide | (constructor <;> decide) | (have q := u64_bd room; omega) | (have q := rm9_bd room; unfold rm9 at q; omega) | exact Nat.mod_lt _ (by omega) | (have q := (hway i (by omega)); obtain ⟨x, hx⟩ : ∃ x : Nat, nth way i = x := ⟨(nth way i).toNat, by omega⟩; rw [hx]; refine ⟨by decide, ?_⟩; show -9223372036854775808 ≤ ((x / 4 : Nat) : Int) ∧ ((x / 4 : Nat) : Int) ≤ _; omega)))) ?_
        refine SL.pure rfl rfl rfl (PureOp.assign rfl) ?_
        refine SL.nil ?_
        refine QX.round (σ := Nat × List ByteArray × Nat × Nat × Option Addr × Nat × List ByteArray × Nat × Option Addr × Nat × Option Addr × Nat × List Msg × Nat × Option Addr × Nat × List Msg × Nat × Option Addr × Nat) (Ef := fun q_ => [(0, 0, .slice abd nbd cbd), (1, 0, .int .i64 room), (2, 0, .slice aw nw cw), (7, 0, .pointer (some ⟨bs, 0, none⟩)), (8, 0, .int .i64 0), (9, 0, .pointer (some ⟨br, 0, none⟩)), (23, 0, .slice abd nbd cbd), (24, 0, .bool lq), (25, 0, .bool lq), (29, 0, .bool (lq || (decide (30 < ((nbd : Nat) : Int))))), (30, 0, .bool (lq || (decide (30 < ((nbd : Nat) : Int))))), (34, 0, .bool ((lq || (decide (30 < ((nbd : Nat) : Int)))) || (decide (200 < ((nw : Nat) : Int))))), (36, 0, .tuple #[.pointer (some ⟨bs, 0, none⟩), .int .i64 0]), (37, 0, .int .i64 room), (38, 0, .int .u64 (IntKind.u64.wrap room)), (39, 0, .int .u64 ((IntKind.u64.wrap room).tmod 9)), (40, 0, .int .i64 (IntKind.i64.wrap ((IntKind.u64.wrap room).tmod 9))), (41, 0, .int .i64 (rm9 room)), (42, 0, .tuple #[.pointer (some ⟨bs, 0, none⟩), .int .i64 0]), (43, 0, .pointer (some ⟨bs, 0, none⟩)), (44, 0, .int .i64 0), (45, 0, .int .i64 0), (46, 0, .bool false), (47, 0, .bool false), (48, 0, .pointer (some ⟨bs, 0, none⟩)), (49, 0, .bool false), (50, 0, .bool false), (51, 0, .pointer (some ⟨br, 0, none⟩)), (13, 0, .int .i64 ((q_.1 : Nat) : Int)), (10, 0, .slice q_.2.2.2.2.2.2.2.2.2.2.1 q_.2.2.1 q_.2.2.2.2.2.2.2.2.2.2.2.1), (11, 0, .slice q_.2.2.2.2.2.2.2.2.2.2.2.2.2.2.1 q_.2.2.2.2.2.2.2.2.2.2.2.2.2.1 q_.2.2.2.2.2.2.2.2.2.2.2.2.2.2.2.1), (12, 0, .slice q_.2.2.2.2.2.2.2.2.2.2.2.2.2.2.2.2.2.2.1 q_.2.2.2.2.2.2.2.2.2.2.2.2.2.2.2.2.2.1 q_.2.2.2.2.2.2.2.2.2.2.2.2.2.2.2.2.2.2.2)]) (Hf := fun q_ => [Item.cells bs [.int .i64 (rm9 room), .int .i64 ((q_.2.2.1 : Nat) : Int), .int .i64 ((q_.2.2.2.1 : Nat) : Int), .slice q_.2.2.2.2.1 ((q_.2.2.1) - (q_.2.2.2.1)) q_.2.2.2.2.2.1] 57, Item.own w0.heap.size q_.2.2.2.2.1 ((q_.2.2.1) - (q_.2.2.2.1)) q_.2.2.2.2.2.1 32 4 (cellsOf enc32 (keptL (q_.2.1) (q_.2.2.2.1))), Item.cells br [.slice q_.2.2.2.2.2.2.2.2.1 q_.2.2.2.2.2.2.2.1 q_.2.2.2.2.2.2.2.2.2.1, .bool true] 60, Item.own w0.heap.size q_.2.2.2.2.2.2.2.2.1 q_.2.2.2.2.2.2.2.1 q_.2.2.2.2.2.2.2.2.2.1 9 1 (cellsOf encStr (q_.2.2.2.2.2.2.1)), Item.own w0.heap.size q_.2.2.2.2.2.2.2.2.2.2.1 q_.2.2.1 q_.2.2.2.2.2.2.2.2.2.2.2.1 9 1 (cellsOf encStr (q_.2.1)), Item.own w0.heap.size q_.2.2.2.2.2.2.2.2.2.2.2.2.2.2.1 q_.2.2.2.2.2.2.2.2.2.2.2.2.2.1 q_.2.2.2.2.2.2.2.2.2.2.2.2.2.2.2.1 32 4 (cellsOf enc32 (q_.2.2.2.2.2.2.2.2.2.2.2.2.1)), Item.own w0.heap.size q_.2.2.2.2.2.2.2.2.2.2.2.2.2.2.2.2.2.2.1 q_.2.2.2.2.2.2.2.2.2.2.2.2.2.2.2.2.2.1 q_.2.2.2.2.2.2.2.2.2.2.2.2.2.2.2.2.2.2.2 32 4 (cellsOf enc32 (q_.2.2.2.2.2.2.2.2.2.2.2.2.2.2.2.2.1))]) (I := fun q_ => q_.1 ≤ nw ∧ q_.2.2.1 = q_.2.1.length ∧ q_.2.1.length ≤ nbd ∧ q_.2.2.2.2.2.2.2.1 = q_.2.2.2.2.2.2.1.length ∧ Pre q_.2.2.2.2.2.2.1 q_.2.1 ∧ q_.2.2.2.1 ≤ q_.2.2.2.2.2.2.1.length ∧ q_.2.2.2.2.2.2.2.2.2.2.2.2.2.1 = q_.2.2.2.2.2.2.2.2.2.2.2.2.1.length ∧ q_.2.2.2.2.2.2.2.2.2.2.2.2.1.length ≤ 1000 ∧ (∀ m ∈ q_.2.2.2.2.2.2.2.2.2.2.2.2.1, IsData q_.2.1 m) ∧ q_.2.2.2.2.2.2.2.2.2.2.2.2.2.2.2.2.2.1 = q_.2.2.2.2.2.2.2.2.2.2.2.2.2.2.2.2.1.length ∧ q_.2.2.2.2.2.2.2.2.2.2.2.2.2.2.2.2.1.length ≤ q_.1 ∧ (∀ m ∈ q_.2.2.2.2.2.2.2.2.2.2.2.2.2.2.2.2.1, IsAck q_.2.2.2.2.2.2.1.length m)) (μ := fun q_ => nw - q_.1) (s := (i, B, B.length, d, ka, kc, R, R.length, ra, rc, sa, sc, O, no, oa, oc, K, nk, ba, bc)) 7 ((i + 1, B1, B1.length, d1, ka1, kc1, R1, R1.length, ra1, rc1, sa1, sc1, O1, no1, oa1, oc1, K1, nk1, ba1, bc1)) ⟨⟨(by first | omega | (dsimp only; omega)), rfl, hBb1, rfl, hP1, hd1, hno1, by show O1.length ≤ 1000; omega, hO1_, hnk1, hK11, hK1_⟩, by first | omega | (dsimp only; omega)⟩ ⟨rfl, rfl, rfl, rfl, rfl, rfl, rfl, rfl, rfl, rfl, rfl, rfl, rfl, rfl, rfl, rfl, rfl, rfl, rfl, rfl, rfl, rfl, rfl, rfl, rfl, rfl, rfl, rfl, rfl, rfl, rfl, rfl, rfl, rfl, rfl, rfl, rfl, rfl, rfl, rfl, rfl, rfl, rfl, rfl, rfl, rfl, rfl, rfl, rfl, rfl, rfl, rfl, rfl, rfl, rfl, rfl, rfl, rfl, rfl, rfl, rfl, rfl, rfl, rfl, trivial⟩ rfl
    · try simp only [Bool.and_eq_true, Bool.or_eq_true, Bool.not_eq_true', Bool.not_eq_false', Bool.and_eq_false_iff, Bool.or_eq_false_iff, decide_eq_true_eq, decide_eq_false_iff_not, Int.not_lt, Int.not_le, ne_eq, Decidable.not_not] at h2
      refine WC.exit ?_
      refine QX.exit_then ?_
      refine QX.exit_then ?_
      refine QX.exit_hit ?_
      refine QX.then_ ?_
      refine WC.seq ?_
      refine WC.region ?_
      refine SL.pure rfl rfl rfl (PureOp.move rfl) ?_
      refine SL.callo (fun aa ac => .slice aa (B.length - d) ac) rfl rfl rfl rfl rfl rfl callable15 (fun w hw => sagain_ok bs (rm9 room) B d _ _ _ (rm9_bd room).1 (by omega) rfl (by omega) w (ObjIn.of hw 0 rfl) (SliceIn.rows (hw.mem (i := 1) rfl) enc32_len (by rw [keptL_len]; exact Nat.le_refl _))) (fun aa ac => ?_)
      refine SL.norm [_, _, _, _, _, _, _, _] rfl ?_
      refine SL.pure rfl rfl rfl (PureOp.assign rfl) ?_
      refine SL.nil_then ?_
      refine WC.seq ?_
      refine WC.region ?_
      refine SL.pure rfl rfl rfl (PureOp.move rfl) ?_
      refine SL.calle rfl rfl rfl rfl rfl rfl callable17 (fun w hw => slast_ok bs (rm9 room) B d _ _ _ (rm9_bd room).1 (by omega) rfl (by omega) w (ObjIn.of hw 0 rfl)) ?_
      refine SL.norm [_, _, _, _, _, _, _, _] rfl ?_
      refine SL.pure rfl rfl rfl (PureOp.build bld32 rfl rfl) ?_
      refine SL.alloc rfl rfl zero32 (fun b6 hb6 => ?_)
      refine SL.norm [_, _, _, _, _, _, _, _, _] rfl ?_
      refine SL.store 8 rfl rfl rfl rfl sz32 rfl rfl ?_
      refine SL.norm [_, _, _, _, _, _, _, _, _] rfl ?_
      refine SL.nil_then ?_
      refine WC.seq ?_
      refine WC.seq ?_
      refine WC.region ?_
      refine SL.pure rfl rfl rfl (PureOp.assign rfl) ?_
      refine SL.nil_then ?_
      refine WC.block ?_
      refine WC.loop (σ := Nat × List ByteArray × Nat × Option Addr × Nat × Int) (fun q_ => [(0, 0, .slice abd nbd cbd), (1, 0, .int .i64 room), (2, 0, .slice aw nw cw), (7, 0, .pointer (some ⟨bs, 0, none⟩)), (8, 0, .int .i64 0), (9, 0, .pointer (some ⟨br, 0, none⟩)), (10, 0, .slice sa B.length sc), (11, 0, .slice oa no oc), (12, 0, .slice ba nk bc), (13, 0, .int .i64 ((i : Nat) : Int)), (20, 0, .slice aa (B.length - d) ac), (21, 0, .pointer (some ⟨b6, 0, none⟩)), (23, 0, .slice abd nbd cbd), (24, 0, .bool lq), (25, 0, .bool lq), (29, 0, .bool (lq || (decide (30 < ((nbd : Nat) : Int))))), (30, 0, .bool (lq || (decide (30 < ((nbd : Nat) : Int))))), (34, 0, .bool ((lq || (decide (30 < ((nbd : Nat) : Int)))) || (decide (200 < ((nw : Nat) : Int))))), (36, 0, .tuple #[.pointer (some ⟨bs, 0, none⟩), .int .i64 0]), (37, 0, .int .i64 room), (38, 0, .int .u64 (IntKind.u64.wrap room)), (39, 0, .int .u64 ((IntKind.u64.wrap room).tmod 9)), (40, 0, .int .i64 (IntKind.i64.wrap ((IntKind.u64.wrap room).tmod 9))), (41, 0, .int .i64 (rm9 room)), (42, 0, .tuple #[.pointer (some ⟨bs, 0, none⟩), .int .i64 0]), (43, 0, .pointer (some ⟨bs, 0, none⟩)), (44, 0, .int .i64 0), (45, 0, .int .i64 0), (46, 0, .bool false), (47, 0, .bool false), (48, 0, .pointer (some ⟨bs, 0, none⟩)), (49, 0, .bool false), (50, 0, .bool false), (51, 0, .pointer (some ⟨br, 0, none⟩)), (52, 0, .int .i64 ((i : Nat) : Int)), (53, 0, .slice aw nw cw), (54, 0, .int .i64 ((nw : Nat) : Int)), (55, 0, .bool (decide (((i : Nat) : Int) < ((nw : Nat) : Int)))), (167, 0, .pointer (some ⟨bs, 0, none⟩)), (168, 0, .slice aa (B.length - d) ac), (169, 0, .pointer (some ⟨bs, 0, none⟩)), (170, 0, .int .i64 (B.length : Int)), (171, 0, .agg #[.int .i64 2, .int .i64 0, .int .i64 (B.length : Int), .string (⟨#[]⟩)]), (22, 0, .int .i64 ((q_.1 : Nat) : Int))]) (fun q_ => [Item.cells bs [.int .i64 (rm9 room), .int .i64 ((B.length : Nat) : Int), .int .i64 ((d : Nat) : Int), .slice ka ((B.length) - (d)) kc] 57, Item.own w0.heap.size ka ((B.length) - (d)) kc 32 4 (cellsOf enc32 (keptL (B) (d))), Item.cells br [.slice q_.2.2.2.1 q_.2.2.1 q_.2.2.2.2.1, .bool true] 60, Item.own w0.heap.size q_.2.2.2.1 q_.2.2.1 q_.2.2.2.2.1 9 1 (cellsOf encStr (q_.2.1)), Item.own w0.heap.size sa B.length sc 9 1 (cellsOf encStr (B)), Item.own w0.heap.size oa no oc 32 4 (cellsOf enc32 (O)), Item.own w0.heap.size ba nk bc 32 4 (cellsOf enc32 (K)), Item.own w0.heap.size aa (B.length - d) ac 32 4 (cellsOf enc32 (keptL B d)), Item.cells b6 [.int .i64 2, .int .i64 0, .int .i64 q_.2.2.2.2.2, .string (⟨#[]⟩)] 32]) (fun q_ => q_.1 ≤ B.length - d ∧ q_.2.2.1 = q_.2.1.length ∧ Pre q_.2.1 B ∧ d + q_.1 ≤ q_.2.1.length ∧ (q_.1 = 0 → q_.2.2.2.2.2 = (B.length : Int)) ∧ (0 < q_.1 → q_.2.2.2.2.2 = (q_.2.1.length : Int))) (fun q_ => B.length - d - q_.1) 9 ((0, R, R.length, ra, rc, (B.length : Int))) (⟨Nat.zero_le _, rfl, hP, by show d + 0 ≤ _; omega, fun _ => rfl, fun h => absurd h (by show ¬ 0 < 0; omega)⟩) ⟨rfl, rfl, rfl, rfl, rfl, rfl, rfl, rfl, rfl, rfl, rfl, rfl, rfl, rfl, rfl, rfl, rfl, rfl, rfl, rfl, rfl, rfl, rfl, rfl, rfl, rfl, rfl, rfl, rfl, rfl, rfl, rfl, rfl, rfl, rfl, rfl, rfl, rfl, rfl, rfl, rfl, rfl, rfl, rfl, rfl, rfl, rfl, rfl, rfl, rfl, rfl, rfl, rfl, rfl, rfl, rfl, rfl, rfl, rfl, rfl, rfl, rfl, rfl, rfl, rfl, rfl, rfl, rfl, rfl, rfl, rfl, rfl, rfl, rfl, rfl, rfl, rfl, rfl, rfl, rfl, rfl, rfl, rfl, rfl, rfl, rfl, rfl, rfl, trivial⟩ rfl ?_
      rintro ⟨z, R2, NR2_, ra2, rc2, la⟩ ⟨hz, hNR2, hP2, hdz, hl0, hl1⟩
      try dsimp only at *
      subst hNR2
      refine WC.seq ?_
      refine WC.seq ?_
      refine WC.region ?_
      refine SL.pure rfl rfl rfl (PureOp.move rfl) ?_
      refine SL.pure rfl rfl rfl (PureOp.move rfl) ?_
      refine SL.pure rfl rfl rfl (PureOp.len rfl Try.underlying39) ?_
      refine SL.pure rfl rfl rfl (PureOp.lss rfl rfl) ?_
      refine SL.nil_then ?_
      refine WC.cond rfl (fun h11 => ?_) (fun h11 => ?_)
      · try simp only [Bool.and_eq_true, Bool.or_eq_true, Bool.not_eq_true', Bool.not_eq_false', Bool.and_eq_false_iff, Bool.or_eq_false_iff, decide_eq_true_eq, decide_eq_false_iff_not, Int.not_lt, Int.not_le, ne_eq, Decidable.not_not] at h11
        refine WC.skip ?_
        refine QX.then_ ?_
        refine WC.seq ?_
        refine WC.block ?_
        refine WC.region ?_
        refine SL.pure rfl rfl rfl (PureOp.move rfl) ?_
        refine SL.pure rfl rfl rfl (PureOp.move rfl) ?_
        refine SL.pure rfl rfl rfl (PureOp.move rfl) ?_
        refine SL.pure rfl rfl rfl (PureOp.indexAddrN Try.underlying39 sz32 rfl rfl (AoOk.own 7 rfl) (fun _ => by (first | omega | decide | (constructor <;> decide) | (have q := u64_bd room; omega) | (have q := rm9_bd room; unfold rm9 at q; omega) | exact Nat.mod_lt _ (by omega) | (have q := (hway i (by omega)); obtain ⟨x, hx⟩ : ∃ x : Nat, nth way i = x := ⟨(nth way i).toNat, by omega⟩; rw [hx]; refine ⟨by decide, ?_⟩; show -9223372036854775808 ≤ ((x / 4 : Nat) : Int) ∧ ((x / 4 : Nat) : Int) ≤ _; omega)))) ?_
        refine SL.pure rfl rfl rfl (PureOp.loads Try.underlying32 rfl rfl (fun _ => (RowIs.ownc 7 rfl z 0 4 (rowsF enc32 (keptL B d) _) (fun j hj => cellsOf_get enc32_len (keptL B d) _ _ (by rw [keptL_len]; omega) (by omega)))) sz32) ?_
        refine SL.callM [2, 3] rfl rfl rfl rfl rfl rfl callable23 (by decide) (recv_ok br R2 ra2 rc2 (by have q := hP2.1; omega) w0 (nth (keptL B d) z)) rfl (fun _ _ => rfl) ?_
        rintro ⟨ra3, rc3⟩ _
        refine SL.norm [_, _, _, _, _, _, _, _, _] rfl ?_
        refine SL.pure rfl rfl rfl (PureOp.move rfl) ?_
        refine SL.pure rfl rfl rfl (PureOp.extract rfl rfl) ?_
        refine SL.pure rfl rfl rfl (PureOp.extract rfl rfl) ?_
        refine SL.store 8 rfl rfl rfl rfl sz32 rfl rfl ?_
        refine SL.norm [_, _, _, _, _, _, _, _, _] rfl ?_
        refine SL.nil ?_
        refine QX.normal_in ?_
        refine QX.then_ ?_
        refine WC.region ?_
        refine SL.pure rfl rfl rfl (PureOp.move rfl) ?_
        refine SL.pure rfl rfl rfl (PureOp.addN (k := 1) rfl rfl (fun _ => by (first | omega | decide | (constructor <;> decide) | (have q := u64_bd room; omega) | (have q := rm9_bd room; unfold rm9 at q; omega) | exact Nat.mod_lt _ (by omega) | (have q := (hway i (by omega)); obtain ⟨x, hx⟩ : ∃ x : Nat, nth way i = x := ⟨(nth way i).toNat, by omega⟩; rw [hx]; refine ⟨by decide, ?_⟩; show -9223372036854775808 ≤ ((x / 4 : Nat) : Int) ∧ ((x / 4 : Nat) : Int) ≤ _; omega)))) ?_
        refine SL.pure rfl rfl rfl (PureOp.assign rfl) ?_
        refine SL.nil ?_
        have hzn : nth (keptL B d) z = dataM (((d + z : Nat) : Int) + 1) (nth B (d + z)) := by unfold keptL; rw [tab_nth _ _ (by omega)]
        have hrp := recv_pre hP2 (m := (nth (keptL B d) z)) (by rw [hzn]; exact ⟨d + z, by omega, rfl⟩)
        have hrn := recv_next hP2 (j := d + z) (by omega) (by omega)
        rw [← hzn] at hrn
        rw [hrp.2]
        refine QX.round (σ := Nat × List ByteArray × Nat × Option Addr × Nat × Int) (Ef := fun q_ => [(0, 0, .slice abd nbd cbd), (1, 0, .int .i64 room), (2, 0, .slice aw nw cw), (7, 0, .pointer (some ⟨bs, 0, none⟩)), (8, 0, .int .i64 0), (9, 0, .pointer (some ⟨br, 0, none⟩)), (10, 0, .slice sa B.length sc), (11, 0, .slice oa no oc), (12, 0, .slice ba nk bc), (13, 0, .int .i64 ((i : Nat) : Int)), (20, 0, .slice aa (B.length - d) ac), (21, 0, .pointer (some ⟨b6, 0, none⟩)), (23, 0, .slice abd nbd cbd), (24, 0, .bool lq), (25, 0, .bool lq), (29, 0, .bool (lq || (decide (30 < ((nbd : Nat) : Int))))), (30, 0, .bool (lq || (decide (30 < ((nbd : Nat) : Int))))), (34, 0, .bool ((lq || (decide (30 < ((nbd : Nat) : Int)))) || (decide (200 < ((nw : Nat) : Int))))), (36, 0, .tuple #[.pointer (some ⟨bs, 0, none⟩), .int .i64 0]), (37, 0, .int .i64 room), (38, 0, .int .u64 (IntKind.u64.wrap room)), (39, 0, .int .u64 ((IntKind.u64.wrap room).tmod 9)), (40, 0, .int .i64 (IntKind.i64.wrap ((IntKind.u64.wrap room).tmod 9))), (41, 0, .int .i64 (rm9 room)), (42, 0, .tuple #[.pointer (some ⟨bs, 0, none⟩), .int .i64 0]), (43, 0, .pointer (some ⟨bs, 0, none⟩)), (44, 0, .int .i64 0), (45, 0, .int .i64 0), (46, 0, .bool false), (47, 0, .bool false), (48, 0, .pointer (some ⟨bs, 0, none⟩)), (49, 0, .bool false), (50, 0, .bool false), (51, 0, .pointer (some ⟨br, 0, none⟩)), (52, 0, .int .i64 ((i : Nat) : Int)), (53, 0, .slice aw nw cw), (54, 0, .int .i64 ((nw : Nat) : Int)), (55, 0, .bool (decide (((i : Nat) : Int) < ((nw : Nat) : Int)))), (167, 0, .pointer (some ⟨bs, 0, none⟩)), (168, 0, .slice aa (B.length - d) ac), (169, 0, .pointer (some ⟨bs, 0, none⟩)), (170, 0, .int .i64 (B.length : Int)), (171, 0, .agg #[.int .i64 2, .int .i64 0, .int .i64 (B.length : Int), .string (⟨#[]⟩)]), (22, 0, .int .i64 ((q_.1 : Nat) : Int))]) (Hf := fun q_ => [Item.cells bs [.int .i64 (rm9 room), .int .i64 ((B.length : Nat) : Int), .int .i64 ((d : Nat) : Int), .slice ka ((B.length) - (d)) kc] 57, Item.own w0.heap.size ka ((B.length) - (d)) kc 32 4 (cellsOf enc32 (keptL (B) (d))), Item.cells br [.slice q_.2.2.2.1 q_.2.2.1 q_.2.2.2.2.1, .bool true] 60, Item.own w0.heap.size q_.2.2.2.1 q_.2.2.1 q_.2.2.2.2.1 9 1 (cellsOf encStr (q_.2.1)), Item.own w0.heap.size sa B.length sc 9 1 (cellsOf encStr (B)), Item.own w0.heap.size oa no oc 32 4 (cellsOf enc32 (O)), Item.own w0.heap.size ba nk bc 32 4 (cellsOf enc32 (K)), Item.own w0.heap.size aa (B.length - d) ac 32 4 (cellsOf enc32 (keptL B d)), Item.cells b6 [.int .i64 2, .int .i64 0, .int .i64 q_.2.2.2.2.2, .string (⟨#[]⟩)] 32]) (I := fun q_ => q_.1 ≤ B.length - d ∧ q_.2.2.1 = q_.2.1.length ∧ Pre q_.2.1 B ∧ d + q_.1 ≤ q_.2.1.length ∧ (q_.1 = 0 → q_.2.2.2.2.2 = (B.length : Int)) ∧ (0 < q_.1 → q_.2.2.2.2.2 = (q_.2.1.length : Int))) (μ := fun q_ => B.length - d - q_.1) (s := (z, R2, R2.length, ra2, rc2, la)) 9 ((z + 1, recvB R2 (nth (keptL B d) z), (recvB R2 (nth (keptL B d) z)).length, ra3, rc3, ((recvB R2 (nth (keptL B d) z)).length : Int))) ⟨⟨(by first | omega | (dsimp only; omega)), rfl, hrp.1, by show d + (z + 1) ≤ _; omega, fun h => absurd (show z + 1 = 0 from h) (by omega), fun _ => rfl⟩, by first | omega | (dsimp only; omega)⟩ ⟨rfl, rfl, rfl, rfl, rfl, rfl, rfl, rfl, rfl, rfl, rfl, rfl, rfl, rfl, rfl, rfl, rfl, rfl, rfl, rfl, rfl, rfl, rfl, rfl, rfl, rfl, rfl, rfl, rfl, rfl, rfl, rfl, rfl, rfl, rfl, rfl, rfl, rfl, rfl, rfl, rfl, rfl, rfl, rfl, rfl, rfl, rfl, rfl, rfl, rfl, rfl, rfl, rfl, rfl, rfl, rfl, rfl, rfl, rfl, rfl, rfl, rfl, rfl, rfl, rfl, rfl, rfl, rfl, rfl, rfl, rfl, rfl, rfl, rfl, rfl, rfl, rfl, rfl, rfl, rfl, rfl, rfl, rfl, rfl, rfl, rfl, rfl, rfl, trivial⟩ rfl
      · try simp only [Bool.and_eq_true, Bool.or_eq_true, Bool.not_eq_true', Bool.not_eq_false', Bool.and_eq_false_iff, Bool.or_eq_false_iff, decide_eq_true_eq, decide_eq_false_iff_not, Int.not_lt, Int.not_le, ne_eq, Decidable.not_not] at h11
        have hBR : B = R2 := pre_all hP2 (by omega)
        subst hBR
        have hla : la = (B.length : Int) := by
          rcases Nat.eq_zero_or_pos z with q | q
          · exact hl0 q
          · exact hl1 q
        subst hla
        have hak := ack_all (B := B) (d := d) (by omega)
        refine WC.exit ?_
        refine QX.exit_then ?_
        refine QX.exit_then ?_
        refine QX.exit_hit ?_
        refine QX.then_ ?_
        refine WC.seq ?_
        refine WC.region ?_
        refine SL.pure rfl rfl rfl (PureOp.move rfl) ?_
        refine SL.callo (fun ga gc => .slice ga ((B).length) gc) rfl rfl rfl rfl rfl rfl callable26 (fun w hw => (by have h := got_ok br (B) _ _ (by omega) w (ObjIn.of hw 2 rfl) (SliceIn.rows (hw.mem (i := 3) rfl) encStr_len (Nat.le_refl _)) 1 (by decide); rw [(gotL_one (B)).1, (gotL_one (B)).2, Nat.sub_zero] at h; exact h)) (fun ga gc => ?_)
        refine SL.norm [_, _, _, _, _, _, _, _, _, _] rfl ?_
        refine SL.pure rfl rfl rfl (PureOp.move rfl) ?_
        refine SL.calle rfl rfl rfl rfl rfl rfl callable25 (fun w hw => sames_ok B _ _ _ _ _ _ rfl rfl w (SliceIn.rows (hw.mem (i := 9) rfl) encStr_len (Nat.le_refl _)) (SliceIn.rows (hw.mem (i := 4) rfl) encStr_len (Nat.le_refl _)) (by omega)) ?_
        refine SL.norm [_, _, _, _, _, _, _, _, _, _] rfl ?_
        refine SL.pure rfl rfl rfl (PureOp.move rfl) ?_
        refine SL.ung rfl rfl rfl rfl ?_
        refine SL.pure rfl rfl rfl (PureOp.move rfl) ?_
        refine SL.ung rfl rfl rfl rfl ?_
        refine SL.pure rfl rfl rfl (PureOp.loads (vs := [.int .i64 2, .int .i64 0, .int .i64 (B.length : Int), .string (⟨#[]⟩)]) Try.underlying32 rfl rfl (fun _ => (RowIs.cells 8 0 4 rfl rfl)) sz32) ?_
        refine SL.ung rfl rfl rfl rfl ?_
        refine SL.callM [0, 1] rfl rfl rfl rfl rfl rfl callable12 (by decide) (acked_ok bs (rm9 room) B d _ (B.length - d) _ (rm9_bd room).1 (by omega) rfl (by omega) w0 (ackM (B.length : Int))) rfl (fun _ _ => rfl) ?_
        rintro ⟨ka5, kc5⟩ _
        refine SL.norm [_, _, _, _, _, _, _, _, _, _] rfl ?_
        refine SL.ung rfl rfl rfl rfl ?_
        refine SL.pure rfl rfl rfl (PureOp.eql rfl rfl) ?_
        refine SL.lit 195 true rfl (by rw [hak.1]; rfl) ?_
        refine SL.pure rfl rfl rfl (PureOp.pickT rfl rfl) ?_
        refine SL.pure rfl rfl rfl (PureOp.move rfl) ?_
        refine SL.ung rfl rfl rfl rfl ?_
        refine SL.pure rfl rfl rfl (PureOp.move rfl) ?_
        refine SL.ung rfl rfl rfl rfl ?_
        refine SL.calle rfl rfl rfl rfl rfl rfl callable19 (fun w hw => skept_ok bs (rm9 room) B (ackD B d (ackM (B.length : Int))) _ _ _ (rm9_bd room).1 (by rw [hak.2]; exact Nat.le_refl _) rfl (by omega) w (ObjIn.of hw 0 rfl) (SliceIn.rows (hw.mem (i := 1) rfl) enc32_len (by rw [keptL_len]; exact Nat.le_refl _))) ?_
        refine SL.norm [_, _, _, _, _, _, _, _, _, _] rfl ?_
        refine SL.ung rfl rfl rfl rfl ?_
        refine SL.pure rfl rfl rfl (PureOp.eql rfl rfl) ?_
        refine SL.lit 200 true rfl (by rw [hak.2]; simp) ?_
        refine SL.pure rfl rfl rfl (PureOp.pickT rfl rfl) ?_
        refine SL.pure rfl rfl rfl (PureOp.move rfl) ?_
        refine SL.ung rfl rfl rfl rfl ?_
        refine SL.pure rfl rfl rfl (PureOp.move rfl) ?_
        refine SL.ung rfl rfl rfl rfl ?_
        refine SL.calle rfl rfl rfl rfl rfl rfl callable17 (fun w hw => slast_ok bs (rm9 room) B (ackD B d (ackM (B.length : Int))) _ _ _ (rm9_bd room).1 (by rw [hak.2]; exact Nat.le_refl _) rfl (by omega) w (ObjIn.of hw 0 rfl)) ?_
        refine SL.norm [_, _, _, _, _, _, _, _, _, _] rfl ?_
        refine SL.ung rfl rfl rfl rfl ?_
        refine SL.pure rfl rfl rfl (PureOp.move rfl) ?_
        refine SL.ung rfl rfl rfl rfl ?_
        refine SL.pure rfl rfl rfl (PureOp.len rfl Try.underlying49) ?_
        refine SL.ung rfl rfl rfl rfl ?_
        refine SL.pure rfl rfl rfl (PureOp.eql rfl rfl) ?_
        refine SL.lit 207 true rfl (by simp) ?_
        refine SL.pure rfl rfl rfl (PureOp.pickT rfl rfl) ?_
        refine SL.pure rfl rfl rfl (PureOp.move rfl) ?_
        refine SL.ung rfl rfl rfl rfl ?_
        refine SL.calle rfl rfl rfl rfl rfl rfl callable7 (fun w hw => awake_ok w) ?_
        refine SL.norm [_, _, _, _, _, _, _, _, _, _] rfl ?_
        refine SL.pure rfl rfl rfl (PureOp.pickT rfl rfl) ?_
        refine SL.pure rfl rfl rfl (PureOp.assign rfl) ?_
        refine SL.nil_then ?_
        refine WC.ret ?_
        refine QX.ret1 rfl rfl ?_
        intro w hw
        first
          | rfl
          | (have hPre : Pre (B) (B) := (by exact hP1)
             have hPl := hPre.1
             
             rcases h11 with (q | q) | q
             · exfalso; omega
             · cases q
             · rw [decide_eq_true q]; rfl)

end Go.Proofs.Ytmnhdiblkjmmfaa
