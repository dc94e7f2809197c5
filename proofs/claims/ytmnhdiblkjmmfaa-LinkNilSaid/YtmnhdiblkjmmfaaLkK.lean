import Derived.Test.YtmnhdiblkjmmfaaLkJ
namespace Go.Proofs.Ytmnhdiblkjmmfaa
open Go Go.RowKit Eng
set_option linter.unusedVariables false
set_option linter.unusedSimpArgs false

def pk (b k : Nat) : Option Addr := if k = 0 then none else some ⟨b, 0, none⟩
theorem pk_get {b k : Nat} (h : k < 2) : [Value.pointer none, .pointer (some ⟨b, 0, none⟩)][k * 1 + 0]? = some (.pointer (pk b k)) := by
  rcases k with _ | _ | k
  · rfl
  · rfl
  · omega
theorem pk_dead {w : World} {b k : Nat} {Z : List Value} (h : ObjIn w b Z) : pk b k = none ∨ ∃ c, pk b k = some ⟨c, 0, none⟩ ∧ ObjIn w c Z := by
  unfold pk
  split
  · exact .inl rfl
  · exact .inr ⟨b, rfl, h⟩
set_option maxHeartbeats 4000000 in
set_option maxRecDepth 100000 in
theorem nil_law (m : Msg) (f : Int) (w0 : World) : FnC Try.prog 6 [.agg #[.int .i64 m.1, .int .i64 m.2.1, .int .i64 m.2.2.1, .string m.2.2.2], .int .i64 f] w0 fun v w' => v = .bool true := by
  refine fnc (N := 107) Try.func6 rfl rfl rfl ?_
  refine WC.seq ?_
  refine WC.region ?_
  refine SL.box rfl rfl rfl (fun b1 hb1 => ?_)
  refine SL.norm [_] rfl ?_
  refine SL.pure rfl rfl rfl (PureOp.assign rfl) ?_
  refine SL.nil_then ?_
  refine WC.seq ?_
  refine WC.seq ?_
  refine WC.region ?_
  refine SL.pure rfl rfl rfl (PureOp.fieldAddrT 3 Try.underlying32 rfl sz9 rfl rfl) ?_
  refine SL.pure rfl rfl rfl (PureOp.load (v := .string m.2.2.2) Try.underlying9 rfl rfl (fun _ => (CellIs.cells 0 rfl rfl))) ?_
  refine SL.pure rfl rfl rfl (PureOp.lens rfl Try.underlying9) ?_
  refine SL.pure rfl rfl rfl (PureOp.gtr rfl rfl) ?_
  refine SL.nil_then ?_
  refine WC.cond rfl (fun h1 => ?_) (fun h1 => ?_)
  · try simp only [Bool.and_eq_true, Bool.or_eq_true, Bool.not_eq_true', Bool.not_eq_false', Bool.and_eq_false_iff, Bool.or_eq_false_iff, decide_eq_true_eq, decide_eq_false_iff_not, Int.not_lt, Int.not_le, ne_eq, Decidable.not_not] at h1
    refine WC.seq ?_
    refine WC.region ?_
    refine SL.calle rfl rfl rfl rfl rfl rfl callable7 (fun w hw => awake_ok w) ?_
    refine SL.norm [_] rfl ?_
    refine SL.pure rfl rfl rfl (PureOp.assign rfl) ?_
    refine SL.nil_then ?_
    refine WC.ret ?_
    refine QX.ret_then ?_
    refine QX.ret1 rfl rfl ?_
    intro w hw
    rfl
  · try simp only [Bool.and_eq_true, Bool.or_eq_true, Bool.not_eq_true', Bool.not_eq_false', Bool.and_eq_false_iff, Bool.or_eq_false_iff, decide_eq_true_eq, decide_eq_false_iff_not, Int.not_lt, Int.not_le, ne_eq, Decidable.not_not] at h1
    refine WC.skip ?_
    refine QX.then_ ?_
    refine WC.seq ?_
    refine WC.region ?_
    refine SL.pure rfl rfl rfl (PureOp.build bld57 rfl rfl) ?_
    refine SL.box rfl rfl rfl (fun b2 hb2 => ?_)
    refine SL.norm [_, _] rfl ?_
    refine SL.buildSlice rfl rfl Try.underlying58 elem24 rfl rfl rfl rfl (fun b3 hb3 => ?_)
    refine SL.norm [_, _, _] rfl ?_
    refine SL.pure rfl rfl rfl (PureOp.assign rfl) ?_
    refine SL.nil_then ?_
    refine WC.seq ?_
    refine WC.region ?_
    refine SL.pure rfl rfl rfl (PureOp.build bld60 rfl rfl) ?_
    refine SL.box rfl rfl rfl (fun b4 hb4 => ?_)
    refine SL.norm [_, _, _, _] rfl ?_
    refine SL.buildSlice rfl rfl Try.underlying61 elem43 rfl rfl rfl rfl (fun b5 hb5 => ?_)
    refine SL.norm [_, _, _, _, _] rfl ?_
    refine SL.pure rfl rfl rfl (PureOp.assign rfl) ?_
    refine SL.nil_then ?_
    refine WC.seq ?_
    refine WC.seq ?_
    refine WC.region ?_
    refine SL.pure rfl rfl rfl (PureOp.assign rfl) ?_
    refine SL.nil_then ?_
    refine WC.block ?_
    refine WC.loop (σ := Nat) (fun q_ => [(0, 0, .agg #[.int .i64 m.1, .int .i64 m.2.1, .int .i64 m.2.2.1, .string m.2.2.2]), (1, 0, .int .i64 f), (2, 0, .pointer (some ⟨b1, 0, none⟩)), (5, 0, .slice (some ⟨b3, 0, none⟩) 2 2), (6, 0, .slice (some ⟨b5, 0, none⟩) 2 2), (12, 0, .pointer (some ⟨b1, 3, none⟩)), (13, 0, .string m.2.2.2), (14, 0, .int .i64 ((m.2.2.2.size : Nat) : Int)), (15, 0, .bool (decide (300 < ((m.2.2.2.size : Nat) : Int)))), (17, 0, .agg #[.int .i64 0, .int .i64 0, .int .i64 0, .slice none 0 0]), (18, 0, .pointer (some ⟨b2, 0, none⟩)), (19, 0, .slice (some ⟨b3, 0, none⟩) 2 2), (20, 0, .agg #[.slice none 0 0, .bool false]), (21, 0, .pointer (some ⟨b4, 0, none⟩)), (22, 0, .slice (some ⟨b5, 0, none⟩) 2 2), (7, 0, .int .i64 ((q_ : Nat) : Int))]) (fun q_ => [Item.cells b1 [.int .i64 m.1, .int .i64 m.2.1, .int .i64 m.2.2.1, .string m.2.2.2] 32, Item.cells b2 [.int .i64 0, .int .i64 0, .int .i64 0, .slice none 0 0] 57, Item.own w0.heap.size (some ⟨b3, 0, none⟩) 2 2 24 1 ([.pointer none, .pointer (some ⟨b2, 0, none⟩)]), Item.cells b4 [.slice none 0 0, .bool false] 60, Item.own w0.heap.size (some ⟨b5, 0, none⟩) 2 2 43 1 ([.pointer none, .pointer (some ⟨b4, 0, none⟩)])]) (fun q_ => q_ ≤ 2) (fun q_ => 2 - q_) 5 (0) (Nat.zero_le _) ⟨rfl, rfl, rfl, rfl, rfl, rfl, rfl, rfl, rfl, rfl, rfl, rfl, rfl, rfl, rfl, rfl, rfl, rfl, rfl, rfl, rfl, rfl, rfl, rfl, rfl, rfl, rfl, rfl, rfl, rfl, rfl, rfl, trivial⟩ rfl ?_
    rintro k hk
    refine WC.seq ?_
    refine WC.seq ?_
    refine WC.region ?_
    refine SL.pure rfl rfl rfl (PureOp.move rfl) ?_
    refine SL.pure rfl rfl rfl (PureOp.lss rfl rfl) ?_
    refine SL.nil_then ?_
    refine WC.cond rfl (fun h2 => ?_) (fun h2 => ?_)
    · try simp only [Bool.and_eq_true, Bool.or_eq_true, Bool.not_eq_true', Bool.not_eq_false', Bool.and_eq_false_iff, Bool.or_eq_false_iff, decide_eq_true_eq, decide_eq_false_iff_not, Int.not_lt, Int.not_le, ne_eq, Decidable.not_not] at h2
      refine WC.skip ?_
      refine QX.then_ ?_
      refine WC.seq ?_
      refine WC.block ?_
      refine WC.cutx (σ := Nat) (fun q_ => [(0, 0, .agg #[.int .i64 m.1, .int .i64 m.2.1, .int .i64 m.2.2.1, .string m.2.2.2]), (1, 0, .int .i64 f), (2, 0, .pointer (some ⟨b1, 0, none⟩)), (5, 0, .slice (some ⟨b3, 0, none⟩) 2 2), (6, 0, .slice (some ⟨b5, 0, none⟩) 2 2), (7, 0, .int .i64 ((k : Nat) : Int)), (12, 0, .pointer (some ⟨b1, 3, none⟩)), (13, 0, .string m.2.2.2), (14, 0, .int .i64 ((m.2.2.2.size : Nat) : Int)), (15, 0, .bool (decide (300 < ((m.2.2.2.size : Nat) : Int)))), (17, 0, .agg #[.int .i64 0, .int .i64 0, .int .i64 0, .slice none 0 0]), (18, 0, .pointer (some ⟨b2, 0, none⟩)), (19, 0, .slice (some ⟨b3, 0, none⟩) 2 2), (20, 0, .agg #[.slice none 0 0, .bool false]), (21, 0, .pointer (some ⟨b4, 0, none⟩)), (22, 0, .slice (some ⟨b5, 0, none⟩) 2 2), (23, 0, .int .i64 ((k : Nat) : Int)), (24, 0, .bool (decide (((k : Nat) : Int) < 2))), (8, 0, .pointer (some ⟨q_, 0, none⟩)), (9, 0, .int .i64 1)]) (fun q_ => [Item.cells b1 [.int .i64 m.1, .int .i64 m.2.1, .int .i64 m.2.2.1, .string m.2.2.2] 32, Item.cells b2 [.int .i64 0, .int .i64 0, .int .i64 0, .slice none 0 0] 57, Item.own w0.heap.size (some ⟨b3, 0, none⟩) 2 2 24 1 ([.pointer none, .pointer (some ⟨b2, 0, none⟩)]), Item.cells b4 [.slice none 0 0, .bool false] 60, Item.own w0.heap.size (some ⟨b5, 0, none⟩) 2 2 43 1 ([.pointer none, .pointer (some ⟨b4, 0, none⟩)]), Item.cells q_ [.int .i64 0, .int .i64 0, .int .i64 0, .string (⟨#[]⟩)] 32]) (fun q_ => True) ?_ ?_
      · skip
        refine WC.drawH 13 [false, false, false, false, false, false, false, false, false, false, false, false, false] rfl rfl rfl ?_
        refine SD.take 0 [true, false, false, false, false, false, false, false, false, false, false, false, false] rfl (by kernel_rfl) rfl (fun _ h => h) rfl rfl rfl (PureOp.move rfl) ?_
        refine SD.take 1 [true, true, false, false, false, false, false, false, false, false, false, false, false] rfl (by kernel_rfl) rfl (fun _ h => h) rfl rfl rfl (PureOp.move rfl) ?_
        refine SD.take 2 [true, true, true, false, false, false, false, false, false, false, false, false, false] rfl (by kernel_rfl) rfl (fun _ h => h) rfl rfl rfl (PureOp.indexAddrN Try.underlying58 sz24 rfl rfl AoOk.lit (fun _ => by omega)) ?_
        refine SD.take 3 [true, true, true, true, false, false, false, false, false, false, false, false, false] rfl (by kernel_rfl) rfl (fun _ h => h) rfl rfl rfl (PureOp.load (v := .pointer (pk b2 k)) Try.underlying24 rfl rfl (fun _ => (CellIs.ownc 2 rfl k 0 (by exact pk_get (by omega))))) ?_
        refine SD.take 4 [true, true, true, true, true, false, false, false, false, false, false, false, false] rfl (by kernel_rfl) rfl (fun _ h => h) rfl rfl rfl (PureOp.fieldAddrT 3 Try.underlying32 rfl sz9 rfl rfl) ?_
        refine SD.take 5 [true, true, true, true, true, true, false, false, false, false, false, false, false] rfl (by kernel_rfl) rfl (fun _ h => h) rfl rfl rfl (PureOp.load (v := .string m.2.2.2) Try.underlying9 rfl rfl (fun _ => (CellIs.cells 0 rfl rfl))) ?_
        refine SD.all [6, 10] (by kernel_rfl) (by simp) ⟨⟨_, [true, true, true, true, true, true, true, false, false, false, false, false, false], rfl, rfl, ?_⟩, ⟨_, [true, true, true, true, true, true, false, false, false, false, true, false, false], rfl, rfl, ?_⟩, trivial⟩
        · skip
          refine SL.calle rfl rfl rfl rfl rfl rfl callable10 (fun w hw => dsend_dead (pk b2 k) _ w (pk_dead (ObjIn.of hw 1 rfl))) ?_
          refine SL.norm [_, _, _, _, _] rfl ?_
          refine SD.back (fun _ h => h) ?_
          refine SD.take 7 [true, true, true, true, true, true, true, true, false, false, false, false, false] rfl (by kernel_rfl) rfl (fun _ h => h) rfl rfl rfl (PureOp.move rfl) ?_
          refine SD.take 8 [true, true, true, true, true, true, true, true, true, false, false, false, false] rfl (by kernel_rfl) rfl (fun _ h => h) rfl rfl rfl (PureOp.extract rfl rfl) ?_
          refine SD.take 9 [true, true, true, true, true, true, true, true, true, true, false, false, false] rfl (by kernel_rfl) rfl (fun _ h => h) rfl rfl rfl (PureOp.extract rfl rfl) ?_
          refine SD.one 10 [true, true, true, true, true, true, true, true, true, true, true, false, false] (by kernel_rfl) rfl rfl ?_
          refine SL.alloc rfl rfl zero32 (fun b6 hb6 => ?_)
          refine SL.norm [_, _, _, _, _, _] rfl ?_
          refine SD.back (fun _ h => HeapOk.take h 5) ?_
          refine SD.one 11 [true, true, true, true, true, true, true, true, true, true, true, true, false] (by kernel_rfl) rfl rfl ?_
          refine SL.store 5 rfl rfl rfl rfl sz32 rfl rfl ?_
          refine SL.norm [_, _, _, _, _, _] rfl ?_
          refine SD.back (fun _ h => HeapOk.take h 5) ?_
          refine SD.take 12 [true, true, true, true, true, true, true, true, true, true, true, true, true] rfl (by kernel_rfl) rfl (fun _ h => HeapOk.take h 5) rfl rfl rfl (PureOp.assign rfl) ?_
          refine SD.done (by kernel_rfl) ?_
          refine QX.ofK ?_
          refine QX.cutx 6 (b6) (trivial) ⟨rfl, rfl, rfl, rfl, rfl, rfl, rfl, rfl, rfl, rfl, rfl, rfl, rfl, rfl, rfl, rfl, rfl, rfl, rfl, rfl, rfl, rfl, rfl, rfl, rfl, rfl, rfl, rfl, rfl, rfl, rfl, rfl, rfl, rfl, rfl, rfl, rfl, rfl, rfl, rfl, trivial⟩ rfl
        · skip
          refine SL.alloc rfl rfl zero32 (fun b7 hb7 => ?_)
          refine SL.norm [_, _, _, _, _, _] rfl ?_
          refine SD.back (fun _ h => HeapOk.take h 5) ?_
          refine SD.one 6 [true, true, true, true, true, true, true, false, false, false, true, false, false] (by kernel_rfl) rfl rfl ?_
          refine SL.calle rfl rfl rfl rfl rfl rfl callable10 (fun w hw => dsend_dead (pk b2 k) _ w (pk_dead (ObjIn.of hw 1 rfl))) ?_
          refine SL.norm [_, _, _, _, _, _] rfl ?_
          refine SD.back (fun _ h => HeapOk.take h 5) ?_
          refine SD.take 7 [true, true, true, true, true, true, true, true, false, false, true, false, false] rfl (by kernel_rfl) rfl (fun _ h => HeapOk.take h 5) rfl rfl rfl (PureOp.move rfl) ?_
          refine SD.take 8 [true, true, true, true, true, true, true, true, true, false, true, false, false] rfl (by kernel_rfl) rfl (fun _ h => HeapOk.take h 5) rfl rfl rfl (PureOp.extract rfl rfl) ?_
          refine SD.take 9 [true, true, true, true, true, true, true, true, true, true, true, false, false] rfl (by kernel_rfl) rfl (fun _ h => HeapOk.take h 5) rfl rfl rfl (PureOp.extract rfl rfl) ?_
          refine SD.one 11 [true, true, true, true, true, true, true, true, true, true, true, true, false] (by kernel_rfl) rfl rfl ?_
          refine SL.store 5 rfl rfl rfl rfl sz32 rfl rfl ?_
          refine SL.norm [_, _, _, _, _, _] rfl ?_
          refine SD.back (fun _ h => HeapOk.take h 5) ?_
          refine SD.take 12 [true, true, true, true, true, true, true, true, true, true, true, true, true] rfl (by kernel_rfl) rfl (fun _ h => HeapOk.take h 5) rfl rfl rfl (PureOp.assign rfl) ?_
          refine SD.done (by kernel_rfl) ?_
          refine QX.ofK ?_
          refine QX.cutx 6 (b7) (trivial) ⟨rfl, rfl, rfl, rfl, rfl, rfl, rfl, rfl, rfl, rfl, rfl, rfl, rfl, rfl, rfl, rfl, rfl, rfl, rfl, rfl, rfl, rfl, rfl, rfl, rfl, rfl, rfl, rfl, rfl, rfl, rfl, rfl, rfl, rfl, rfl, rfl, rfl, rfl, rfl, rfl, trivial⟩ rfl
      rintro c _
      refine WC.cutx (σ := Nat) (fun q_ => [(0, 0, .agg #[.int .i64 m.1, .int .i64 m.2.1, .int .i64 m.2.2.1, .string m.2.2.2]), (1, 0, .int .i64 f), (2, 0, .pointer (some ⟨b1, 0, none⟩)), (5, 0, .slice (some ⟨b3, 0, none⟩) 2 2), (6, 0, .slice (some ⟨b5, 0, none⟩) 2 2), (7, 0, .int .i64 ((k : Nat) : Int)), (8, 0, .pointer (some ⟨c, 0, none⟩)), (9, 0, .int .i64 1), (12, 0, .pointer (some ⟨b1, 3, none⟩)), (13, 0, .string m.2.2.2), (14, 0, .int .i64 ((m.2.2.2.size : Nat) : Int)), (15, 0, .bool (decide (300 < ((m.2.2.2.size : Nat) : Int)))), (17, 0, .agg #[.int .i64 0, .int .i64 0, .int .i64 0, .slice none 0 0]), (18, 0, .pointer (some ⟨b2, 0, none⟩)), (19, 0, .slice (some ⟨b3, 0, none⟩) 2 2), (20, 0, .agg #[.slice none 0 0, .bool false]), (21, 0, .pointer (some ⟨b4, 0, none⟩)), (22, 0, .slice (some ⟨b5, 0, none⟩) 2 2), (23, 0, .int .i64 ((k : Nat) : Int)), (24, 0, .bool (decide (((k : Nat) : Int) < 2))), (10, 0, .pointer (some ⟨q_, 0, none⟩)), (11, 0, .int .i64 1)]) (fun q_ => [Item.cells b1 [.int .i64 m.1, .int .i64 m.2.1, .int .i64 m.2.2.1, .string m.2.2.2] 32, Item.cells b2 [.int .i64 0, .int .i64 0, .int .i64 0, .slice none 0 0] 57, Item.own w0.heap.size (some ⟨b3, 0, none⟩) 2 2 24 1 ([.pointer none, .pointer (some ⟨b2, 0, none⟩)]), Item.cells b4 [.slice none 0 0, .bool false] 60, Item.own w0.heap.size (some ⟨b5, 0, none⟩) 2 2 43 1 ([.pointer none, .pointer (some ⟨b4, 0, none⟩)]), Item.cells c [.int .i64 0, .int .i64 0, .int .i64 0, .string (⟨#[]⟩)] 32, Item.cells q_ [.int .i64 0, .int .i64 0, .int .i64 0, .string (⟨#[]⟩)] 32]) (fun q_ => True) ?_ ?_
      · skip
        refine WC.drawH 12 [false, false, false, false, false, false, false, false, false, false, false, false] rfl rfl rfl ?_
        refine SD.take 0 [true, false, false, false, false, false, false, false, false, false, false, false] rfl (by kernel_rfl) rfl (fun _ h => h) rfl rfl rfl (PureOp.move rfl) ?_
        refine SD.take 1 [true, true, false, false, false, false, false, false, false, false, false, false] rfl (by kernel_rfl) rfl (fun _ h => h) rfl rfl rfl (PureOp.move rfl) ?_
        refine SD.take 2 [true, true, true, false, false, false, false, false, false, false, false, false] rfl (by kernel_rfl) rfl (fun _ h => h) rfl rfl rfl (PureOp.indexAddrN Try.underlying61 sz43 rfl rfl AoOk.lit (fun _ => by omega)) ?_
        refine SD.take 3 [true, true, true, true, false, false, false, false, false, false, false, false] rfl (by kernel_rfl) rfl (fun _ h => h) rfl rfl rfl (PureOp.load (v := .pointer (pk b4 k)) Try.underlying43 rfl rfl (fun _ => (CellIs.ownc 4 rfl k 0 (by exact pk_get (by omega))))) ?_
        refine SD.take 4 [true, true, true, true, true, false, false, false, false, false, false, false] rfl (by kernel_rfl) rfl (fun _ h => h) rfl rfl rfl (PureOp.loads (vs := [.int .i64 m.1, .int .i64 m.2.1, .int .i64 m.2.2.1, .string m.2.2.2]) Try.underlying32 rfl rfl (fun _ => (RowIs.cells 0 0 4 rfl rfl)) sz32) ?_
        refine SD.all [5, 9] (by kernel_rfl) (by simp) ⟨⟨_, [true, true, true, true, true, true, false, false, false, false, false, false], rfl, rfl, ?_⟩, ⟨_, [true, true, true, true, true, false, false, false, false, true, false, false], rfl, rfl, ?_⟩, trivial⟩
        · skip
          refine SL.calle rfl rfl rfl rfl rfl rfl callable23 (fun w hw => drecv_dead (pk b4 k) m w (pk_dead (ObjIn.of hw 3 rfl))) ?_
          refine SL.norm [_, _, _, _, _, _] rfl ?_
          refine SD.back (fun _ h => h) ?_
          refine SD.take 6 [true, true, true, true, true, true, true, false, false, false, false, false] rfl (by kernel_rfl) rfl (fun _ h => h) rfl rfl rfl (PureOp.move rfl) ?_
          refine SD.take 7 [true, true, true, true, true, true, true, true, false, false, false, false] rfl (by kernel_rfl) rfl (fun _ h => h) rfl rfl rfl (PureOp.extract rfl rfl) ?_
          refine SD.take 8 [true, true, true, true, true, true, true, true, true, false, false, false] rfl (by kernel_rfl) rfl (fun _ h => h) rfl rfl rfl (PureOp.extract rfl rfl) ?_
          refine SD.one 9 [true, true, true, true, true, true, true, true, true, true, false, false] (by kernel_rfl) rfl rfl ?_
          refine SL.alloc rfl rfl zero32 (fun b8 hb8 => ?_)
          refine SL.norm [_, _, _, _, _, _, _] rfl ?_
          refine SD.back (fun _ h => HeapOk.take h 6) ?_
          refine SD.one 10 [true, true, true, true, true, true, true, true, true, true, true, false] (by kernel_rfl) rfl rfl ?_
          refine SL.store 6 rfl rfl rfl rfl sz32 rfl rfl ?_
          refine SL.norm [_, _, _, _, _, _, _] rfl ?_
          refine SD.back (fun _ h => HeapOk.take h 6) ?_
          refine SD.take 11 [true, true, true, true, true, true, true, true, true, true, true, true] rfl (by kernel_rfl) rfl (fun _ h => HeapOk.take h 6) rfl rfl rfl (PureOp.assign rfl) ?_
          refine SD.done (by kernel_rfl) ?_
          refine QX.ofK ?_
          refine QX.cutx 7 (b8) (trivial) ⟨rfl, rfl, rfl, rfl, rfl, rfl, rfl, rfl, rfl, rfl, rfl, rfl, rfl, rfl, rfl, rfl, rfl, rfl, rfl, rfl, rfl, rfl, rfl, rfl, rfl, rfl, rfl, rfl, rfl, rfl, rfl, rfl, rfl, rfl, rfl, rfl, rfl, rfl, rfl, rfl, rfl, rfl, rfl, rfl, trivial⟩ rfl
        · skip
          refine SL.alloc rfl rfl zero32 (fun b9 hb9 => ?_)
          refine SL.norm [_, _, _, _, _, _, _] rfl ?_
          refine SD.back (fun _ h => HeapOk.take h 6) ?_
          refine SD.one 5 [true, true, true, true, true, true, false, false, false, true, false, false] (by kernel_rfl) rfl rfl ?_
          refine SL.calle rfl rfl rfl rfl rfl rfl callable23 (fun w hw => drecv_dead (pk b4 k) m w (pk_dead (ObjIn.of hw 3 rfl))) ?_
          refine SL.norm [_, _, _, _, _, _, _] rfl ?_
          refine SD.back (fun _ h => HeapOk.take h 6) ?_
          refine SD.take 6 [true, true, true, true, true, true, true, false, false, true, false, false] rfl (by kernel_rfl) rfl (fun _ h => HeapOk.take h 6) rfl rfl rfl (PureOp.move rfl) ?_
          refine SD.take 7 [true, true, true, true, true, true, true, true, false, true, false, false] rfl (by kernel_rfl) rfl (fun _ h => HeapOk.take h 6) rfl rfl rfl (PureOp.extract rfl rfl) ?_
          refine SD.take 8 [true, true, true, true, true, true, true, true, true, true, false, false] rfl (by kernel_rfl) rfl (fun _ h => HeapOk.take h 6) rfl rfl rfl (PureOp.extract rfl rfl) ?_
          refine SD.one 10 [true, true, true, true, true, true, true, true, true, true, true, false] (by kernel_rfl) rfl rfl ?_
          refine SL.store 6 rfl rfl rfl rfl sz32 rfl rfl ?_
          refine SL.norm [_, _, _, _, _, _, _] rfl ?_
          refine SD.back (fun _ h => HeapOk.take h 6) ?_
          refine SD.take 11 [true, true, true, true, true, true, true, true, true, true, true, true] rfl (by kernel_rfl) rfl (fun _ h => HeapOk.take h 6) rfl rfl rfl (PureOp.assign rfl) ?_
          refine SD.done (by kernel_rfl) ?_
          refine QX.ofK ?_
          refine QX.cutx 7 (b9) (trivial) ⟨rfl, rfl, rfl, rfl, rfl, rfl, rfl, rfl, rfl, rfl, rfl, rfl, rfl, rfl, rfl, rfl, rfl, rfl, rfl, rfl, rfl, rfl, rfl, rfl, rfl, rfl, rfl, rfl, rfl, rfl, rfl, rfl, rfl, rfl, rfl, rfl, rfl, rfl, rfl, rfl, rfl, rfl, rfl, rfl, trivial⟩ rfl
      rintro e _
      refine WC.seq ?_
      refine WC.quiet rfl (by kernel_rfl) ?_
      refine SQ.pure rfl rfl rfl (PureOp.move rfl) ?_
      refine SQ.pure rfl rfl rfl (PureOp.neq rfl rfl) ?_
      refine SQ.pure rfl rfl rfl (PureOp.move rfl) ?_
      refine SQ.newg 48 false rfl ?_
      refine SQ.gpure (c := 1) rfl rfl rfl rfl rfl rfl rfl (PureOp.move rfl) ?_
      refine SQ.gpure (c := 1) rfl rfl rfl rfl rfl rfl rfl (PureOp.neq rfl rfl) ?_
      refine SQ.pure rfl rfl rfl (PureOp.or_ rfl rfl rfl rfl) ?_
      refine SQ.pure rfl rfl rfl (PureOp.move rfl) ?_
      refine SQ.newg 52 false rfl ?_
      refine SQ.gpure (c := 2) rfl rfl rfl rfl rfl rfl rfl (PureOp.loads (vs := [.int .i64 0, .int .i64 0, .int .i64 0, .string (⟨#[]⟩)]) Try.underlying32 rfl rfl (fun _ => (RowIs.cells 5 0 4 rfl rfl)) sz32) ?_
      refine SQ.gpure (c := 2) rfl rfl rfl rfl rfl rfl rfl (PureOp.build bld32 rfl rfl) ?_
      refine SQ.gpure (c := 2) rfl rfl rfl rfl rfl rfl rfl (PureOp.neqa rfl rfl flat32 rfl) ?_
      refine SQ.pure rfl rfl rfl (PureOp.or_ rfl rfl rfl rfl) ?_
      refine SQ.pure rfl rfl rfl (PureOp.move rfl) ?_
      refine SQ.newg 57 false rfl ?_
      refine SQ.gpure (c := 3) rfl rfl rfl rfl rfl rfl rfl (PureOp.loads (vs := [.int .i64 0, .int .i64 0, .int .i64 0, .string (⟨#[]⟩)]) Try.underlying32 rfl rfl (fun _ => (RowIs.cells 6 0 4 rfl rfl)) sz32) ?_
      refine SQ.gpure (c := 3) rfl rfl rfl rfl rfl rfl rfl (PureOp.build bld32 rfl rfl) ?_
      refine SQ.gpure (c := 3) rfl rfl rfl rfl rfl rfl rfl (PureOp.neqa rfl rfl flat32 rfl) ?_
      refine SQ.pure rfl rfl rfl (PureOp.or_ rfl rfl rfl rfl) ?_
      refine SQ.pure rfl rfl rfl (PureOp.move rfl) ?_
      refine SQ.newg 62 false rfl ?_
      refine SQ.gpure (c := 4) rfl rfl rfl rfl rfl rfl rfl (PureOp.move rfl) ?_
      refine SQ.gpure (c := 4) rfl rfl rfl rfl rfl rfl rfl (PureOp.move rfl) ?_
      refine SQ.gpure (c := 4) rfl rfl rfl rfl rfl rfl rfl (PureOp.indexAddrN Try.underlying58 sz24 rfl rfl AoOk.lit (by intro hg; simp [gval] at hg; omega)) ?_
      refine SQ.gpure (c := 4) rfl rfl rfl rfl rfl rfl rfl (PureOp.load (v := .pointer (pk b2 k)) Try.underlying24 rfl rfl (fun _ => (CellIs.ownc 2 rfl k 0 (by exact pk_get (by omega))))) ?_
      refine SQ.gpure (c := 4) rfl rfl rfl rfl rfl rfl rfl (PureOp.loads (vs := [.int .i64 m.1, .int .i64 m.2.1, .int .i64 m.2.2.1, .string m.2.2.2]) Try.underlying32 rfl rfl (fun _ => (RowIs.cells 0 0 4 rfl rfl)) sz32) ?_
      refine SQ.gcalle (c := 4) rfl rfl rfl rfl rfl rfl rfl rfl rfl rfl callable12 (by intro hg; simp [gval] at hg; exact (fun w hw => dacked_dead (pk b2 k) m w (pk_dead (ObjIn.of hw 1 rfl)))) ?_
      refine SQ.gpure (c := 4) rfl rfl rfl rfl rfl rfl rfl (PureOp.neq rfl rfl) ?_
      refine SQ.pure rfl rfl rfl (PureOp.or_ rfl rfl rfl rfl) ?_
      refine SQ.pure rfl rfl rfl (PureOp.move rfl) ?_
      refine SQ.newg 71 false rfl ?_
      refine SQ.gpure (c := 5) rfl rfl rfl rfl rfl rfl rfl (PureOp.move rfl) ?_
      refine SQ.gpure (c := 5) rfl rfl rfl rfl rfl rfl rfl (PureOp.move rfl) ?_
      refine SQ.gpure (c := 5) rfl rfl rfl rfl rfl rfl rfl (PureOp.indexAddrN Try.underlying58 sz24 rfl rfl AoOk.lit (by intro hg; simp [gval] at hg; omega)) ?_
      refine SQ.gpure (c := 5) rfl rfl rfl rfl rfl rfl rfl (PureOp.load (v := .pointer (pk b2 k)) Try.underlying24 rfl rfl (fun _ => (CellIs.ownc 2 rfl k 0 (by exact pk_get (by omega))))) ?_
      refine SQ.gcalle (c := 5) rfl rfl rfl rfl rfl rfl rfl rfl rfl rfl callable15 (by intro hg; simp [gval] at hg; exact (fun w hw => dagain_dead (pk b2 k) w (pk_dead (ObjIn.of hw 1 rfl)))) ?_
      refine SQ.gpure (c := 5) rfl rfl rfl rfl rfl rfl rfl (PureOp.len rfl Try.underlying39) ?_
      refine SQ.gpure (c := 5) rfl rfl rfl rfl rfl rfl rfl (PureOp.neq rfl rfl) ?_
      refine SQ.pure rfl rfl rfl (PureOp.or_ rfl rfl rfl rfl) ?_
      refine SQ.pure rfl rfl rfl (PureOp.move rfl) ?_
      refine SQ.newg 80 false rfl ?_
      refine SQ.gpure (c := 6) rfl rfl rfl rfl rfl rfl rfl (PureOp.move rfl) ?_
      refine SQ.gpure (c := 6) rfl rfl rfl rfl rfl rfl rfl (PureOp.move rfl) ?_
      refine SQ.gpure (c := 6) rfl rfl rfl rfl rfl rfl rfl (PureOp.indexAddrN Try.underlying58 sz24 rfl rfl AoOk.lit (by intro hg; simp [gval] at hg; omega)) ?_
      refine SQ.gpure (c := 6) rfl rfl rfl rfl rfl rfl rfl (PureOp.load (v := .pointer (pk b2 k)) Try.underlying24 rfl rfl (fun _ => (CellIs.ownc 2 rfl k 0 (by exact pk_get (by omega))))) ?_
      refine SQ.gcalle (c := 6) rfl rfl rfl rfl rfl rfl rfl rfl rfl rfl callable17 (by intro hg; simp [gval] at hg; exact (fun w hw => dlast_dead (pk b2 k) w (pk_dead (ObjIn.of hw 1 rfl)))) ?_
      refine SQ.gpure (c := 6) rfl rfl rfl rfl rfl rfl rfl (PureOp.neq rfl rfl) ?_
      refine SQ.pure rfl rfl rfl (PureOp.or_ rfl rfl rfl rfl) ?_
      refine SQ.pure rfl rfl rfl (PureOp.move rfl) ?_
      refine SQ.newg 88 false rfl ?_
      refine SQ.gpure (c := 7) rfl rfl rfl rfl rfl rfl rfl (PureOp.move rfl) ?_
      refine SQ.gpure (c := 7) rfl rfl rfl rfl rfl rfl rfl (PureOp.move rfl) ?_
      refine SQ.gpure (c := 7) rfl rfl rfl rfl rfl rfl rfl (PureOp.indexAddrN Try.underlying58 sz24 rfl rfl AoOk.lit (by intro hg; simp [gval] at hg; omega)) ?_
      refine SQ.gpure (c := 7) rfl rfl rfl rfl rfl rfl rfl (PureOp.load (v := .pointer (pk b2 k)) Try.underlying24 rfl rfl (fun _ => (CellIs.ownc 2 rfl k 0 (by exact pk_get (by omega))))) ?_
      refine SQ.gcalle (c := 7) rfl rfl rfl rfl rfl rfl rfl rfl rfl rfl callable19 (by intro hg; simp [gval] at hg; exact (fun w hw => dkept_dead (pk b2 k) w (pk_dead (ObjIn.of hw 1 rfl)))) ?_
      refine SQ.gpure (c := 7) rfl rfl rfl rfl rfl rfl rfl (PureOp.neq rfl rfl) ?_
      refine SQ.pure rfl rfl rfl (PureOp.or_ rfl rfl rfl rfl) ?_
      refine SQ.pure rfl rfl rfl (PureOp.move rfl) ?_
      refine SQ.newg 96 false rfl ?_
      refine SQ.gpure (c := 8) rfl rfl rfl rfl rfl rfl rfl (PureOp.move rfl) ?_
      refine SQ.gpure (c := 8) rfl rfl rfl rfl rfl rfl rfl (PureOp.move rfl) ?_
      refine SQ.gpure (c := 8) rfl rfl rfl rfl rfl rfl rfl (PureOp.indexAddrN Try.underlying61 sz43 rfl rfl AoOk.lit (by intro hg; simp [gval] at hg; omega)) ?_
      refine SQ.gpure (c := 8) rfl rfl rfl rfl rfl rfl rfl (PureOp.load (v := .pointer (pk b4 k)) Try.underlying43 rfl rfl (fun _ => (CellIs.ownc 4 rfl k 0 (by exact pk_get (by omega))))) ?_
      refine SQ.gpure (c := 8) rfl rfl rfl rfl rfl rfl rfl (PureOp.move rfl) ?_
      refine SQ.gcalle (c := 8) rfl rfl rfl rfl rfl rfl rfl rfl rfl rfl callable26 (by intro hg; simp [gval] at hg; exact (fun w hw => dgot_dead (pk b4 k) f w (pk_dead (ObjIn.of hw 3 rfl)))) ?_
      refine SQ.gpure (c := 8) rfl rfl rfl rfl rfl rfl rfl (PureOp.len rfl Try.underlying49) ?_
      refine SQ.gpure (c := 8) rfl rfl rfl rfl rfl rfl rfl (PureOp.neq rfl rfl) ?_
      refine SQ.pure rfl rfl rfl (PureOp.or_ rfl rfl rfl rfl) ?_
      refine SQ.nil_then ?_
      refine WC.cond rfl (fun h3 => ?_) (fun h3 => ?_)
      · try simp only [Bool.and_eq_true, Bool.or_eq_true, Bool.not_eq_true', Bool.not_eq_false', Bool.and_eq_false_iff, Bool.or_eq_false_iff, decide_eq_true_eq, decide_eq_false_iff_not, Int.not_lt, Int.not_le, ne_eq, Decidable.not_not] at h3
        exact absurd h3 (by simp [eqB, eqV])
      · try simp only [Bool.and_eq_true, Bool.or_eq_true, Bool.not_eq_true', Bool.not_eq_false', Bool.and_eq_false_iff, Bool.or_eq_false_iff, decide_eq_true_eq, decide_eq_false_iff_not, Int.not_lt, Int.not_le, ne_eq, Decidable.not_not] at h3
        refine WC.skip ?_
        refine QX.normal_in ?_
        refine QX.then_ ?_
        refine WC.region ?_
        refine SL.pure rfl rfl rfl (PureOp.move rfl) ?_
        refine SL.pure rfl rfl rfl (PureOp.addN (k := 1) rfl rfl (fun _ => by omega)) ?_
        refine SL.pure rfl rfl rfl (PureOp.assign rfl) ?_
        refine SL.nil ?_
        refine QX.round 5 (k + 1) ⟨by omega, by first | omega | (dsimp only; omega)⟩ ⟨rfl, rfl, rfl, rfl, rfl, rfl, rfl, rfl, rfl, rfl, rfl, rfl, rfl, rfl, rfl, rfl, rfl, rfl, rfl, rfl, rfl, rfl, rfl, rfl, rfl, rfl, rfl, rfl, rfl, rfl, rfl, rfl, trivial⟩ rfl
    · try simp only [Bool.and_eq_true, Bool.or_eq_true, Bool.not_eq_true', Bool.not_eq_false', Bool.and_eq_false_iff, Bool.or_eq_false_iff, decide_eq_true_eq, decide_eq_false_iff_not, Int.not_lt, Int.not_le, ne_eq, Decidable.not_not] at h2
      refine WC.exit ?_
      refine QX.exit_then ?_
      refine QX.exit_then ?_
      refine QX.exit_hit ?_
      refine QX.then_ ?_
      refine WC.seq ?_
      refine WC.region ?_
      refine SL.calle rfl rfl rfl rfl rfl rfl callable7 (fun w hw => awake_ok w) ?_
      refine SL.norm [_, _, _, _, _] rfl ?_
      refine SL.pure rfl rfl rfl (PureOp.assign rfl) ?_
      refine SL.nil_then ?_
      refine WC.ret ?_
      refine QX.ret1 rfl rfl ?_
      intro w hw
      rfl

end Go.Proofs.Ytmnhdiblkjmmfaa
