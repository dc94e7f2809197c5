import Derived.Test.YtblmafknmeicfaaPrA
namespace Go.Proofs.Ytblmafknmeicfaa
open Go Go.RowKit Eng
set_option linter.unusedVariables false
set_option linter.unusedSimpArgs false

def exA : List Ai := [(⟨#[76, 72, 82]⟩, ⟨#[76, 79, 78]⟩, ⟨#[71, 66]⟩, 0, ⟨none, 0, []⟩), (⟨#[74, 70, 75]⟩, ⟨#[78, 89, 67]⟩, ⟨#[85, 83]⟩, -300, ⟨none, 0, []⟩)]
def exR (b : Nat) : List Ru := [(1, (1, ⟨none, 0, []⟩, 0, 0, (0, 0, 0), ⟨none, 0, []⟩), ⟨none, 0, []⟩, 0, 0, 0, 0, ⟨none, 0, []⟩), (2, (1, ⟨none, 0, []⟩, 0, 0, (0, 0, 0), ⟨none, 0, []⟩), ⟨none, 0, []⟩, 3, 0, 0, 0, ⟨none, 0, []⟩), (7, (1, ⟨none, 0, []⟩, 0, 0, (0, 0, 0), ⟨none, 0, []⟩), ⟨some ⟨b, 0, none⟩, 1, [8]⟩, 0, 0, 0, 0, ⟨none, 0, []⟩)]
def exF : List Fa := [(⟨#[66, 65]⟩, ⟨#[76, 79, 78]⟩, ⟨#[78, 89, 67]⟩, ⟨#[89]⟩, ⟨#[89]⟩, true, 0, 1, 0), (⟨#[66, 65]⟩, ⟨#[78, 89, 67]⟩, ⟨#[76, 79, 78]⟩, ⟨#[89]⟩, ⟨#[89]⟩, true, 0, 1, 0), (⟨#[66, 65]⟩, ⟨#[78, 89, 67]⟩, ⟨#[76, 79, 78]⟩, ⟨#[89]⟩, ⟨#[89]⟩, true, 0, 2, 0), (⟨#[66, 65]⟩, ⟨#[76, 79, 78]⟩, ⟨#[78, 89, 67]⟩, ⟨#[89]⟩, ⟨#[89]⟩, false, 0, 7, 0)]
def exW : List Wa := [((⟨#[66, 65]⟩, 1, 9497, ⟨#[76, 72, 82]⟩, ⟨#[74, 70, 75]⟩, 13676280, 13676680), ⟨#[89]⟩), ((⟨#[66, 65]⟩, 2, 9499, ⟨#[74, 70, 75]⟩, ⟨#[76, 72, 82]⟩, 13679160, 13679560), ⟨#[89]⟩)]
set_option maxHeartbeats 4000000 in
set_option maxRecDepth 100000 in
theorem example_ok (w0 : World) : MC Try.prog 18 [] w0 [] (fun q : Nat × Nat × Nat × Nat × Nat => .tuple #[.agg #[.slice (some ⟨q.1, 0, none⟩) 2 2, .slice none 0 0], .agg #[.slice (some ⟨q.2.2.2.1, 0, none⟩) 4 4, .slice (some ⟨q.2.2.1, 0, none⟩) 3 3, .slice none 0 0, .slice none 0 0], .slice (some ⟨q.2.2.2.2, 0, none⟩) 2 2]) (fun _ => []) (fun _ => True) (fun q => [.own w0.heap.size (some ⟨q.1, 0, none⟩) 2 2 88 5 (cellsOf enc88 exA), .own w0.heap.size (some ⟨q.2.1, 0, none⟩) 1 1 3 1 (cellsOf encI [8]), .own w0.heap.size (some ⟨q.2.2.1, 0, none⟩) 3 3 76 15 (cellsOf enc76 (exR q.2.1)), .own w0.heap.size (some ⟨q.2.2.2.1, 0, none⟩) 4 4 52 9 (cellsOf enc52 exF), .own w0.heap.size (some ⟨q.2.2.2.2, 0, none⟩) 2 2 62 8 (cellsOf enc62 exW)]) := by
  refine mcalls (N := 36) Try.func18 rfl rfl rfl ?_
  intro X
  show WC _ _ _ _ _ _ _ [X]
  refine WC.seq ?_
  refine WC.region ?_
  refine SL.alloc rfl rfl zero39 (fun b1 hb1 => ?_)
  refine SL.norm [_, _] rfl ?_
  refine SL.alloc rfl rfl zero27 (fun b2 hb2 => ?_)
  refine SL.norm [_, _, _] rfl ?_
  refine SL.pure rfl rfl rfl (PureOp.assign rfl) ?_
  refine SL.nil_then ?_
  refine WC.seq ?_
  refine WC.region ?_
  refine SL.pure rfl rfl rfl (PureOp.build bld88 rfl rfl) ?_
  refine SL.pure rfl rfl rfl (PureOp.build bld86 rfl rfl) ?_
  refine SL.pure rfl rfl rfl (PureOp.build bld88 rfl rfl) ?_
  refine SL.buildSlice rfl rfl Try.underlying36 elem88 rfl rfl rfl rfl (fun b3 hb3 => ?_)
  refine SL.norm [_, _, _, _] rfl ?_
  refine SL.pure rfl rfl rfl (PureOp.build bld39 rfl rfl) ?_
  refine SL.alloc rfl rfl zero39 (fun b4 hb4 => ?_)
  refine SL.norm [_, _, _, _, _] rfl ?_
  refine SL.store 4 rfl rfl rfl rfl sz39 rfl rfl ?_
  refine SL.norm [_, _, _, _, _] rfl ?_
  refine SL.nil_then ?_
  refine WC.seq ?_
  refine WC.region ?_
  refine SL.pure rfl rfl rfl (PureOp.build bld72 rfl rfl) ?_
  refine SL.alloc rfl rfl zero72 (fun b5 hb5 => ?_)
  refine SL.norm [_, _, _, _, _, _] rfl ?_
  refine SL.store 5 rfl rfl rfl rfl sz72 rfl rfl ?_
  refine SL.norm [_, _, _, _, _, _] rfl ?_
  refine SL.nil_then ?_
  refine WC.seq ?_
  refine WC.region ?_
  refine SL.pure rfl rfl rfl (PureOp.loads (vs := [.int .i64 1, .slice none 0 0, .int .i64 0, .int .i64 0, .int .i64 0, .int .i64 0, .int .i64 0, .slice none 0 0]) Try.underlying72 rfl rfl (fun _ => (RowIs.cells 5 0 8 rfl rfl)) sz72) ?_
  refine SL.pure rfl rfl rfl (PureOp.build bld76 rfl rfl) ?_
  refine SL.pure rfl rfl rfl (PureOp.loads (vs := [.int .i64 1, .slice none 0 0, .int .i64 0, .int .i64 0, .int .i64 0, .int .i64 0, .int .i64 0, .slice none 0 0]) Try.underlying72 rfl rfl (fun _ => (RowIs.cells 5 0 8 rfl rfl)) sz72) ?_
  refine SL.pure rfl rfl rfl (PureOp.build bld76 rfl rfl) ?_
  refine SL.pure rfl rfl rfl (PureOp.loads (vs := [.int .i64 1, .slice none 0 0, .int .i64 0, .int .i64 0, .int .i64 0, .int .i64 0, .int .i64 0, .slice none 0 0]) Try.underlying72 rfl rfl (fun _ => (RowIs.cells 5 0 8 rfl rfl)) sz72) ?_
  refine SL.buildSlice rfl rfl Try.underlying73 elem3 rfl rfl rfl rfl (fun b6 hb6 => ?_)
  refine SL.norm [_, _, _, _, _, _, _] rfl ?_
  refine SL.pure rfl rfl rfl (PureOp.build bld76 rfl rfl) ?_
  refine SL.buildSlice rfl rfl Try.underlying23 elem76 rfl rfl rfl rfl (fun b7 hb7 => ?_)
  refine SL.norm [_, _, _, _, _, _, _, _] rfl ?_
  refine SL.pure rfl rfl rfl (PureOp.build bld27 rfl rfl) ?_
  refine SL.alloc rfl rfl zero27 (fun b8 hb8 => ?_)
  refine SL.norm [_, _, _, _, _, _, _, _, _] rfl ?_
  refine SL.store 8 rfl rfl rfl rfl sz27 rfl rfl ?_
  refine SL.norm [_, _, _, _, _, _, _, _, _] rfl ?_
  refine SL.nil_then ?_
  refine WC.seq ?_
  refine WC.region ?_
  refine SL.pure rfl rfl rfl (PureOp.build bld52 rfl rfl) ?_
  refine SL.pure rfl rfl rfl (PureOp.build bld52 rfl rfl) ?_
  refine SL.pure rfl rfl rfl (PureOp.build bld52 rfl rfl) ?_
  refine SL.pure rfl rfl rfl (PureOp.build bld52 rfl rfl) ?_
  refine SL.buildSlice rfl rfl Try.underlying22 elem52 rfl rfl rfl rfl (fun b9 hb9 => ?_)
  refine SL.norm [_, _, _, _, _, _, _, _, _, _] rfl ?_
  refine SL.pure rfl rfl rfl (PureOp.fieldAddrT 0 Try.underlying27 rfl sz22 rfl rfl) ?_
  refine SL.store 8 rfl rfl rfl rfl sz22 rfl rfl ?_
  refine SL.norm [_, _, _, _, _, _, _, _, _, _] rfl ?_
  refine SL.nil_then ?_
  refine WC.seq ?_
  refine WC.region ?_
  refine SL.pure rfl rfl rfl (PureOp.build bld60 rfl rfl) ?_
  refine SL.pure rfl rfl rfl (PureOp.build bld62 rfl rfl) ?_
  refine SL.pure rfl rfl rfl (PureOp.build bld60 rfl rfl) ?_
  refine SL.pure rfl rfl rfl (PureOp.build bld62 rfl rfl) ?_
  refine SL.buildSlice rfl rfl Try.underlying45 elem62 rfl rfl rfl rfl (fun b10 hb10 => ?_)
  refine SL.norm [_, _, _, _, _, _, _, _, _, _, _] rfl ?_
  refine SL.pure rfl rfl rfl (PureOp.assign rfl) ?_
  refine SL.nil_then ?_
  refine WC.seq ?_
  refine WC.drawh ([X, Item.triv, Item.triv, Item.own w0.heap.size (some ⟨b3, 0, none⟩) 2 2 88 5 ([.string (⟨#[76, 72, 82]⟩), .string (⟨#[76, 79, 78]⟩), .string (⟨#[71, 66]⟩), .int .i64 0, .slice none 0 0, .string (⟨#[74, 70, 75]⟩), .string (⟨#[78, 89, 67]⟩), .string (⟨#[85, 83]⟩), .int .i64 (-300), .slice none 0 0]), Item.cells b4 [.slice (some ⟨b3, 0, none⟩) 2 2, .slice none 0 0] 39, Item.cells b5 [.int .i64 1, .slice none 0 0, .int .i64 0, .int .i64 0, .int .i64 0, .int .i64 0, .int .i64 0, .slice none 0 0] 72, Item.own w0.heap.size (some ⟨b6, 0, none⟩) 1 1 3 1 ([.int .i64 8]), Item.own w0.heap.size (some ⟨b7, 0, none⟩) 3 3 76 15 ([.int .i64 1, .int .i64 1, .slice none 0 0, .int .i64 0, .int .i64 0, .int .i64 0, .int .i64 0, .int .i64 0, .slice none 0 0, .slice none 0 0, .int .i64 0, .int .i64 0, .int .i64 0, .int .i64 0, .slice none 0 0, .int .i64 2, .int .i64 1, .slice none 0 0, .int .i64 0, .int .i64 0, .int .i64 0, .int .i64 0, .int .i64 0, .slice none 0 0, .slice none 0 0, .int .i64 3, .int .i64 0, .int .i64 0, .int .i64 0, .slice none 0 0, .int .i64 7, .int .i64 1, .slice none 0 0, .int .i64 0, .int .i64 0, .int .i64 0, .int .i64 0, .int .i64 0, .slice none 0 0, .slice (some ⟨b6, 0, none⟩) 1 1, .int .i64 0, .int .i64 0, .int .i64 0, .int .i64 0, .slice none 0 0]), Item.cells b8 [.slice (some ⟨b9, 0, none⟩) 4 4, .slice (some ⟨b7, 0, none⟩) 3 3, .slice none 0 0, .slice none 0 0] 27, Item.own w0.heap.size (some ⟨b9, 0, none⟩) 4 4 52 9 ([.string (⟨#[66, 65]⟩), .string (⟨#[76, 79, 78]⟩), .string (⟨#[78, 89, 67]⟩), .string (⟨#[89]⟩), .string (⟨#[89]⟩), .bool true, .int .i64 0, .int .i64 1, .int .i64 0, .string (⟨#[66, 65]⟩), .string (⟨#[78, 89, 67]⟩), .string (⟨#[76, 79, 78]⟩), .string (⟨#[89]⟩), .string (⟨#[89]⟩), .bool true, .int .i64 0, .int .i64 1, .int .i64 0, .string (⟨#[66, 65]⟩), .string (⟨#[78, 89, 67]⟩), .string (⟨#[76, 79, 78]⟩), .string (⟨#[89]⟩), .string (⟨#[89]⟩), .bool true, .int .i64 0, .int .i64 2, .int .i64 0, .string (⟨#[66, 65]⟩), .string (⟨#[76, 79, 78]⟩), .string (⟨#[78, 89, 67]⟩), .string (⟨#[89]⟩), .string (⟨#[89]⟩), .bool false, .int .i64 0, .int .i64 7, .int .i64 0]), Item.own w0.heap.size (some ⟨b10, 0, none⟩) 2 2 62 8 ([.string (⟨#[66, 65]⟩), .int .i64 1, .int .i64 9497, .string (⟨#[76, 72, 82]⟩), .string (⟨#[74, 70, 75]⟩), .int .i64 13676280, .int .i64 13676680, .string (⟨#[89]⟩), .string (⟨#[66, 65]⟩), .int .i64 2, .int .i64 9499, .string (⟨#[74, 70, 75]⟩), .string (⟨#[76, 72, 82]⟩), .int .i64 13679160, .int .i64 13679560, .string (⟨#[89]⟩)])]) 6 [false, false, false, false, false, false] rfl rfl rfl ?_
  refine SD.take 0 [true, false, false, false, false, false] rfl (by kernel_rfl) rfl (fun _ h => (HeapOk.settriv (HeapOk.settriv h (i := 1) rfl) (i := 2) rfl)) rfl rfl rfl (PureOp.loads (vs := [.slice (some ⟨b3, 0, none⟩) 2 2, .slice none 0 0]) Try.underlying39 rfl rfl (fun _ => (RowIs.cells 4 0 2 rfl rfl)) sz39) ?_
  refine SD.take 1 [true, true, false, false, false, false] rfl (by kernel_rfl) rfl (fun _ h => (HeapOk.settriv (HeapOk.settriv h (i := 1) rfl) (i := 2) rfl)) rfl rfl rfl (PureOp.loads (vs := [.slice (some ⟨b9, 0, none⟩) 4 4, .slice (some ⟨b7, 0, none⟩) 3 3, .slice none 0 0, .slice none 0 0]) Try.underlying27 rfl rfl (fun _ => (RowIs.cells 8 0 4 rfl rfl)) sz27) ?_
  refine SD.take 2 [true, true, true, false, false, false] rfl (by kernel_rfl) rfl (fun _ h => (HeapOk.settriv (HeapOk.settriv h (i := 1) rfl) (i := 2) rfl)) rfl rfl rfl (PureOp.move rfl) ?_
  refine SD.one 3 [true, true, true, true, false, false] (by kernel_rfl) rfl rfl ?_
  refine SL.store 1 rfl rfl rfl rfl sz39 rfl rfl ?_
  refine SL.norm [_, _, _, _, _, _, _, _, _, _, _] rfl ?_
  refine SD.back (fun _ h => (HeapOk.settriv (HeapOk.settriv h (i := 1) rfl) (i := 2) rfl)) ?_
  refine SD.one 4 [true, true, true, true, true, false] (by kernel_rfl) rfl rfl ?_
  refine SL.store 2 rfl rfl rfl rfl sz27 rfl rfl ?_
  refine SL.norm [_, _, _, _, _, _, _, _, _, _, _] rfl ?_
  refine SD.back (fun _ h => (HeapOk.settriv (HeapOk.settriv h (i := 1) rfl) (i := 2) rfl)) ?_
  refine SD.take 5 [true, true, true, true, true, true] rfl (by kernel_rfl) rfl (fun _ h => (HeapOk.settriv (HeapOk.settriv h (i := 1) rfl) (i := 2) rfl)) rfl rfl rfl (PureOp.assign rfl) ?_
  refine SD.done (by kernel_rfl) ?_
  refine QX.ofK ?_
  refine QX.then_ ?_
  refine WC.ret ?_
  refine QX.bodyv rfl (RVs.cons (RV.cell rfl Try.underlying39 rfl (RowIs.cells 1 0 2 rfl rfl) sz39) (RVs.cons (RV.cell rfl Try.underlying27 rfl (RowIs.cells 2 0 4 rfl rfl) sz27) (RVs.cons (RV.tmp rfl) RVs.nil))) ?_
  intro w hw
  refine ⟨(b3, b6, b7, b9, b10), rfl, trivial, ?_⟩
  exact HeapOk.pick [0, 3, 6, 7, 9, 10] (by decide) hw

end Go.Proofs.Ytblmafknmeicfaa
