import Derived.Test.YthbgnjengkjigaaBdA
namespace Go.Proofs.Ythbgnjengkjigaa
open Go Go.RowKit Eng
set_option linter.unusedVariables false
set_option linter.unusedSimpArgs false

set_option maxHeartbeats 4000000 in
set_option maxRecDepth 100000 in
theorem delete_ok (G : List Bag) (ao : Option Addr) (cap i : Nat) (hi : i < G.length) (hb : G.length ≤ 1000) (w0 : World) : MC Try.prog 40 [.slice ao G.length cap, .int .i64 ((i : Nat) : Int), .int .i64 ((i + 1 : Nat) : Int)] w0 [Item.own w0.heap.size ao G.length cap 47 3 (cellsOf encBag G)] (fun _ : Unit => .slice ao (G.length - 1) cap) (fun _ => [Item.own w0.heap.size ao (G.length - 1) cap 47 3 (cellsOf encBag (G.take i ++ G.drop (i + 1)))]) (fun _ => True) (fun _ => []) := by
  refine mcalls (N := 33) Try.func40 rfl rfl rfl ?_
  intro X
  show WC _ _ _ _ _ _ _ [Item.own w0.heap.size ao G.length cap 47 3 (cellsOf encBag G), X]
  refine WC.openown 0 rfl (by omega) ?_
  rintro g cur rfl hnc hcm hcl hct
  show WC _ _ _ _ _ _ _ [Item.cells g cur 47, X]
  refine WC.seq ?_
  refine WC.region ?_
  refine SL.pure rfl rfl rfl (PureOp.assign rfl) ?_
  refine SL.nil_then ?_
  refine WC.seq ?_
  refine WC.region ?_
  refine SL.pure rfl rfl rfl (PureOp.move rfl) ?_
  refine SL.pure rfl rfl rfl (PureOp.move rfl) ?_
  refine SL.pure rfl rfl rfl (PureOp.move rfl) ?_
  refine SL.pure rfl rfl rfl (PureOp.move rfl) ?_
  refine SL.pure rfl rfl rfl (PureOp.len rfl Try.underlying38) ?_
  refine SL.pure rfl rfl rfl (PureOp.slicelhm Try.underlying38 sz47 rfl rfl rfl rfl (fun _ => by omega)) ?_
  refine SL.nil_then ?_
  refine WC.seq ?_
  refine WC.seq ?_
  refine WC.region ?_
  refine SL.pure rfl rfl rfl (PureOp.move rfl) ?_
  refine SL.pure rfl rfl rfl (PureOp.move rfl) ?_
  refine SL.pure rfl rfl rfl (PureOp.eql rfl rfl) ?_
  refine SL.nil_then ?_
  refine WC.cond rfl (fun h1 => ?_) (fun h1 => ?_)
  · try simp only [Bool.and_eq_true, Bool.or_eq_true, Bool.not_eq_true', Bool.not_eq_false', Bool.and_eq_false_iff, Bool.or_eq_false_iff, decide_eq_true_eq, decide_eq_false_iff_not, Int.not_lt, Int.not_le, ne_eq, Decidable.not_not] at h1
    exact absurd h1 (by omega)
  · try simp only [Bool.and_eq_true, Bool.or_eq_true, Bool.not_eq_true', Bool.not_eq_false', Bool.and_eq_false_iff, Bool.or_eq_false_iff, decide_eq_true_eq, decide_eq_false_iff_not, Int.not_lt, Int.not_le, ne_eq, Decidable.not_not] at h1
    refine WC.skip ?_
    refine QX.then_ ?_
    refine WC.seq ?_
    refine WC.region ?_
    refine SL.pure rfl rfl rfl (PureOp.move rfl) ?_
    refine SL.pure rfl rfl rfl (PureOp.len rfl Try.underlying38) ?_
    refine SL.pure rfl rfl rfl (PureOp.assign rfl) ?_
    refine SL.nil_then ?_
    refine WC.seq ?_
    refine WC.drawh ([Item.triv, X]) 8 [false, false, false, false, false, false, false, false] rfl rfl rfl ?_
    refine SD.take 0 [true, false, false, false, false, false, false, false] rfl (by kernel_rfl) rfl (fun _ h => (HeapOk.settriv h (i := 0) rfl)) rfl rfl rfl (PureOp.move rfl) ?_
    refine SD.take 1 [true, true, false, false, false, false, false, false] rfl (by kernel_rfl) rfl (fun _ h => (HeapOk.settriv h (i := 0) rfl)) rfl rfl rfl (PureOp.move rfl) ?_
    refine SD.take 2 [true, true, true, false, false, false, false, false] rfl (by kernel_rfl) rfl (fun _ h => (HeapOk.settriv h (i := 0) rfl)) rfl rfl rfl (PureOp.sliceh Try.underlying38 sz47 rfl rfl (fun _ => by omega)) ?_
    refine SD.take 3 [true, true, true, true, false, false, false, false] rfl (by kernel_rfl) rfl (fun _ h => (HeapOk.settriv h (i := 0) rfl)) rfl rfl rfl (PureOp.move rfl) ?_
    refine SD.take 4 [true, true, true, true, true, false, false, false] rfl (by kernel_rfl) rfl (fun _ h => (HeapOk.settriv h (i := 0) rfl)) rfl rfl rfl (PureOp.move rfl) ?_
    refine SD.take 5 [true, true, true, true, true, true, false, false] rfl (by kernel_rfl) rfl (fun _ h => (HeapOk.settriv h (i := 0) rfl)) rfl rfl rfl (PureOp.slicel Try.underlying38 sz47 rfl rfl (fun _ => by omega)) ?_
    refine SD.one 6 [true, true, true, true, true, true, true, false] (by kernel_rfl) rfl rfl ?_
    refine SL.reval 22 (.slice (some ⟨g, 0, none⟩) i cap) rfl (by rw [subAo_zero]; rfl) ?_
    refine SL.appendin (cap := cap) (news := cellsOf encBag (G.drop (i + 1))) 0 rfl rfl Try.underlying38 elem47 rfl rfl (by first | rfl | (unfold subAo; split <;> rfl)) rfl (fun w hw => by have h := SrcIs.at_ (cap := cap) (j := i + 1) (m := G.length - (i + 1)) (sz := 3) 0 rfl (by omega) hcl w hw; rw [cut_news encBag_len hct] at h; exact h) (all_one_cells (fun x => rfl) _) (by omega) hcl ?_
    refine SD.back (fun _ h => (HeapOk.settriv h (i := 0) rfl)) ?_
    refine SD.take 7 [true, true, true, true, true, true, true, true] rfl (by kernel_rfl) rfl (fun _ h => (HeapOk.settriv h (i := 0) rfl)) rfl rfl rfl (PureOp.assign rfl) ?_
    refine SD.done (by kernel_rfl) ?_
    refine QX.ofK ?_
    refine QX.then_ ?_
    refine WC.seq ?_
    refine WC.region ?_
    refine SL.pure rfl rfl rfl (PureOp.move rfl) ?_
    refine SL.pure rfl rfl rfl (PureOp.move rfl) ?_
    refine SL.pure rfl rfl rfl (PureOp.len rfl Try.underlying38) ?_
    refine SL.pure rfl rfl rfl (PureOp.move rfl) ?_
    refine SL.pure rfl rfl rfl (PureOp.slicelh Try.underlying38 sz47 rfl rfl rfl (fun _ => by omega)) ?_
    refine SL.reval 31 (.slice (some ⟨g, (i + (G.length - (i + 1))) * 3, none⟩) (G.length - (i + (G.length - (i + 1)))) (cap - (i + (G.length - (i + 1))))) rfl (by show Value.slice (subAo (some ⟨g, 0, none⟩ : Option Addr) cap (i + (G.length - (i + 1))) 3) (G.length - (i + (G.length - (i + 1)))) (cap - (i + (G.length - (i + 1)))) = _; rw [show subAo (some ⟨g, 0, none⟩ : Option Addr) cap (i + (G.length - (i + 1))) 3 = some ⟨g, (i + (G.length - (i + 1))) * 3, none⟩ from by unfold subAo; rw [if_neg (by omega)]; simp only [Option.map_some, add_lit, Nat.zero_add]]) ?_
    refine SL.clearin 0 rfl Try.underlying38 (zero_run zero47) rfl (by omega) rfl rfl ?_ (fun cur2 hl2 ht2 => ?_)
    · simp only [List.length_append, List.length_take, List.length_drop, cellsOf_length encBag_len, hcl]
      show _ + _ * 3 ≤ _
      omega
    refine SL.nil_then ?_
    refine WC.seq ?_
    refine WC.region ?_
    refine SL.pure rfl rfl rfl (PureOp.move rfl) ?_
    refine SL.pure rfl rfl rfl (PureOp.assign rfl) ?_
    refine SL.nil_then ?_
    refine WC.ret ?_
    refine QX.body1 rfl rfl ?_
    intro w hw
    refine ⟨(), ?_, trivial, ?_⟩
    · show Ending.returned (Value.slice (some ⟨g, 0, none⟩) (i + (G.length - (i + 1))) cap) = _
      rw [show i + (G.length - (i + 1)) = G.length - 1 from by omega]
    have h := HeapOk.closeown (n := G.length - 1) (cap := cap) (sz := 3) (xs := cellsOf encBag (G.take i ++ G.drop (i + 1))) 0 hw rfl (by omega) hcm ?_ ?_
    · exact HeapOk.pick [0, 1] (by decide) h
    · rw [hl2]
      simp only [List.length_append, List.length_take, List.length_drop, cellsOf_length encBag_len, hcl]
      omega
    · rw [ht2 _ (by omega)]
      exact cut_cells encBag_len rfl (by omega) (by omega) hct (by omega) _

end Go.Proofs.Ythbgnjengkjigaa
