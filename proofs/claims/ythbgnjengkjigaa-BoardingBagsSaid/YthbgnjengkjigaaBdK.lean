import Derived.Test.YthbgnjengkjigaaBdJ
namespace Go.Proofs.Ythbgnjengkjigaa
open Go Go.RowKit Eng
set_option linter.unusedVariables false
set_option linter.unusedSimpArgs false

set_option maxHeartbeats 4000000 in
set_option maxRecDepth 100000 in
theorem step_ok (b d : Nat) (T R : List Int) (A : List Bool) (cl : Bool) (G : List Bag) (ta ra aa ga xa ya za ha : Option Addr) (n tc rc ac gc xc yc zc hc : Nat) (hM : Made T R) (hn : n = T.length) (hR : R.length = n) (h9 : n ≤ 999) (hA : A.length = n) (hK : Known T G) (hG : G.length ≤ 500) (s : Int × Int × Int) (w0 : World) : MC Try.prog 11 [.pointer (some ⟨b, 0, none⟩), .pointer (some ⟨d, 0, none⟩), .agg #[.int .i64 s.1, .int .i64 s.2.1, .int .i64 s.2.2]] w0 [Item.cells b [.bool true, .bool cl, .slice ta n tc, .slice ra n rc, .slice aa n ac, .slice ga G.length gc] 44, Item.own w0.heap.size ta n tc 3 1 (cellsOf encI T), Item.own w0.heap.size ra n rc 3 1 (cellsOf encI R), Item.own w0.heap.size aa n ac 4 1 (cellsOf encBo A), Item.own w0.heap.size ga G.length gc 47 3 (cellsOf encBag G), Item.cells d [.slice xa n xc, .slice ya n yc, .slice za n zc, .slice ha G.length hc, .bool true, .bool cl] 59, Item.own w0.heap.size xa n xc 3 1 (cellsOf encI T), Item.own w0.heap.size ya n yc 3 1 (cellsOf encI R), Item.own w0.heap.size za n zc 4 1 (cellsOf encBo A), Item.own w0.heap.size ha G.length hc 47 3 (cellsOf encBag G)] (fun _ : List Bool × Bool × List Bag × (Option Addr × Nat) × (Option Addr × Nat) => .bool true) (fun u_ => [Item.cells b [.bool true, .bool u_.2.1, .slice ta n tc, .slice ra n rc, .slice aa n ac, .slice u_.2.2.2.1.1 u_.2.2.1.length u_.2.2.2.1.2] 44, Item.own w0.heap.size ta n tc 3 1 (cellsOf encI T), Item.own w0.heap.size ra n rc 3 1 (cellsOf encI R), Item.own w0.heap.size aa n ac 4 1 (cellsOf encBo u_.1), Item.own w0.heap.size u_.2.2.2.1.1 u_.2.2.1.length u_.2.2.2.1.2 47 3 (cellsOf encBag u_.2.2.1), Item.cells d [.slice xa n xc, .slice ya n yc, .slice za n zc, .slice u_.2.2.2.2.1 u_.2.2.1.length u_.2.2.2.2.2, .bool true, .bool u_.2.1] 59, Item.own w0.heap.size xa n xc 3 1 (cellsOf encI T), Item.own w0.heap.size ya n yc 3 1 (cellsOf encI R), Item.own w0.heap.size za n zc 4 1 (cellsOf encBo u_.1), Item.own w0.heap.size u_.2.2.2.2.1 u_.2.2.1.length u_.2.2.2.2.2 47 3 (cellsOf encBag u_.2.2.1)]) (fun u_ => u_.1.length = n ∧ Known T u_.2.2.1 ∧ u_.2.2.1.length ≤ G.length + 1) (fun _ => []) := by
  refine mcalls (N := 101) Try.func11 rfl rfl rfl ?_
  intro X
  show WC _ _ _ _ _ _ _ [Item.cells b [.bool true, .bool cl, .slice ta n tc, .slice ra n rc, .slice aa n ac, .slice ga G.length gc] 44, Item.own w0.heap.size ta n tc 3 1 (cellsOf encI T), Item.own w0.heap.size ra n rc 3 1 (cellsOf encI R), Item.own w0.heap.size aa n ac 4 1 (cellsOf encBo A), Item.own w0.heap.size ga G.length gc 47 3 (cellsOf encBag G), Item.cells d [.slice xa n xc, .slice ya n yc, .slice za n zc, .slice ha G.length hc, .bool true, .bool cl] 59, Item.own w0.heap.size xa n xc 3 1 (cellsOf encI T), Item.own w0.heap.size ya n yc 3 1 (cellsOf encI R), Item.own w0.heap.size za n zc 4 1 (cellsOf encBo A), Item.own w0.heap.size ha G.length hc 47 3 (cellsOf encBag G), X]
  refine WC.seq ?_
  refine WC.region ?_
  refine SL.box rfl rfl rfl (fun b1 hb1 => ?_)
  refine SL.norm [_, _, _, _, _, _, _, _, _, _, _, _] rfl ?_
  refine SL.pure rfl rfl rfl (PureOp.assign rfl) ?_
  refine SL.nil_then ?_
  refine WC.seq ?_
  refine WC.seq ?_
  refine WC.region ?_
  refine SL.pure rfl rfl rfl (PureOp.fieldAddrT 0 Try.underlying36 rfl sz3 rfl rfl) ?_
  refine SL.pure rfl rfl rfl (PureOp.load (v := .int .i64 s.1) Try.underlying3 rfl rfl (fun _ => (CellIs.cells 11 rfl rfl))) ?_
  refine SL.nil_then ?_
  refine WC.block ?_
  refine WC.seq ?_
  refine WC.region ?_
  refine SL.pure rfl rfl rfl (PureOp.eql rfl rfl) ?_
  refine SL.pure rfl rfl rfl (PureOp.assign rfl) ?_
  refine SL.nil_then ?_
  refine WC.cond rfl (fun h1 => ?_) (fun h1 => ?_)
  · try simp only [Bool.and_eq_true, Bool.or_eq_true, Bool.not_eq_true', Bool.not_eq_false', Bool.and_eq_false_iff, Bool.or_eq_false_iff, decide_eq_true_eq, decide_eq_false_iff_not, Int.not_lt, Int.not_le, ne_eq, Decidable.not_not] at h1
    refine WC.seq ?_
    refine WC.region ?_
    refine SL.pure rfl rfl rfl (PureOp.fieldAddrT 1 Try.underlying36 rfl sz3 rfl rfl) ?_
    refine SL.pure rfl rfl rfl (PureOp.load (v := .int .i64 s.2.1) Try.underlying3 rfl rfl (fun _ => (CellIs.cells 11 rfl rfl))) ?_
    refine SL.pure rfl rfl rfl (PureOp.fieldAddrT 2 Try.underlying36 rfl sz3 rfl rfl) ?_
    refine SL.pure rfl rfl rfl (PureOp.load (v := .int .i64 s.2.2) Try.underlying3 rfl rfl (fun _ => (CellIs.cells 11 rfl rfl))) ?_
    refine SL.pure rfl rfl rfl (PureOp.fieldAddrT 1 Try.underlying36 rfl sz3 rfl rfl) ?_
    refine SL.pure rfl rfl rfl (PureOp.load (v := .int .i64 s.2.1) Try.underlying3 rfl rfl (fun _ => (CellIs.cells 11 rfl rfl))) ?_
    refine SL.pure rfl rfl rfl (PureOp.rem rfl rfl (fun _ => by omega)) ?_
    refine SL.pure rfl rfl rfl (PureOp.build bld47 rfl rfl) ?_
    refine SL.alloc rfl rfl zero47 (fun b2 hb2 => ?_)
    refine SL.norm [_, _, _, _, _, _, _, _, _, _, _, _, _] rfl ?_
    refine SL.store 12 rfl rfl rfl rfl sz47 rfl rfl ?_
    refine SL.norm [_, _, _, _, _, _, _, _, _, _, _, _, _] rfl ?_
    refine SL.nil_then ?_
    refine WC.seq ?_
    refine WC.drawh ([Item.triv, Item.triv, Item.triv, Item.triv, Item.triv, Item.triv, Item.triv, Item.triv, Item.triv, Item.triv, X, Item.cells b1 [.int .i64 s.1, .int .i64 s.2.1, .int .i64 s.2.2] 36, Item.cells b2 [.int .i64 s.2.1, .int .i64 s.2.2, .int .i64 ((s.2.1).tmod 40)] 47]) 8 [false, false, false, false, false, false, false, false] rfl rfl rfl ?_
    refine SD.take 0 [true, false, false, false, false, false, false, false] rfl (by kernel_rfl) rfl (fun _ h => (HeapOk.settriv (HeapOk.settriv (HeapOk.settriv (HeapOk.settriv (HeapOk.settriv (HeapOk.settriv (HeapOk.settriv (HeapOk.settriv (HeapOk.settriv (HeapOk.settriv h (i := 0) rfl) (i := 1) rfl) (i := 2) rfl) (i := 3) rfl) (i := 4) rfl) (i := 5) rfl) (i := 6) rfl) (i := 7) rfl) (i := 8) rfl) (i := 9) rfl)) rfl rfl rfl (PureOp.move rfl) ?_
    refine SD.take 1 [true, true, false, false, false, false, false, false] rfl (by kernel_rfl) rfl (fun _ h => (HeapOk.settriv (HeapOk.settriv (HeapOk.settriv (HeapOk.settriv (HeapOk.settriv (HeapOk.settriv (HeapOk.settriv (HeapOk.settriv (HeapOk.settriv (HeapOk.settriv h (i := 0) rfl) (i := 1) rfl) (i := 2) rfl) (i := 3) rfl) (i := 4) rfl) (i := 5) rfl) (i := 6) rfl) (i := 7) rfl) (i := 8) rfl) (i := 9) rfl)) rfl rfl rfl (PureOp.loads (vs := [.int .i64 s.2.1, .int .i64 s.2.2, .int .i64 ((s.2.1).tmod 40)]) Try.underlying47 rfl rfl (fun _ => (RowIs.cells 12 0 3 rfl rfl)) sz47) ?_
    refine SD.take 3 [true, true, false, true, false, false, false, false] rfl (by kernel_rfl) rfl (fun _ h => (HeapOk.settriv (HeapOk.settriv (HeapOk.settriv (HeapOk.settriv (HeapOk.settriv (HeapOk.settriv (HeapOk.settriv (HeapOk.settriv (HeapOk.settriv (HeapOk.settriv h (i := 0) rfl) (i := 1) rfl) (i := 2) rfl) (i := 3) rfl) (i := 4) rfl) (i := 5) rfl) (i := 6) rfl) (i := 7) rfl) (i := 8) rfl) (i := 9) rfl)) rfl rfl rfl (PureOp.move rfl) ?_
    refine SD.take 4 [true, true, false, true, true, false, false, false] rfl (by kernel_rfl) rfl (fun _ h => (HeapOk.settriv (HeapOk.settriv (HeapOk.settriv (HeapOk.settriv (HeapOk.settriv (HeapOk.settriv (HeapOk.settriv (HeapOk.settriv (HeapOk.settriv (HeapOk.settriv h (i := 0) rfl) (i := 1) rfl) (i := 2) rfl) (i := 3) rfl) (i := 4) rfl) (i := 5) rfl) (i := 6) rfl) (i := 7) rfl) (i := 8) rfl) (i := 9) rfl)) rfl rfl rfl (PureOp.loads (vs := [.int .i64 s.2.1, .int .i64 s.2.2, .int .i64 ((s.2.1).tmod 40)]) Try.underlying47 rfl rfl (fun _ => (RowIs.cells 12 0 3 rfl rfl)) sz47) ?_
    refine SD.one 2 [true, true, true, true, true, false, false, false] (by kernel_rfl) rfl rfl ?_
    refine SL.callM [0, 1, 2, 3, 4] rfl rfl rfl rfl rfl rfl callable21 (by decide) (pload_ok b T R A cl G ta ra aa ga n tc rc ac gc hM hn hR h9 hA hK hG (s.2.1, s.2.2, s.2.1.tmod 40) w0) rfl (fun _ _ => rfl) ?_
    rintro ⟨ga2, gc2⟩ _
    refine SL.norm [_, _, _, _, _, _, _, _, _, _, _, _, _] rfl ?_
    refine SD.back (fun _ h => (HeapOk.settriv (HeapOk.settriv (HeapOk.settriv (HeapOk.settriv (HeapOk.settriv (HeapOk.settriv (HeapOk.settriv (HeapOk.settriv (HeapOk.settriv (HeapOk.settriv h (i := 0) rfl) (i := 1) rfl) (i := 2) rfl) (i := 3) rfl) (i := 4) rfl) (i := 5) rfl) (i := 6) rfl) (i := 7) rfl) (i := 8) rfl) (i := 9) rfl)) ?_
    refine SD.one 5 [true, true, true, true, true, true, false, false] (by kernel_rfl) rfl rfl ?_
    refine SL.callM [5, 6, 7, 8, 9] rfl rfl rfl rfl rfl rfl callable29 (by decide) (rload_ok d T R A cl G xa ya za ha n xc yc zc hc hM hn hR h9 hA hK hG (s.2.1, s.2.2, s.2.1.tmod 40) w0) rfl (fun _ _ => rfl) ?_
    rintro ⟨ha2, hc2⟩ _
    refine SL.norm [_, _, _, _, _, _, _, _, _, _, _, _, _] rfl ?_
    refine SD.back (fun _ h => (HeapOk.settriv (HeapOk.settriv (HeapOk.settriv (HeapOk.settriv (HeapOk.settriv (HeapOk.settriv (HeapOk.settriv (HeapOk.settriv (HeapOk.settriv (HeapOk.settriv h (i := 0) rfl) (i := 1) rfl) (i := 2) rfl) (i := 3) rfl) (i := 4) rfl) (i := 5) rfl) (i := 6) rfl) (i := 7) rfl) (i := 8) rfl) (i := 9) rfl)) ?_
    refine SD.take 6 [true, true, true, true, true, true, true, false] rfl (by kernel_rfl) rfl (fun _ h => (HeapOk.settriv (HeapOk.settriv (HeapOk.settriv (HeapOk.settriv (HeapOk.settriv (HeapOk.settriv (HeapOk.settriv (HeapOk.settriv (HeapOk.settriv (HeapOk.settriv h (i := 0) rfl) (i := 1) rfl) (i := 2) rfl) (i := 3) rfl) (i := 4) rfl) (i := 5) rfl) (i := 6) rfl) (i := 7) rfl) (i := 8) rfl) (i := 9) rfl)) rfl rfl rfl (PureOp.eql rfl rfl) ?_
    refine SD.take 7 [true, true, true, true, true, true, true, true] rfl (by kernel_rfl) rfl (fun _ h => (HeapOk.settriv (HeapOk.settriv (HeapOk.settriv (HeapOk.settriv (HeapOk.settriv (HeapOk.settriv (HeapOk.settriv (HeapOk.settriv (HeapOk.settriv (HeapOk.settriv h (i := 0) rfl) (i := 1) rfl) (i := 2) rfl) (i := 3) rfl) (i := 4) rfl) (i := 5) rfl) (i := 6) rfl) (i := 7) rfl) (i := 8) rfl) (i := 9) rfl)) rfl rfl rfl (PureOp.assign rfl) ?_
    refine SD.done (by kernel_rfl) ?_
    refine QX.ofK ?_
    refine QX.then_ ?_
    refine WC.ret ?_
    refine QX.ret_in ?_
    refine QX.ret_then ?_
    refine QX.body1 rfl rfl ?_
    intro w hw
    refine ⟨(A, cl, loadG T cl G (s.2.1, s.2.2, s.2.1.tmod 40), (ga2, gc2), (ha2, hc2)), by simp, ⟨hA, hK.load, loadG_le⟩, ?_⟩
    exact HeapOk.pick [0, 1, 2, 3, 4, 5, 6, 7, 8, 9, 10] (by decide) hw
  · try simp only [Bool.and_eq_true, Bool.or_eq_true, Bool.not_eq_true', Bool.not_eq_false', Bool.and_eq_false_iff, Bool.or_eq_false_iff, decide_eq_true_eq, decide_eq_false_iff_not, Int.not_lt, Int.not_le, ne_eq, Decidable.not_not] at h1
    refine WC.seq ?_
    refine WC.region ?_
    refine SL.pure rfl rfl rfl (PureOp.eql rfl rfl) ?_
    refine SL.pure rfl rfl rfl (PureOp.assign rfl) ?_
    refine SL.nil_then ?_
    refine WC.cond rfl (fun h2 => ?_) (fun h2 => ?_)
    · try simp only [Bool.and_eq_true, Bool.or_eq_true, Bool.not_eq_true', Bool.not_eq_false', Bool.and_eq_false_iff, Bool.or_eq_false_iff, decide_eq_true_eq, decide_eq_false_iff_not, Int.not_lt, Int.not_le, ne_eq, Decidable.not_not] at h2
      refine WC.seq ?_
      refine WC.region ?_
      refine SL.pure rfl rfl rfl (PureOp.move rfl) ?_
      refine SL.pure rfl rfl rfl (PureOp.fieldAddrT 1 Try.underlying36 rfl sz3 rfl rfl) ?_
      refine SL.pure rfl rfl rfl (PureOp.load (v := .int .i64 s.2.1) Try.underlying3 rfl rfl (fun _ => (CellIs.cells 11 rfl rfl))) ?_
      refine SL.callM [0, 1, 2, 3, 4] rfl rfl rfl rfl rfl rfl callable19 (by decide) (punload_ok b T R A cl G ta ra aa ga n tc rc ac gc hM hn hR h9 hA hK hG s.2.1 w0) rfl (fun _ _ => rfl) ?_
      rintro ⟨ga2, gc2⟩ _
      refine SL.norm [_, _, _, _, _, _, _, _, _, _, _, _] rfl ?_
      refine SL.pure rfl rfl rfl (PureOp.move rfl) ?_
      refine SL.pure rfl rfl rfl (PureOp.extract rfl rfl) ?_
      refine SL.pure rfl rfl rfl (PureOp.extract rfl rfl) ?_
      refine SL.alloc rfl rfl zero47 (fun b3 hb3 => ?_)
      refine SL.norm [_, _, _, _, _, _, _, _, _, _, _, _, _] rfl ?_
      refine SL.store 12 rfl rfl rfl rfl sz47 rfl rfl ?_
      refine SL.norm [_, _, _, _, _, _, _, _, _, _, _, _, _] rfl ?_
      refine SL.pure rfl rfl rfl (PureOp.assign rfl) ?_
      refine SL.nil_then ?_
      refine WC.seq ?_
      refine WC.region ?_
      refine SL.pure rfl rfl rfl (PureOp.move rfl) ?_
      refine SL.pure rfl rfl rfl (PureOp.fieldAddrT 1 Try.underlying36 rfl sz3 rfl rfl) ?_
      refine SL.pure rfl rfl rfl (PureOp.load (v := .int .i64 s.2.1) Try.underlying3 rfl rfl (fun _ => (CellIs.cells 11 rfl rfl))) ?_
      refine SL.callM [5, 6, 7, 8, 9] rfl rfl rfl rfl rfl rfl callable30 (by decide) (runload_ok d T R A cl G xa ya za ha n xc yc zc hc hM hn hR h9 hA hK hG s.2.1 w0) rfl (fun _ _ => rfl) ?_
      rintro ⟨ha2, hc2⟩ _
      refine SL.norm [_, _, _, _, _, _, _, _, _, _, _, _, _] rfl ?_
      refine SL.pure rfl rfl rfl (PureOp.move rfl) ?_
      refine SL.pure rfl rfl rfl (PureOp.extract rfl rfl) ?_
      refine SL.pure rfl rfl rfl (PureOp.extract rfl rfl) ?_
      refine SL.alloc rfl rfl zero47 (fun b4 hb4 => ?_)
      refine SL.norm [_, _, _, _, _, _, _, _, _, _, _, _, _, _] rfl ?_
      refine SL.store 13 rfl rfl rfl rfl sz47 rfl rfl ?_
      refine SL.norm [_, _, _, _, _, _, _, _, _, _, _, _, _, _] rfl ?_
      refine SL.pure rfl rfl rfl (PureOp.assign rfl) ?_
      refine SL.nil_then ?_
      refine WC.seq ?_
      refine WC.region ?_
      refine SL.pure rfl rfl rfl (PureOp.loads (vs := [.int .i64 ((unB cl G s.2.1).1), .int .i64 ((unB cl G s.2.1).2.1), .int .i64 ((unB cl G s.2.1).2.2)]) Try.underlying47 rfl rfl (fun _ => (RowIs.cells 12 0 3 rfl rfl)) sz47) ?_
      refine SL.pure rfl rfl rfl (PureOp.loads (vs := [.int .i64 ((unB cl G s.2.1).1), .int .i64 ((unB cl G s.2.1).2.1), .int .i64 ((unB cl G s.2.1).2.2)]) Try.underlying47 rfl rfl (fun _ => (RowIs.cells 13 0 3 rfl rfl)) sz47) ?_
      refine SL.pure rfl rfl rfl (PureOp.eqla rfl rfl flat47 rfl) ?_
      refine SL.pure rfl rfl rfl (PureOp.move rfl) ?_
      refine SL.newg 54 true rfl ?_
      refine SL.gpure (c := 1) rfl rfl rfl rfl rfl rfl rfl (PureOp.move rfl) ?_
      refine SL.gpure (c := 1) rfl rfl rfl rfl rfl rfl rfl (PureOp.move rfl) ?_
      refine SL.gpure (c := 1) rfl rfl rfl rfl rfl rfl rfl (PureOp.eql rfl rfl) ?_
      refine SL.pure rfl rfl rfl (PureOp.and_ rfl rfl rfl rfl) ?_
      refine SL.pure rfl rfl rfl (PureOp.assign rfl) ?_
      refine SL.nil_then ?_
      refine WC.ret ?_
      refine QX.ret_in ?_
      refine QX.ret_then ?_
      refine QX.body1 rfl rfl ?_
      intro w hw
      refine ⟨(A, cl, unG cl G s.2.1, (ga2, gc2), (ha2, hc2)), by rw [eqB_refl (ks := [0, 0, 0]) rfl]; simp, ⟨hA, hK.un, Nat.le_succ_of_le unG_le⟩, ?_⟩
      exact HeapOk.pick [0, 1, 2, 3, 4, 5, 6, 7, 8, 9, 10] (by decide) hw
    · try simp only [Bool.and_eq_true, Bool.or_eq_true, Bool.not_eq_true', Bool.not_eq_false', Bool.and_eq_false_iff, Bool.or_eq_false_iff, decide_eq_true_eq, decide_eq_false_iff_not, Int.not_lt, Int.not_le, ne_eq, Decidable.not_not] at h2
      refine WC.seq ?_
      refine WC.region ?_
      refine SL.pure rfl rfl rfl (PureOp.eql rfl rfl) ?_
      refine SL.pure rfl rfl rfl (PureOp.assign rfl) ?_
      refine SL.nil_then ?_
      refine WC.cond rfl (fun h3 => ?_) (fun h3 => ?_)
      · try simp only [Bool.and_eq_true, Bool.or_eq_true, Bool.not_eq_true', Bool.not_eq_false', Bool.and_eq_false_iff, Bool.or_eq_false_iff, decide_eq_true_eq, decide_eq_false_iff_not, Int.not_lt, Int.not_le, ne_eq, Decidable.not_not] at h3
        refine WC.seq ?_
        refine WC.drawh ([Item.triv, Item.triv, Item.triv, Item.triv, Item.triv, Item.triv, Item.triv, Item.triv, Item.triv, Item.triv, X, Item.cells b1 [.int .i64 s.1, .int .i64 s.2.1, .int .i64 s.2.2] 36]) 10 [false, false, false, false, false, false, false, false, false, false] rfl rfl rfl ?_
        refine SD.take 0 [true, false, false, false, false, false, false, false, false, false] rfl (by kernel_rfl) rfl (fun _ h => (HeapOk.settriv (HeapOk.settriv (HeapOk.settriv (HeapOk.settriv (HeapOk.settriv (HeapOk.settriv (HeapOk.settriv (HeapOk.settriv (HeapOk.settriv (HeapOk.settriv h (i := 0) rfl) (i := 1) rfl) (i := 2) rfl) (i := 3) rfl) (i := 4) rfl) (i := 5) rfl) (i := 6) rfl) (i := 7) rfl) (i := 8) rfl) (i := 9) rfl)) rfl rfl rfl (PureOp.move rfl) ?_
        refine SD.take 1 [true, true, false, false, false, false, false, false, false, false] rfl (by kernel_rfl) rfl (fun _ h => (HeapOk.settriv (HeapOk.settriv (HeapOk.settriv (HeapOk.settriv (HeapOk.settriv (HeapOk.settriv (HeapOk.settriv (HeapOk.settriv (HeapOk.settriv (HeapOk.settriv h (i := 0) rfl) (i := 1) rfl) (i := 2) rfl) (i := 3) rfl) (i := 4) rfl) (i := 5) rfl) (i := 6) rfl) (i := 7) rfl) (i := 8) rfl) (i := 9) rfl)) rfl rfl rfl (PureOp.fieldAddrT 2 Try.underlying36 rfl sz3 rfl rfl) ?_
        refine SD.take 2 [true, true, true, false, false, false, false, false, false, false] rfl (by kernel_rfl) rfl (fun _ h => (HeapOk.settriv (HeapOk.settriv (HeapOk.settriv (HeapOk.settriv (HeapOk.settriv (HeapOk.settriv (HeapOk.settriv (HeapOk.settriv (HeapOk.settriv (HeapOk.settriv h (i := 0) rfl) (i := 1) rfl) (i := 2) rfl) (i := 3) rfl) (i := 4) rfl) (i := 5) rfl) (i := 6) rfl) (i := 7) rfl) (i := 8) rfl) (i := 9) rfl)) rfl rfl rfl (PureOp.load (v := .int .i64 s.2.2) Try.underlying3 rfl rfl (fun _ => (CellIs.cells 11 rfl rfl))) ?_
        refine SD.take 4 [true, true, true, false, true, false, false, false, false, false] rfl (by kernel_rfl) rfl (fun _ h => (HeapOk.settriv (HeapOk.settriv (HeapOk.settriv (HeapOk.settriv (HeapOk.settriv (HeapOk.settriv (HeapOk.settriv (HeapOk.settriv (HeapOk.settriv (HeapOk.settriv h (i := 0) rfl) (i := 1) rfl) (i := 2) rfl) (i := 3) rfl) (i := 4) rfl) (i := 5) rfl) (i := 6) rfl) (i := 7) rfl) (i := 8) rfl) (i := 9) rfl)) rfl rfl rfl (PureOp.move rfl) ?_
        refine SD.take 5 [true, true, true, false, true, true, false, false, false, false] rfl (by kernel_rfl) rfl (fun _ h => (HeapOk.settriv (HeapOk.settriv (HeapOk.settriv (HeapOk.settriv (HeapOk.settriv (HeapOk.settriv (HeapOk.settriv (HeapOk.settriv (HeapOk.settriv (HeapOk.settriv h (i := 0) rfl) (i := 1) rfl) (i := 2) rfl) (i := 3) rfl) (i := 4) rfl) (i := 5) rfl) (i := 6) rfl) (i := 7) rfl) (i := 8) rfl) (i := 9) rfl)) rfl rfl rfl (PureOp.fieldAddrT 2 Try.underlying36 rfl sz3 rfl rfl) ?_
        refine SD.take 6 [true, true, true, false, true, true, true, false, false, false] rfl (by kernel_rfl) rfl (fun _ h => (HeapOk.settriv (HeapOk.settriv (HeapOk.settriv (HeapOk.settriv (HeapOk.settriv (HeapOk.settriv (HeapOk.settriv (HeapOk.settriv (HeapOk.settriv (HeapOk.settriv h (i := 0) rfl) (i := 1) rfl) (i := 2) rfl) (i := 3) rfl) (i := 4) rfl) (i := 5) rfl) (i := 6) rfl) (i := 7) rfl) (i := 8) rfl) (i := 9) rfl)) rfl rfl rfl (PureOp.load (v := .int .i64 s.2.2) Try.underlying3 rfl rfl (fun _ => (CellIs.cells 11 rfl rfl))) ?_
        refine SD.one 3 [true, true, true, true, true, true, true, false, false, false] (by kernel_rfl) rfl rfl ?_
        refine SL.callM [0, 1, 2, 3, 4] rfl rfl rfl rfl rfl rfl callable22 (by decide) (pboard_ok b T R A cl G ta ra aa ga n tc rc ac gc hM hn hR h9 hA hK hG s.2.2 w0) rfl (fun _ _ => rfl) ?_
        rintro ⟨ga2, gc2⟩ _
        refine SL.norm [_, _, _, _, _, _, _, _, _, _, _, _] rfl ?_
        refine SD.back (fun _ h => (HeapOk.settriv (HeapOk.settriv (HeapOk.settriv (HeapOk.settriv (HeapOk.settriv (HeapOk.settriv (HeapOk.settriv (HeapOk.settriv (HeapOk.settriv (HeapOk.settriv h (i := 0) rfl) (i := 1) rfl) (i := 2) rfl) (i := 3) rfl) (i := 4) rfl) (i := 5) rfl) (i := 6) rfl) (i := 7) rfl) (i := 8) rfl) (i := 9) rfl)) ?_
        refine SD.one 7 [true, true, true, true, true, true, true, true, false, false] (by kernel_rfl) rfl rfl ?_
        refine SL.callM [5, 6, 7, 8, 9] rfl rfl rfl rfl rfl rfl callable31 (by decide) (rboard_ok d T R A cl G xa ya za ha n xc yc zc hc hM hn hR h9 hA hK hG s.2.2 w0) rfl (fun _ _ => rfl) ?_
        rintro ⟨ha2, hc2⟩ _
        refine SL.norm [_, _, _, _, _, _, _, _, _, _, _, _] rfl ?_
        refine SD.back (fun _ h => (HeapOk.settriv (HeapOk.settriv (HeapOk.settriv (HeapOk.settriv (HeapOk.settriv (HeapOk.settriv (HeapOk.settriv (HeapOk.settriv (HeapOk.settriv (HeapOk.settriv h (i := 0) rfl) (i := 1) rfl) (i := 2) rfl) (i := 3) rfl) (i := 4) rfl) (i := 5) rfl) (i := 6) rfl) (i := 7) rfl) (i := 8) rfl) (i := 9) rfl)) ?_
        refine SD.take 8 [true, true, true, true, true, true, true, true, true, false] rfl (by kernel_rfl) rfl (fun _ h => (HeapOk.settriv (HeapOk.settriv (HeapOk.settriv (HeapOk.settriv (HeapOk.settriv (HeapOk.settriv (HeapOk.settriv (HeapOk.settriv (HeapOk.settriv (HeapOk.settriv h (i := 0) rfl) (i := 1) rfl) (i := 2) rfl) (i := 3) rfl) (i := 4) rfl) (i := 5) rfl) (i := 6) rfl) (i := 7) rfl) (i := 8) rfl) (i := 9) rfl)) rfl rfl rfl (PureOp.eql rfl rfl) ?_
        refine SD.take 9 [true, true, true, true, true, true, true, true, true, true] rfl (by kernel_rfl) rfl (fun _ h => (HeapOk.settriv (HeapOk.settriv (HeapOk.settriv (HeapOk.settriv (HeapOk.settriv (HeapOk.settriv (HeapOk.settriv (HeapOk.settriv (HeapOk.settriv (HeapOk.settriv h (i := 0) rfl) (i := 1) rfl) (i := 2) rfl) (i := 3) rfl) (i := 4) rfl) (i := 5) rfl) (i := 6) rfl) (i := 7) rfl) (i := 8) rfl) (i := 9) rfl)) rfl rfl rfl (PureOp.assign rfl) ?_
        refine SD.done (by kernel_rfl) ?_
        refine QX.ofK ?_
        refine QX.then_ ?_
        refine WC.ret ?_
        refine QX.ret_in ?_
        refine QX.ret_then ?_
        refine QX.body1 rfl rfl ?_
        intro w hw
        refine ⟨(movA T A cl s.2.2 true, cl, G, (ga2, gc2), (ha2, hc2)), by simp, ⟨by rw [movA_len]; exact hA, hK, Nat.le_succ _⟩, ?_⟩
        exact HeapOk.pick [0, 1, 2, 3, 4, 5, 6, 7, 8, 9, 10] (by decide) hw
      · try simp only [Bool.and_eq_true, Bool.or_eq_true, Bool.not_eq_true', Bool.not_eq_false', Bool.and_eq_false_iff, Bool.or_eq_false_iff, decide_eq_true_eq, decide_eq_false_iff_not, Int.not_lt, Int.not_le, ne_eq, Decidable.not_not] at h3
        refine WC.seq ?_
        refine WC.region ?_
        refine SL.pure rfl rfl rfl (PureOp.eql rfl rfl) ?_
        refine SL.pure rfl rfl rfl (PureOp.assign rfl) ?_
        refine SL.nil_then ?_
        refine WC.cond rfl (fun h4 => ?_) (fun h4 => ?_)
        · try simp only [Bool.and_eq_true, Bool.or_eq_true, Bool.not_eq_true', Bool.not_eq_false', Bool.and_eq_false_iff, Bool.or_eq_false_iff, decide_eq_true_eq, decide_eq_false_iff_not, Int.not_lt, Int.not_le, ne_eq, Decidable.not_not] at h4
          refine WC.seq ?_
          refine WC.drawh ([Item.triv, Item.triv, Item.triv, Item.triv, Item.triv, Item.triv, Item.triv, Item.triv, Item.triv, Item.triv, X, Item.cells b1 [.int .i64 s.1, .int .i64 s.2.1, .int .i64 s.2.2] 36]) 10 [false, false, false, false, false, false, false, false, false, false] rfl rfl rfl ?_
          refine SD.take 0 [true, false, false, false, false, false, false, false, false, false] rfl (by kernel_rfl) rfl (fun _ h => (HeapOk.settriv (HeapOk.settriv (HeapOk.settriv (HeapOk.settriv (HeapOk.settriv (HeapOk.settriv (HeapOk.settriv (HeapOk.settriv (HeapOk.settriv (HeapOk.settriv h (i := 0) rfl) (i := 1) rfl) (i := 2) rfl) (i := 3) rfl) (i := 4) rfl) (i := 5) rfl) (i := 6) rfl) (i := 7) rfl) (i := 8) rfl) (i := 9) rfl)) rfl rfl rfl (PureOp.move rfl) ?_
          refine SD.take 1 [true, true, false, false, false, false, false, false, false, false] rfl (by kernel_rfl) rfl (fun _ h => (HeapOk.settriv (HeapOk.settriv (HeapOk.settriv (HeapOk.settriv (HeapOk.settriv (HeapOk.settriv (HeapOk.settriv (HeapOk.settriv (HeapOk.settriv (HeapOk.settriv h (i := 0) rfl) (i := 1) rfl) (i := 2) rfl) (i := 3) rfl) (i := 4) rfl) (i := 5) rfl) (i := 6) rfl) (i := 7) rfl) (i := 8) rfl) (i := 9) rfl)) rfl rfl rfl (PureOp.fieldAddrT 2 Try.underlying36 rfl sz3 rfl rfl) ?_
          refine SD.take 2 [true, true, true, false, false, false, false, false, false, false] rfl (by kernel_rfl) rfl (fun _ h => (HeapOk.settriv (HeapOk.settriv (HeapOk.settriv (HeapOk.settriv (HeapOk.settriv (HeapOk.settriv (HeapOk.settriv (HeapOk.settriv (HeapOk.settriv (HeapOk.settriv h (i := 0) rfl) (i := 1) rfl) (i := 2) rfl) (i := 3) rfl) (i := 4) rfl) (i := 5) rfl) (i := 6) rfl) (i := 7) rfl) (i := 8) rfl) (i := 9) rfl)) rfl rfl rfl (PureOp.load (v := .int .i64 s.2.2) Try.underlying3 rfl rfl (fun _ => (CellIs.cells 11 rfl rfl))) ?_
          refine SD.take 4 [true, true, true, false, true, false, false, false, false, false] rfl (by kernel_rfl) rfl (fun _ h => (HeapOk.settriv (HeapOk.settriv (HeapOk.settriv (HeapOk.settriv (HeapOk.settriv (HeapOk.settriv (HeapOk.settriv (HeapOk.settriv (HeapOk.settriv (HeapOk.settriv h (i := 0) rfl) (i := 1) rfl) (i := 2) rfl) (i := 3) rfl) (i := 4) rfl) (i := 5) rfl) (i := 6) rfl) (i := 7) rfl) (i := 8) rfl) (i := 9) rfl)) rfl rfl rfl (PureOp.move rfl) ?_
          refine SD.take 5 [true, true, true, false, true, true, false, false, false, false] rfl (by kernel_rfl) rfl (fun _ h => (HeapOk.settriv (HeapOk.settriv (HeapOk.settriv (HeapOk.settriv (HeapOk.settriv (HeapOk.settriv (HeapOk.settriv (HeapOk.settriv (HeapOk.settriv (HeapOk.settriv h (i := 0) rfl) (i := 1) rfl) (i := 2) rfl) (i := 3) rfl) (i := 4) rfl) (i := 5) rfl) (i := 6) rfl) (i := 7) rfl) (i := 8) rfl) (i := 9) rfl)) rfl rfl rfl (PureOp.fieldAddrT 2 Try.underlying36 rfl sz3 rfl rfl) ?_
          refine SD.take 6 [true, true, true, false, true, true, true, false, false, false] rfl (by kernel_rfl) rfl (fun _ h => (HeapOk.settriv (HeapOk.settriv (HeapOk.settriv (HeapOk.settriv (HeapOk.settriv (HeapOk.settriv (HeapOk.settriv (HeapOk.settriv (HeapOk.settriv (HeapOk.settriv h (i := 0) rfl) (i := 1) rfl) (i := 2) rfl) (i := 3) rfl) (i := 4) rfl) (i := 5) rfl) (i := 6) rfl) (i := 7) rfl) (i := 8) rfl) (i := 9) rfl)) rfl rfl rfl (PureOp.load (v := .int .i64 s.2.2) Try.underlying3 rfl rfl (fun _ => (CellIs.cells 11 rfl rfl))) ?_
          refine SD.one 3 [true, true, true, true, true, true, true, false, false, false] (by kernel_rfl) rfl rfl ?_
          refine SL.callM [0, 1, 2, 3, 4] rfl rfl rfl rfl rfl rfl callable23 (by decide) (poff_ok b T R A cl G ta ra aa ga n tc rc ac gc hM hn hR h9 hA hK hG s.2.2 w0) rfl (fun _ _ => rfl) ?_
          rintro ⟨ga2, gc2⟩ _
          refine SL.norm [_, _, _, _, _, _, _, _, _, _, _, _] rfl ?_
          refine SD.back (fun _ h => (HeapOk.settriv (HeapOk.settriv (HeapOk.settriv (HeapOk.settriv (HeapOk.settriv (HeapOk.settriv (HeapOk.settriv (HeapOk.settriv (HeapOk.settriv (HeapOk.settriv h (i := 0) rfl) (i := 1) rfl) (i := 2) rfl) (i := 3) rfl) (i := 4) rfl) (i := 5) rfl) (i := 6) rfl) (i := 7) rfl) (i := 8) rfl) (i := 9) rfl)) ?_
          refine SD.one 7 [true, true, true, true, true, true, true, true, false, false] (by kernel_rfl) rfl rfl ?_
          refine SL.callM [5, 6, 7, 8, 9] rfl rfl rfl rfl rfl rfl callable32 (by decide) (roff_ok d T R A cl G xa ya za ha n xc yc zc hc hM hn hR h9 hA hK hG s.2.2 w0) rfl (fun _ _ => rfl) ?_
          rintro ⟨ha2, hc2⟩ _
          refine SL.norm [_, _, _, _, _, _, _, _, _, _, _, _] rfl ?_
          refine SD.back (fun _ h => (HeapOk.settriv (HeapOk.settriv (HeapOk.settriv (HeapOk.settriv (HeapOk.settriv (HeapOk.settriv (HeapOk.settriv (HeapOk.settriv (HeapOk.settriv (HeapOk.settriv h (i := 0) rfl) (i := 1) rfl) (i := 2) rfl) (i := 3) rfl) (i := 4) rfl) (i := 5) rfl) (i := 6) rfl) (i := 7) rfl) (i := 8) rfl) (i := 9) rfl)) ?_
          refine SD.take 8 [true, true, true, true, true, true, true, true, true, false] rfl (by kernel_rfl) rfl (fun _ h => (HeapOk.settriv (HeapOk.settriv (HeapOk.settriv (HeapOk.settriv (HeapOk.settriv (HeapOk.settriv (HeapOk.settriv (HeapOk.settriv (HeapOk.settriv (HeapOk.settriv h (i := 0) rfl) (i := 1) rfl) (i := 2) rfl) (i := 3) rfl) (i := 4) rfl) (i := 5) rfl) (i := 6) rfl) (i := 7) rfl) (i := 8) rfl) (i := 9) rfl)) rfl rfl rfl (PureOp.eql rfl rfl) ?_
          refine SD.take 9 [true, true, true, true, true, true, true, true, true, true] rfl (by kernel_rfl) rfl (fun _ h => (HeapOk.settriv (HeapOk.settriv (HeapOk.settriv (HeapOk.settriv (HeapOk.settriv (HeapOk.settriv (HeapOk.settriv (HeapOk.settriv (HeapOk.settriv (HeapOk.settriv h (i := 0) rfl) (i := 1) rfl) (i := 2) rfl) (i := 3) rfl) (i := 4) rfl) (i := 5) rfl) (i := 6) rfl) (i := 7) rfl) (i := 8) rfl) (i := 9) rfl)) rfl rfl rfl (PureOp.assign rfl) ?_
          refine SD.done (by kernel_rfl) ?_
          refine QX.ofK ?_
          refine QX.then_ ?_
          refine WC.ret ?_
          refine QX.ret_in ?_
          refine QX.ret_then ?_
          refine QX.body1 rfl rfl ?_
          intro w hw
          refine ⟨(movA T A cl s.2.2 false, cl, G, (ga2, gc2), (ha2, hc2)), by simp, ⟨by rw [movA_len]; exact hA, hK, Nat.le_succ _⟩, ?_⟩
          exact HeapOk.pick [0, 1, 2, 3, 4, 5, 6, 7, 8, 9, 10] (by decide) hw
        · try simp only [Bool.and_eq_true, Bool.or_eq_true, Bool.not_eq_true', Bool.not_eq_false', Bool.and_eq_false_iff, Bool.or_eq_false_iff, decide_eq_true_eq, decide_eq_false_iff_not, Int.not_lt, Int.not_le, ne_eq, Decidable.not_not] at h4
          refine WC.seq ?_
          refine WC.region ?_
          refine SL.pure rfl rfl rfl (PureOp.eql rfl rfl) ?_
          refine SL.pure rfl rfl rfl (PureOp.assign rfl) ?_
          refine SL.nil_then ?_
          refine WC.cond rfl (fun h5 => ?_) (fun h5 => ?_)
          · try simp only [Bool.and_eq_true, Bool.or_eq_true, Bool.not_eq_true', Bool.not_eq_false', Bool.and_eq_false_iff, Bool.or_eq_false_iff, decide_eq_true_eq, decide_eq_false_iff_not, Int.not_lt, Int.not_le, ne_eq, Decidable.not_not] at h5
            refine WC.seq ?_
            refine WC.region ?_
            refine SL.pure rfl rfl rfl (PureOp.move rfl) ?_
            refine SL.callM [0, 1, 2, 3, 4] rfl rfl rfl rfl rfl rfl callable20 (by decide) (pclose_ok b T R A cl G ta ra aa ga n tc rc ac gc hM hn hR h9 hA hK hG  w0) rfl (fun _ _ => rfl) ?_
            rintro ⟨⟨ga2, gc2⟩, ⟨lga2, lgc2⟩⟩ _
            refine SL.norm [_, _, _, _, _, _, _, _, _, _, _, _, _] rfl ?_
            refine SL.pure rfl rfl rfl (PureOp.move rfl) ?_
            refine SL.pure rfl rfl rfl (PureOp.extract rfl rfl) ?_
            refine SL.pure rfl rfl rfl (PureOp.extract rfl rfl) ?_
            refine SL.pure rfl rfl rfl (PureOp.assign rfl) ?_
            refine SL.pure rfl rfl rfl (PureOp.assign rfl) ?_
            refine SL.nil_then ?_
            refine WC.seq ?_
            refine WC.region ?_
            refine SL.pure rfl rfl rfl (PureOp.move rfl) ?_
            refine SL.callM [5, 6, 7, 8, 9] rfl rfl rfl rfl rfl rfl callable33 (by decide) (rclose_ok d T R A cl G xa ya za ha n xc yc zc hc hM hn hR h9 hA hK hG  w0) rfl (fun _ _ => rfl) ?_
            rintro ⟨⟨ha2, hc2⟩, ⟨lha2, lhc2⟩⟩ _
            refine SL.norm [_, _, _, _, _, _, _, _, _, _, _, _, _, _] rfl ?_
            refine SL.pure rfl rfl rfl (PureOp.move rfl) ?_
            refine SL.pure rfl rfl rfl (PureOp.extract rfl rfl) ?_
            refine SL.pure rfl rfl rfl (PureOp.extract rfl rfl) ?_
            refine SL.pure rfl rfl rfl (PureOp.assign rfl) ?_
            refine SL.pure rfl rfl rfl (PureOp.assign rfl) ?_
            refine SL.nil_then ?_
            refine WC.seq ?_
            refine WC.region ?_
            refine SL.pure rfl rfl rfl (PureOp.move rfl) ?_
            refine SL.pure rfl rfl rfl (PureOp.move rfl) ?_
            refine SL.calle rfl rfl rfl rfl rfl rfl callable16 (fun w hw => samei_ok (closeL T A cl G) _ _ _ _ _ _ rfl rfl w (SliceIn.rows (hw.mem (i := 12) rfl) encI_len (Nat.le_refl _)) (SliceIn.rows (hw.mem (i := 13) rfl) encI_len (Nat.le_refl _)) (closeL_le (by omega))) ?_
            refine SL.norm [_, _, _, _, _, _, _, _, _, _, _, _, _, _] rfl ?_
            refine SL.pure rfl rfl rfl (PureOp.move rfl) ?_
            refine SL.ung rfl rfl rfl rfl ?_
            refine SL.pure rfl rfl rfl (PureOp.move rfl) ?_
            refine SL.ung rfl rfl rfl rfl ?_
            refine SL.pure rfl rfl rfl (PureOp.move rfl) ?_
            refine SL.ung rfl rfl rfl rfl ?_
            refine SL.pure rfl rfl rfl (PureOp.eql rfl rfl) ?_
            refine SL.pure rfl rfl rfl (PureOp.pickT rfl rfl) ?_
            refine SL.pure rfl rfl rfl (PureOp.assign rfl) ?_
            refine SL.nil_then ?_
            refine WC.ret ?_
            refine QX.ret_in ?_
            refine QX.ret_then ?_
            refine QX.body1 rfl rfl ?_
            intro w hw
            refine ⟨(A, closeC T A cl G, G, (ga2, gc2), (ha2, hc2)), by simp, ⟨hA, hK, Nat.le_succ _⟩, ?_⟩
            exact HeapOk.pick [0, 1, 2, 3, 4, 5, 6, 7, 8, 9, 10] (by decide) hw
          · try simp only [Bool.and_eq_true, Bool.or_eq_true, Bool.not_eq_true', Bool.not_eq_false', Bool.and_eq_false_iff, Bool.or_eq_false_iff, decide_eq_true_eq, decide_eq_false_iff_not, Int.not_lt, Int.not_le, ne_eq, Decidable.not_not] at h5
            refine WC.skip ?_
            refine QX.normal_in ?_
            refine QX.then_ ?_
            refine WC.seq ?_
            refine WC.region ?_
            refine SL.pure rfl rfl rfl (PureOp.assign rfl) ?_
            refine SL.nil_then ?_
            refine WC.ret ?_
            refine QX.body1 rfl rfl ?_
            intro w hw
            refine ⟨(A, cl, G, (ga, gc), (ha, hc)), rfl, ⟨hA, hK, Nat.le_succ _⟩, ?_⟩
            exact HeapOk.pick [0, 1, 2, 3, 4, 5, 6, 7, 8, 9, 10] (by decide) hw

end Go.Proofs.Ythbgnjengkjigaa
