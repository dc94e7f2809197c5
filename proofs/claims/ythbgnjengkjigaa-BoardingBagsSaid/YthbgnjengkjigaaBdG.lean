import Derived.Test.YthbgnjengkjigaaBdF
namespace Go.Proofs.Ythbgnjengkjigaa
open Go Go.RowKit Eng
set_option linter.unusedVariables false
set_option linter.unusedSimpArgs false

set_option maxHeartbeats 4000000 in
set_option maxRecDepth 100000 in
theorem pclose_ok (b : Nat) (T R : List Int) (A : List Bool) (cl : Bool) (G : List Bag) (ta ra aa ga : Option Addr) (n tc rc ac gc : Nat) (hM : Made T R) (hn : n = T.length) (hR : R.length = n) (h9 : n ≤ 999) (hA : A.length = n) (hK : Known T G) (hG : G.length ≤ 500) (w0 : World) : MC Try.prog 20 [.pointer (some ⟨b, 0, none⟩)] w0 [Item.cells b [.bool true, .bool cl, .slice ta n tc, .slice ra n rc, .slice aa n ac, .slice ga G.length gc] 44, Item.own w0.heap.size ta n tc 3 1 (cellsOf encI T), Item.own w0.heap.size ra n rc 3 1 (cellsOf encI R), Item.own w0.heap.size aa n ac 4 1 (cellsOf encBo A), Item.own w0.heap.size ga G.length gc 47 3 (cellsOf encBag G)] (fun t : (Option Addr × Nat) × (Option Addr × Nat) => .tuple #[.slice t.2.1 (closeL T A cl G).length t.2.2, .int .i64 (closeE T A cl G)]) (fun t => [Item.cells b [.bool true, .bool (closeC T A cl G), .slice ta n tc, .slice ra n rc, .slice aa n ac, .slice t.1.1 G.length t.1.2] 44, Item.own w0.heap.size ta n tc 3 1 (cellsOf encI T), Item.own w0.heap.size ra n rc 3 1 (cellsOf encI R), Item.own w0.heap.size aa n ac 4 1 (cellsOf encBo A), Item.own w0.heap.size t.1.1 G.length t.1.2 47 3 (cellsOf encBag G)]) (fun _ => True) (fun t => [.own w0.heap.size t.2.1 (closeL T A cl G).length t.2.2 3 1 (cellsOf encI (closeL T A cl G))]) := by
  refine mcalls (N := 19) Try.func20 rfl rfl rfl ?_
  intro X
  show WC _ _ _ _ _ _ _ [Item.cells b [.bool true, .bool cl, .slice ta n tc, .slice ra n rc, .slice aa n ac, .slice ga G.length gc] 44, Item.own w0.heap.size ta n tc 3 1 (cellsOf encI T), Item.own w0.heap.size ra n rc 3 1 (cellsOf encI R), Item.own w0.heap.size aa n ac 4 1 (cellsOf encBo A), Item.own w0.heap.size ga G.length gc 47 3 (cellsOf encBag G), X]
  refine WC.seq ?_
  refine WC.region ?_
  refine SL.addnil 3 1 ?_
  refine SL.pure rfl rfl rfl (PureOp.assign rfl) ?_
  refine SL.pure rfl rfl rfl (PureOp.assign rfl) ?_
  refine SL.nil_then ?_
  refine WC.seq ?_
  refine WC.seq ?_
  refine WC.region ?_
  refine SL.pure rfl rfl rfl (PureOp.move rfl) ?_
  refine SL.calle rfl rfl rfl rfl rfl rfl callable38 (fun w hw => popen_ok b T R A cl G ta ra aa ga n tc rc ac gc hM hn hR h9 hA hK (by omega) w (ObjIn.of hw 0 rfl) (SliceIn.rows (hw.mem (i := 1) rfl) encI_len (by omega)) (SliceIn.rows (hw.mem (i := 2) rfl) encI_len (by omega)) (SliceIn.rows (hw.mem (i := 3) rfl) encBo_len (by first | omega | (rw [hA]; exact Nat.le_refl _))) (SliceIn.rows (hw.mem (i := 4) rfl) encBag_len (Nat.le_refl _))) ?_
  refine SL.norm [_, _, _, _, _, _, _] rfl ?_
  refine SL.pure rfl rfl rfl (PureOp.assign rfl) ?_
  refine SL.nil_then ?_
  refine WC.seq ?_
  refine WC.region ?_
  refine SL.pure rfl rfl rfl (PureOp.move rfl) ?_
  refine SL.pure rfl rfl rfl (PureOp.neq rfl rfl) ?_
  refine SL.nil_then ?_
  refine WC.cond rfl (fun h1 => ?_) (fun h1 => ?_)
  · try simp only [Bool.and_eq_true, Bool.or_eq_true, Bool.not_eq_true', Bool.not_eq_false', Bool.and_eq_false_iff, Bool.or_eq_false_iff, decide_eq_true_eq, decide_eq_false_iff_not, Int.not_lt, Int.not_le, ne_eq, Decidable.not_not] at h1
    have hcl : cl = true := by
      by_cases q : cl = true
      · exact q
      · rw [if_neg q] at h1; exact absurd rfl h1
    refine WC.seq ?_
    refine WC.region ?_
    refine SL.pure rfl rfl rfl (PureOp.move rfl) ?_
    refine SL.addnil 3 1 ?_
    refine SL.pure rfl rfl rfl (PureOp.assign rfl) ?_
    refine SL.pure rfl rfl rfl (PureOp.assign rfl) ?_
    refine SL.nil_then ?_
    refine WC.ret ?_
    refine QX.ret_then ?_
    refine QX.body2 rfl rfl rfl ?_
    intro w hw
    have q : closeE T A cl G = 10 := by rw [closeE, if_pos hcl]
    have qc : closeC T A cl G = cl := by rw [closeC, if_neg (by rw [q]; decide)]
    have ql : closeL T A cl G = [] := by rw [closeL, if_neg (by rw [q]; decide)]
    refine ⟨((ga, gc), (none, 0)), by rw [q, ql, if_pos hcl]; rfl, trivial, ?_⟩
    rw [qc, ql]
    exact HeapOk.pick [0, 1, 2, 3, 4, 5, 7] (by decide) hw
  · try simp only [Bool.and_eq_true, Bool.or_eq_true, Bool.not_eq_true', Bool.not_eq_false', Bool.and_eq_false_iff, Bool.or_eq_false_iff, decide_eq_true_eq, decide_eq_false_iff_not, Int.not_lt, Int.not_le, ne_eq, Decidable.not_not] at h1
    have hcl : cl = false := by
      cases cl
      · rfl
      · exact absurd h1 (by decide)
    refine WC.skip ?_
    refine QX.then_ ?_
    refine WC.seq ?_
    refine WC.seq ?_
    refine WC.region ?_
    refine SL.pure rfl rfl rfl (PureOp.move rfl) ?_
    refine SL.callo (fun ma mc => .slice ma ((missL T A G).length) mc) rfl rfl rfl rfl rfl rfl callable14 (fun w hw => pmiss_ok b T R A cl G ta ra aa ga n tc rc ac gc hM hn hR h9 hA hK (by omega) w (ObjIn.of hw 0 rfl) (SliceIn.rows (hw.mem (i := 1) rfl) encI_len (by omega)) (SliceIn.rows (hw.mem (i := 2) rfl) encI_len (by omega)) (SliceIn.rows (hw.mem (i := 3) rfl) encBo_len (by first | omega | (rw [hA]; exact Nat.le_refl _))) (SliceIn.rows (hw.mem (i := 4) rfl) encBag_len (Nat.le_refl _))) (fun ma mc => ?_)
    refine SL.norm [_, _, _, _, _, _, _, _] rfl ?_
    refine SL.pure rfl rfl rfl (PureOp.len rfl Try.underlying38) ?_
    refine SL.pure rfl rfl rfl (PureOp.gtr rfl rfl) ?_
    refine SL.nil_then ?_
    refine WC.cond rfl (fun h2 => ?_) (fun h2 => ?_)
    · try simp only [Bool.and_eq_true, Bool.or_eq_true, Bool.not_eq_true', Bool.not_eq_false', Bool.and_eq_false_iff, Bool.or_eq_false_iff, decide_eq_true_eq, decide_eq_false_iff_not, Int.not_lt, Int.not_le, ne_eq, Decidable.not_not] at h2
      refine WC.seq ?_
      refine WC.region ?_
      refine SL.addnil 3 1 ?_
      refine SL.pure rfl rfl rfl (PureOp.assign rfl) ?_
      refine SL.pure rfl rfl rfl (PureOp.assign rfl) ?_
      refine SL.nil_then ?_
      refine WC.ret ?_
      refine QX.ret_then ?_
      refine QX.body2 rfl rfl rfl ?_
      intro w hw
      have q : closeE T A cl G = 34 := by rw [closeE, if_neg (by rw [hcl]; decide), if_pos (by omega)]
      have qc : closeC T A cl G = cl := by rw [closeC, if_neg (by rw [q]; decide)]
      have ql : closeL T A cl G = [] := by rw [closeL, if_neg (by rw [q]; decide)]
      refine ⟨((ga, gc), (none, 0)), by rw [q, ql]; rfl, trivial, ?_⟩
      rw [qc, ql]
      exact HeapOk.pick [0, 1, 2, 3, 4, 5, 8] (by decide) hw
    · try simp only [Bool.and_eq_true, Bool.or_eq_true, Bool.not_eq_true', Bool.not_eq_false', Bool.and_eq_false_iff, Bool.or_eq_false_iff, decide_eq_true_eq, decide_eq_false_iff_not, Int.not_lt, Int.not_le, ne_eq, Decidable.not_not] at h2
      refine WC.skip ?_
      refine QX.then_ ?_
      refine WC.seq ?_
      refine WC.region ?_
      refine SL.pure rfl rfl rfl (PureOp.move rfl) ?_
      refine SL.pure rfl rfl rfl (PureOp.nilCheckp rfl) ?_
      refine SL.pure rfl rfl rfl (PureOp.fieldAddrT 1 Try.underlying44 rfl sz4 rfl rfl) ?_
      refine SL.store 0 rfl rfl rfl rfl sz4 rfl rfl ?_
      refine SL.norm [_, _, _, _, _, _, _, _] rfl ?_
      refine SL.nil_then ?_
      refine WC.seq ?_
      refine WC.region ?_
      refine SL.pure rfl rfl rfl (PureOp.move rfl) ?_
      refine SL.callo (fun la lc => .slice la ((listL T A true n).length) lc) rfl rfl rfl rfl rfl rfl callable36 (fun w hw => plist_ok b T R A true G ta ra aa ga n tc rc ac gc hM hn hR h9 hA hK (by omega) true w (ObjIn.of hw 0 rfl) (SliceIn.rows (hw.mem (i := 1) rfl) encI_len (by omega)) (SliceIn.rows (hw.mem (i := 2) rfl) encI_len (by omega)) (SliceIn.rows (hw.mem (i := 3) rfl) encBo_len (by first | omega | (rw [hA]; exact Nat.le_refl _))) (SliceIn.rows (hw.mem (i := 4) rfl) encBag_len (Nat.le_refl _))) (fun la lc => ?_)
      refine SL.norm [_, _, _, _, _, _, _, _, _] rfl ?_
      refine SL.pure rfl rfl rfl (PureOp.assign rfl) ?_
      refine SL.pure rfl rfl rfl (PureOp.assign rfl) ?_
      refine SL.nil_then ?_
      refine WC.ret ?_
      refine QX.body2 rfl rfl rfl ?_
      intro w hw
      have q : closeE T A cl G = 0 := by rw [closeE, if_neg (by rw [hcl]; decide), if_neg (by omega)]
      have qc : closeC T A cl G = true := by rw [closeC, if_pos q]
      have ql : closeL T A cl G = listL T A true n := by rw [closeL, if_pos q, hn]
      refine ⟨((ga, gc), (la, lc)), by rw [q, ql], trivial, ?_⟩
      rw [qc, ql]
      exact HeapOk.pick [0, 1, 2, 3, 4, 5, 8] (by decide) hw

set_option maxHeartbeats 4000000 in
set_option maxRecDepth 100000 in
theorem rclose_ok (b : Nat) (T R : List Int) (A : List Bool) (cl : Bool) (G : List Bag) (ta ra aa ga : Option Addr) (n tc rc ac gc : Nat) (hM : Made T R) (hn : n = T.length) (hR : R.length = n) (h9 : n ≤ 999) (hA : A.length = n) (hK : Known T G) (hG : G.length ≤ 500) (w0 : World) : MC Try.prog 33 [.pointer (some ⟨b, 0, none⟩)] w0 [Item.cells b [.slice ta n tc, .slice ra n rc, .slice aa n ac, .slice ga G.length gc, .bool true, .bool cl] 59, Item.own w0.heap.size ta n tc 3 1 (cellsOf encI T), Item.own w0.heap.size ra n rc 3 1 (cellsOf encI R), Item.own w0.heap.size aa n ac 4 1 (cellsOf encBo A), Item.own w0.heap.size ga G.length gc 47 3 (cellsOf encBag G)] (fun t : (Option Addr × Nat) × (Option Addr × Nat) => .tuple #[.slice t.2.1 (closeL T A cl G).length t.2.2, .int .i64 (closeE T A cl G)]) (fun t => [Item.cells b [.slice ta n tc, .slice ra n rc, .slice aa n ac, .slice t.1.1 G.length t.1.2, .bool true, .bool (closeC T A cl G)] 59, Item.own w0.heap.size ta n tc 3 1 (cellsOf encI T), Item.own w0.heap.size ra n rc 3 1 (cellsOf encI R), Item.own w0.heap.size aa n ac 4 1 (cellsOf encBo A), Item.own w0.heap.size t.1.1 G.length t.1.2 47 3 (cellsOf encBag G)]) (fun _ => True) (fun t => [.own w0.heap.size t.2.1 (closeL T A cl G).length t.2.2 3 1 (cellsOf encI (closeL T A cl G))]) := by
  refine mcalls (N := 19) Try.func33 rfl rfl rfl ?_
  intro X
  show WC _ _ _ _ _ _ _ [Item.cells b [.slice ta n tc, .slice ra n rc, .slice aa n ac, .slice ga G.length gc, .bool true, .bool cl] 59, Item.own w0.heap.size ta n tc 3 1 (cellsOf encI T), Item.own w0.heap.size ra n rc 3 1 (cellsOf encI R), Item.own w0.heap.size aa n ac 4 1 (cellsOf encBo A), Item.own w0.heap.size ga G.length gc 47 3 (cellsOf encBag G), X]
  refine WC.seq ?_
  refine WC.region ?_
  refine SL.addnil 3 1 ?_
  refine SL.pure rfl rfl rfl (PureOp.assign rfl) ?_
  refine SL.pure rfl rfl rfl (PureOp.assign rfl) ?_
  refine SL.nil_then ?_
  refine WC.seq ?_
  refine WC.seq ?_
  refine WC.region ?_
  refine SL.pure rfl rfl rfl (PureOp.move rfl) ?_
  refine SL.calle rfl rfl rfl rfl rfl rfl callable43 (fun w hw => rready_ok b T R A cl G ta ra aa ga n tc rc ac gc hM hn hR h9 hA hK (by omega) w (ObjIn.of hw 0 rfl) (SliceIn.rows (hw.mem (i := 1) rfl) encI_len (by omega)) (SliceIn.rows (hw.mem (i := 2) rfl) encI_len (by omega)) (SliceIn.rows (hw.mem (i := 3) rfl) encBo_len (by first | omega | (rw [hA]; exact Nat.le_refl _))) (SliceIn.rows (hw.mem (i := 4) rfl) encBag_len (Nat.le_refl _))) ?_
  refine SL.norm [_, _, _, _, _, _, _] rfl ?_
  refine SL.pure rfl rfl rfl (PureOp.assign rfl) ?_
  refine SL.nil_then ?_
  refine WC.seq ?_
  refine WC.region ?_
  refine SL.pure rfl rfl rfl (PureOp.move rfl) ?_
  refine SL.pure rfl rfl rfl (PureOp.neq rfl rfl) ?_
  refine SL.nil_then ?_
  refine WC.cond rfl (fun h1 => ?_) (fun h1 => ?_)
  · try simp only [Bool.and_eq_true, Bool.or_eq_true, Bool.not_eq_true', Bool.not_eq_false', Bool.and_eq_false_iff, Bool.or_eq_false_iff, decide_eq_true_eq, decide_eq_false_iff_not, Int.not_lt, Int.not_le, ne_eq, Decidable.not_not] at h1
    have hcl : cl = true := by
      by_cases q : cl = true
      · exact q
      · rw [if_neg q] at h1; exact absurd rfl h1
    refine WC.seq ?_
    refine WC.region ?_
    refine SL.pure rfl rfl rfl (PureOp.move rfl) ?_
    refine SL.addnil 3 1 ?_
    refine SL.pure rfl rfl rfl (PureOp.assign rfl) ?_
    refine SL.pure rfl rfl rfl (PureOp.assign rfl) ?_
    refine SL.nil_then ?_
    refine WC.ret ?_
    refine QX.ret_then ?_
    refine QX.body2 rfl rfl rfl ?_
    intro w hw
    have q : closeE T A cl G = 10 := by rw [closeE, if_pos hcl]
    have qc : closeC T A cl G = cl := by rw [closeC, if_neg (by rw [q]; decide)]
    have ql : closeL T A cl G = [] := by rw [closeL, if_neg (by rw [q]; decide)]
    refine ⟨((ga, gc), (none, 0)), by rw [q, ql, if_pos hcl]; rfl, trivial, ?_⟩
    rw [qc, ql]
    exact HeapOk.pick [0, 1, 2, 3, 4, 5, 7] (by decide) hw
  · try simp only [Bool.and_eq_true, Bool.or_eq_true, Bool.not_eq_true', Bool.not_eq_false', Bool.and_eq_false_iff, Bool.or_eq_false_iff, decide_eq_true_eq, decide_eq_false_iff_not, Int.not_lt, Int.not_le, ne_eq, Decidable.not_not] at h1
    have hcl : cl = false := by
      cases cl
      · rfl
      · exact absurd h1 (by decide)
    refine WC.skip ?_
    refine QX.then_ ?_
    refine WC.seq ?_
    refine WC.seq ?_
    refine WC.region ?_
    refine SL.pure rfl rfl rfl (PureOp.move rfl) ?_
    refine SL.callo (fun ma mc => .slice ma ((missL T A G).length) mc) rfl rfl rfl rfl rfl rfl callable15 (fun w hw => rmiss_ok b T R A cl G ta ra aa ga n tc rc ac gc hM hn hR h9 hA hK (by omega) w (ObjIn.of hw 0 rfl) (SliceIn.rows (hw.mem (i := 1) rfl) encI_len (by omega)) (SliceIn.rows (hw.mem (i := 2) rfl) encI_len (by omega)) (SliceIn.rows (hw.mem (i := 3) rfl) encBo_len (by first | omega | (rw [hA]; exact Nat.le_refl _))) (SliceIn.rows (hw.mem (i := 4) rfl) encBag_len (Nat.le_refl _))) (fun ma mc => ?_)
    refine SL.norm [_, _, _, _, _, _, _, _] rfl ?_
    refine SL.pure rfl rfl rfl (PureOp.len rfl Try.underlying38) ?_
    refine SL.pure rfl rfl rfl (PureOp.gtr rfl rfl) ?_
    refine SL.nil_then ?_
    refine WC.cond rfl (fun h2 => ?_) (fun h2 => ?_)
    · try simp only [Bool.and_eq_true, Bool.or_eq_true, Bool.not_eq_true', Bool.not_eq_false', Bool.and_eq_false_iff, Bool.or_eq_false_iff, decide_eq_true_eq, decide_eq_false_iff_not, Int.not_lt, Int.not_le, ne_eq, Decidable.not_not] at h2
      refine WC.seq ?_
      refine WC.region ?_
      refine SL.addnil 3 1 ?_
      refine SL.pure rfl rfl rfl (PureOp.assign rfl) ?_
      refine SL.pure rfl rfl rfl (PureOp.assign rfl) ?_
      refine SL.nil_then ?_
      refine WC.ret ?_
      refine QX.ret_then ?_
      refine QX.body2 rfl rfl rfl ?_
      intro w hw
      have q : closeE T A cl G = 34 := by rw [closeE, if_neg (by rw [hcl]; decide), if_pos (by omega)]
      have qc : closeC T A cl G = cl := by rw [closeC, if_neg (by rw [q]; decide)]
      have ql : closeL T A cl G = [] := by rw [closeL, if_neg (by rw [q]; decide)]
      refine ⟨((ga, gc), (none, 0)), by rw [q, ql]; rfl, trivial, ?_⟩
      rw [qc, ql]
      exact HeapOk.pick [0, 1, 2, 3, 4, 5, 8] (by decide) hw
    · try simp only [Bool.and_eq_true, Bool.or_eq_true, Bool.not_eq_true', Bool.not_eq_false', Bool.and_eq_false_iff, Bool.or_eq_false_iff, decide_eq_true_eq, decide_eq_false_iff_not, Int.not_lt, Int.not_le, ne_eq, Decidable.not_not] at h2
      refine WC.skip ?_
      refine QX.then_ ?_
      refine WC.seq ?_
      refine WC.region ?_
      refine SL.pure rfl rfl rfl (PureOp.move rfl) ?_
      refine SL.pure rfl rfl rfl (PureOp.nilCheckp rfl) ?_
      refine SL.pure rfl rfl rfl (PureOp.fieldAddrT 5 Try.underlying59 rfl sz4 rfl rfl) ?_
      refine SL.store 0 rfl rfl rfl rfl sz4 rfl rfl ?_
      refine SL.norm [_, _, _, _, _, _, _, _] rfl ?_
      refine SL.nil_then ?_
      refine WC.seq ?_
      refine WC.region ?_
      refine SL.pure rfl rfl rfl (PureOp.move rfl) ?_
      refine SL.callo (fun la lc => .slice la ((listL T A true n).length) lc) rfl rfl rfl rfl rfl rfl callable37 (fun w hw => rlist_ok b T R A true G ta ra aa ga n tc rc ac gc hM hn hR h9 hA hK (by omega) true w (ObjIn.of hw 0 rfl) (SliceIn.rows (hw.mem (i := 1) rfl) encI_len (by omega)) (SliceIn.rows (hw.mem (i := 2) rfl) encI_len (by omega)) (SliceIn.rows (hw.mem (i := 3) rfl) encBo_len (by first | omega | (rw [hA]; exact Nat.le_refl _))) (SliceIn.rows (hw.mem (i := 4) rfl) encBag_len (Nat.le_refl _))) (fun la lc => ?_)
      refine SL.norm [_, _, _, _, _, _, _, _, _] rfl ?_
      refine SL.pure rfl rfl rfl (PureOp.assign rfl) ?_
      refine SL.pure rfl rfl rfl (PureOp.assign rfl) ?_
      refine SL.nil_then ?_
      refine WC.ret ?_
      refine QX.body2 rfl rfl rfl ?_
      intro w hw
      have q : closeE T A cl G = 0 := by rw [closeE, if_neg (by rw [hcl]; decide), if_neg (by omega)]
      have qc : closeC T A cl G = true := by rw [closeC, if_pos q]
      have ql : closeL T A cl G = listL T A true n := by rw [closeL, if_pos q, hn]
      refine ⟨((ga, gc), (la, lc)), by rw [q, ql], trivial, ?_⟩
      rw [qc, ql]
      exact HeapOk.pick [0, 1, 2, 3, 4, 5, 8] (by decide) hw

end Go.Proofs.Ythbgnjengkjigaa
