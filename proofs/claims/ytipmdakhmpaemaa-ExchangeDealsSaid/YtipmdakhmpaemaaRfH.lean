import Derived.Test.YtipmdakhmpaemaaRfG
namespace Go.Proofs.Ytipmdakhmpaemaa
open Go Go.RowKit Eng
set_option linter.unusedVariables false
set_option linter.unusedSimpArgs false

set_option maxHeartbeats 4000000 in
set_option maxRecDepth 100000 in
theorem rapply_ok (t : TK) (l : List Cp) (ao : Option Addr) (n cap : Nat) (hn : n = l.length) (w0 : World) (hz : SliceIn w0 11 ao n cap (rowsF enc65 l)) (hnb : n ≤ 1000) (hx : SliceIn w0 2 t.taxes.ao t.taxes.l.length t.taxes.cap (rowsF enc67 t.taxes.l)) (hxb : t.taxes.l.length ≤ 1000) (fee : Int) (h64 : ∀ x ∈ opens l, In64 x) (h64x : ∀ x ∈ amts t.taxes.l, In64 x) : FnC Try.prog 20 [.agg #[.int .i64 t.num, .string t.loc, .string t.p1, .string t.p2, .string t.p3, .slice ao n cap, .int .i64 t.fare, .slice t.taxes.ao t.taxes.l.length t.taxes.cap, .int .i64 t.total, .int .i64 t.issued], .int .i64 fee] w0 fun v w' => ∃ a c, v = apV t l (ofE l t.taxes.l fee).1 (ofE l t.taxes.l fee).2 9 a c ∧ w'.ownsRow w0.heap.size 65 11 (.slice a (lA l 9 (ofE l t.taxes.l fee).2).length c) (lA l 9 (ofE l t.taxes.l fee).2).length (cellsOf enc65 (lA l 9 (ofE l t.taxes.l fee).2)) := by
  refine fnc (N := 41) Try.func20 rfl rfl rfl ?_
  refine WC.seq ?_
  refine WC.region ?_
  refine SL.box rfl rfl rfl (fun b1 hb1 => ?_)
  refine SL.norm [_] rfl ?_
  refine SL.alloc rfl rfl zero27 (fun b2 hb2 => ?_)
  refine SL.norm [_, _] rfl ?_
  refine SL.alloc rfl rfl zero37 (fun b3 hb3 => ?_)
  refine SL.norm [_, _, _] rfl ?_
  refine SL.pure rfl rfl rfl (PureOp.assign rfl) ?_
  refine SL.nil_then ?_
  refine WC.seq ?_
  refine WC.region ?_
  refine SL.pure rfl rfl rfl (PureOp.loads (vs := [.int .i64 t.num, .string t.loc, .string t.p1, .string t.p2, .string t.p3, .slice ao n cap, .int .i64 t.fare, .slice t.taxes.ao t.taxes.l.length t.taxes.cap, .int .i64 t.total, .int .i64 t.issued]) Try.underlying27 rfl rfl (fun _ => (RowIs.cells 0 0 10 rfl rfl)) sz27) ?_
  refine SL.pure rfl rfl rfl (PureOp.move rfl) ?_
  refine SL.calle rfl rfl rfl rfl rfl rfl callable17 (fun w hw => rof_ok t l ao n cap hn w (hz.below hw.below) hnb (hx.below hw.below) hxb fee h64 h64x) ?_
  refine SL.norm [_, _, _] rfl ?_
  refine SL.pure rfl rfl rfl (PureOp.move rfl) ?_
  refine SL.pure rfl rfl rfl (PureOp.extract rfl rfl) ?_
  refine SL.pure rfl rfl rfl (PureOp.extract rfl rfl) ?_
  refine SL.alloc rfl rfl zero37 (fun b4 hb4 => ?_)
  refine SL.norm [_, _, _, _] rfl ?_
  refine SL.store 3 rfl rfl rfl rfl sz37 rfl rfl ?_
  refine SL.norm [_, _, _, _] rfl ?_
  refine SL.pure rfl rfl rfl (PureOp.assign rfl) ?_
  refine SL.nil_then ?_
  refine WC.seq ?_
  refine WC.seq ?_
  refine WC.region ?_
  refine SL.pure rfl rfl rfl (PureOp.move rfl) ?_
  refine SL.pure rfl rfl rfl (PureOp.neq rfl rfl) ?_
  refine SL.nil_then ?_
  refine WC.cond rfl (fun h1 => ?_) (fun h1 => ?_)
  · try simp only [Bool.and_eq_true, Bool.or_eq_true, Bool.not_eq_true', Bool.not_eq_false', Bool.and_eq_false_iff, Bool.or_eq_false_iff, decide_eq_true_eq, decide_eq_false_iff_not, Int.not_lt, Int.not_le, ne_eq, Decidable.not_not] at h1
    refine WC.seq ?_
    refine WC.region ?_
    refine SL.pure rfl rfl rfl (PureOp.build bld27 rfl rfl) ?_
    refine SL.pure rfl rfl rfl (PureOp.build bld37 rfl rfl) ?_
    refine SL.pure rfl rfl rfl (PureOp.move rfl) ?_
    refine SL.store 1 rfl rfl rfl rfl sz27 rfl rfl ?_
    refine SL.norm [_, _, _, _] rfl ?_
    refine SL.store 2 rfl rfl rfl rfl sz37 rfl rfl ?_
    refine SL.norm [_, _, _, _] rfl ?_
    refine SL.pure rfl rfl rfl (PureOp.assign rfl) ?_
    refine SL.nil_then ?_
    refine WC.ret ?_
    refine QX.ret_then ?_
    refine QX.retv rfl (RVs.cons (RV.cell rfl Try.underlying27 rfl (RowIs.cells 1 0 10 rfl rfl) sz27) (RVs.cons (RV.cell rfl Try.underlying37 rfl (RowIs.cells 2 0 4 rfl rfl) sz37) (RVs.cons (RV.tmp rfl) RVs.nil))) ?_
    intro w hw
    have q1 : (ofE l t.taxes.l fee).1 = pd0 := ofE_err h1
    have q2 : ∀ ev, lA l ev (ofE l t.taxes.l fee).2 = [] := fun ev => by rw [lA, if_neg (by omega)]
    refine ⟨none, 0, ?_, by rw [q2]; exact ownsRow_nil⟩
    rw [apV, q2, tkA, if_neg (by omega), q1]; rfl
  · try simp only [Bool.and_eq_true, Bool.or_eq_true, Bool.not_eq_true', Bool.not_eq_false', Bool.and_eq_false_iff, Bool.or_eq_false_iff, decide_eq_true_eq, decide_eq_false_iff_not, Int.not_lt, Int.not_le, ne_eq, Decidable.not_not] at h1
    refine WC.skip ?_
    refine QX.then_ ?_
    refine WC.seq ?_
    refine WC.region ?_
    refine SL.pure rfl rfl rfl (PureOp.loads (vs := [.int .i64 t.num, .string t.loc, .string t.p1, .string t.p2, .string t.p3, .slice ao n cap, .int .i64 t.fare, .slice t.taxes.ao t.taxes.l.length t.taxes.cap, .int .i64 t.total, .int .i64 t.issued]) Try.underlying27 rfl rfl (fun _ => (RowIs.cells 0 0 10 rfl rfl)) sz27) ?_
    refine SL.callo (fun oa oc => .slice oa ((openT l n).length) oc) rfl rfl rfl rfl rfl rfl callable41 (fun w hw => ropen_ok t l ao n cap hn w (hz.below hw.below) hnb (hx.below hw.below) hxb) (fun oa oc => ?_)
    refine SL.norm [_, _, _, _, _] rfl ?_
    refine SL.pure rfl rfl rfl (PureOp.assign rfl) ?_
    refine SL.nil_then ?_
    refine WC.seq ?_
    refine WC.seq ?_
    refine WC.region ?_
    refine SL.addnil 65 11 ?_
    refine SL.pure rfl rfl rfl (PureOp.assign rfl) ?_
    refine SL.nil_then ?_
    refine WC.block ?_
    refine WC.loop (σ := Nat × Option Addr × Nat × List Cp × Option Addr × Nat × Nat × List Value) (fun q_ => [(0, 0, .agg #[.int .i64 t.num, .string t.loc, .string t.p1, .string t.p2, .string t.p3, .slice ao n cap, .int .i64 t.fare, .slice t.taxes.ao t.taxes.l.length t.taxes.cap, .int .i64 t.total, .int .i64 t.issued]), (1, 0, .int .i64 fee), (2, 0, .pointer (some ⟨b1, 0, none⟩)), (4, 0, .pointer (some ⟨b2, 0, none⟩)), (5, 0, .pointer (some ⟨b3, 0, none⟩)), (6, 0, .int .i64 0), (7, 0, .pointer (some ⟨b4, 0, none⟩)), (8, 0, .int .i64 ((ofE l t.taxes.l fee).2)), (9, 0, .slice oa ((openT l n).length) oc), (11, 0, .tuple #[.agg #[.int .i64 ((ofE l t.taxes.l fee).1.1), .int .i64 ((ofE l t.taxes.l fee).1.2.1), .int .i64 ((ofE l t.taxes.l fee).1.2.2.1), .int .i64 ((ofE l t.taxes.l fee).1.2.2.2)], .int .i64 ((ofE l t.taxes.l fee).2)]), (12, 0, .agg #[.int .i64 t.num, .string t.loc, .string t.p1, .string t.p2, .string t.p3, .slice ao n cap, .int .i64 t.fare, .slice t.taxes.ao t.taxes.l.length t.taxes.cap, .int .i64 t.total, .int .i64 t.issued]), (13, 0, .int .i64 fee), (14, 0, .tuple #[.agg #[.int .i64 ((ofE l t.taxes.l fee).1.1), .int .i64 ((ofE l t.taxes.l fee).1.2.1), .int .i64 ((ofE l t.taxes.l fee).1.2.2.1), .int .i64 ((ofE l t.taxes.l fee).1.2.2.2)], .int .i64 ((ofE l t.taxes.l fee).2)]), (15, 0, .agg #[.int .i64 ((ofE l t.taxes.l fee).1.1), .int .i64 ((ofE l t.taxes.l fee).1.2.1), .int .i64 ((ofE l t.taxes.l fee).1.2.2.1), .int .i64 ((ofE l t.taxes.l fee).1.2.2.2)]), (16, 0, .int .i64 ((ofE l t.taxes.l fee).2)), (17, 0, .int .i64 ((ofE l t.taxes.l fee).2)), (18, 0, .bool (decide ((ofE l t.taxes.l fee).2 ≠ 0))), (22, 0, .agg #[.int .i64 t.num, .string t.loc, .string t.p1, .string t.p2, .string t.p3, .slice ao n cap, .int .i64 t.fare, .slice t.taxes.ao t.taxes.l.length t.taxes.cap, .int .i64 t.total, .int .i64 t.issued]), (23, 0, .slice oa ((openT l n).length) oc), (10, 0, .int .i64 ((q_.1 : Nat) : Int))]) (fun q_ => [Item.cells b1 [.int .i64 t.num, .string t.loc, .string t.p1, .string t.p2, .string t.p3, .slice q_.2.1 n q_.2.2.1, .int .i64 t.fare, .slice t.taxes.ao t.taxes.l.length t.taxes.cap, .int .i64 t.total, .int .i64 t.issued] 27, Item.cells b2 [.int .i64 0, .string (⟨#[]⟩), .string (⟨#[]⟩), .string (⟨#[]⟩), .string (⟨#[]⟩), .slice none 0 0, .int .i64 0, .slice none 0 0, .int .i64 0, .int .i64 0] 27, Item.cells b3 [.int .i64 0, .int .i64 0, .int .i64 0, .int .i64 0] 37, Item.cells b4 [.int .i64 ((ofE l t.taxes.l fee).1.1), .int .i64 ((ofE l t.taxes.l fee).1.2.1), .int .i64 ((ofE l t.taxes.l fee).1.2.2.1), .int .i64 ((ofE l t.taxes.l fee).1.2.2.2)] 37, Item.own w0.heap.size oa ((openT l n).length) oc 3 1 (cellsOf encI (openT l n)), Item.own w0.heap.size q_.2.2.2.2.1 q_.2.2.2.2.2.1 q_.2.2.2.2.2.2.1 65 11 q_.2.2.2.2.2.2.2]) (fun q_ => q_.1 ≤ (openT l n).length ∧ q_.2.2.2.1 = cutI l 9 ((openT l n).take q_.1) ∧ ((q_.2.2.2.2.1 = q_.2.1 ∧ q_.2.2.2.2.2.1 = n ∧ q_.2.2.2.2.2.2.1 = q_.2.2.1 ∧ q_.2.2.2.2.2.2.2 = cellsOf enc65 q_.2.2.2.1) ∨ (q_.1 = 0 ∧ q_.2.1 = ao ∧ q_.2.2.1 = cap ∧ q_.2.2.2.1 = l))) (fun q_ => (openT l n).length - q_.1) 6 ((0, ao, cap, l, none, 0, 0, [])) (⟨Nat.zero_le _, rfl, .inr ⟨rfl, rfl, rfl, rfl⟩⟩) ⟨rfl, rfl, rfl, rfl, rfl, rfl, rfl, rfl, rfl, rfl, rfl, rfl, rfl, rfl, rfl, rfl, rfl, rfl, rfl, rfl, rfl, rfl, rfl, rfl, rfl, rfl, rfl, rfl, rfl, rfl, rfl, rfl, rfl, rfl, rfl, rfl, rfl, rfl, rfl, rfl, trivial⟩ rfl ?_
    rintro ⟨k, a, c, cs, pa, pn, pc, px⟩ ⟨hk, hcs, hph⟩
    try dsimp only at *
    refine WC.seq ?_
    refine WC.seq ?_
    refine WC.region ?_
    refine SL.pure rfl rfl rfl (PureOp.move rfl) ?_
    refine SL.pure rfl rfl rfl (PureOp.move rfl) ?_
    refine SL.pure rfl rfl rfl (PureOp.len rfl Try.underlying89) ?_
    refine SL.pure rfl rfl rfl (PureOp.lss rfl rfl) ?_
    refine SL.nil_then ?_
    refine WC.cond rfl (fun h2 => ?_) (fun h2 => ?_)
    · try simp only [Bool.and_eq_true, Bool.or_eq_true, Bool.not_eq_true', Bool.not_eq_false', Bool.and_eq_false_iff, Bool.or_eq_false_iff, decide_eq_true_eq, decide_eq_false_iff_not, Int.not_lt, Int.not_le, ne_eq, Decidable.not_not] at h2
      refine WC.skip ?_
      refine QX.then_ ?_
      refine WC.seq ?_
      refine WC.block ?_
      refine WC.drawh ([Item.triv, Item.cells b2 [.int .i64 0, .string (⟨#[]⟩), .string (⟨#[]⟩), .string (⟨#[]⟩), .string (⟨#[]⟩), .slice none 0 0, .int .i64 0, .slice none 0 0, .int .i64 0, .int .i64 0] 27, Item.cells b3 [.int .i64 0, .int .i64 0, .int .i64 0, .int .i64 0] 37, Item.cells b4 [.int .i64 ((ofE l t.taxes.l fee).1.1), .int .i64 ((ofE l t.taxes.l fee).1.2.1), .int .i64 ((ofE l t.taxes.l fee).1.2.2.1), .int .i64 ((ofE l t.taxes.l fee).1.2.2.2)] 37, Item.own w0.heap.size oa ((openT l n).length) oc 3 1 (cellsOf encI (openT l n)), Item.own w0.heap.size pa pn pc 65 11 px]) 10 [false, false, false, false, false, false, false, false, false, false] rfl rfl rfl ?_
      refine SD.take 1 [false, true, false, false, false, false, false, false, false, false] rfl (by kernel_rfl) rfl (fun _ h => (HeapOk.settriv h (i := 0) rfl)) rfl rfl rfl (PureOp.move rfl) ?_
      refine SD.take 2 [false, true, true, false, false, false, false, false, false, false] rfl (by kernel_rfl) rfl (fun _ h => (HeapOk.settriv h (i := 0) rfl)) rfl rfl rfl (PureOp.move rfl) ?_
      refine SD.take 3 [false, true, true, true, false, false, false, false, false, false] rfl (by kernel_rfl) rfl (fun _ h => (HeapOk.settriv h (i := 0) rfl)) rfl rfl rfl (PureOp.indexAddrN Try.underlying89 sz3 rfl rfl (AoOk.own 4 rfl) (fun _ => by first | omega | (have q := openT_le l n; omega))) ?_
      refine SD.take 4 [false, true, true, true, true, false, false, false, false, false] rfl (by kernel_rfl) rfl (fun _ h => (HeapOk.settriv h (i := 0) rfl)) rfl rfl rfl (PureOp.load (v := .int .i64 (nth (openT l n) k)) Try.underlying3 rfl rfl (fun _ => (CellIs.ownc 4 rfl k 0 (by exact cellsOf_get encI_len _ _ 0 (by omega) (by decide))))) ?_
      refine SD.one 0 [true, true, true, true, true, false, false, false, false, false] (by kernel_rfl) rfl rfl ?_
      refine SL.pure rfl rfl rfl (PureOp.loads (vs := [.int .i64 t.num, .string t.loc, .string t.p1, .string t.p2, .string t.p3, .slice a n c, .int .i64 t.fare, .slice t.taxes.ao t.taxes.l.length t.taxes.cap, .int .i64 t.total, .int .i64 t.issued]) Try.underlying27 rfl rfl (fun _ => (RowIs.cells 0 0 10 rfl rfl)) sz27) ?_
      refine SD.back (fun _ h => (HeapOk.settriv h (i := 0) rfl)) ?_
      refine SD.one 5 [true, true, true, true, true, true, false, false, false, false] (by kernel_rfl) rfl rfl ?_
      refine SL.callo (fun ma mc => .tuple #[.agg #[.int .i64 t.num, .string t.loc, .string t.p1, .string t.p2, .string t.p3, .slice ma n mc, .int .i64 t.fare, .slice t.taxes.ao t.taxes.l.length t.taxes.cap, .int .i64 t.total, .int .i64 t.issued], .int .i64 0]) rfl rfl rfl rfl rfl rfl callable45 (fun w hw => rmove_ok t cs a n c (by rw [hcs, cutI_len]; exact hn) w (src_of hw (i := 5) rfl hph hz (by rw [hcs, cutI_len]; exact hn)) hnb (nth (openT l n) k) 9 (by have q := (cutI_at (l := l) (e := 9) (k := k) (by subst hn; omega)).1; subst hn; exact q) (by subst hn; rw [hcs]; exact (cutI_at (e := 9) (by omega)).2) (by decide)) (fun ma mc => ?_)
      refine SL.norm [_, _, _, _, _, _, _] rfl ?_
      refine SD.back (fun _ h => (HeapOk.settriv (HeapOk.take h 6) (i := 0) rfl)) ?_
      refine SD.take 6 [true, true, true, true, true, true, true, false, false, false] rfl (by kernel_rfl) rfl (fun _ h => (HeapOk.settriv (HeapOk.take h 6) (i := 0) rfl)) rfl rfl rfl (PureOp.move rfl) ?_
      refine SD.take 7 [true, true, true, true, true, true, true, true, false, false] rfl (by kernel_rfl) rfl (fun _ h => (HeapOk.settriv (HeapOk.take h 6) (i := 0) rfl)) rfl rfl rfl (PureOp.extract rfl rfl) ?_
      refine SD.take 8 [true, true, true, true, true, true, true, true, true, false] rfl (by kernel_rfl) rfl (fun _ h => (HeapOk.settriv (HeapOk.take h 6) (i := 0) rfl)) rfl rfl rfl (PureOp.extract rfl rfl) ?_
      refine SD.one 9 [true, true, true, true, true, true, true, true, true, true] (by kernel_rfl) rfl rfl ?_
      refine SL.store 0 rfl rfl rfl rfl sz27 rfl rfl ?_
      refine SL.norm [_, _, _, _, _, _, _] rfl ?_
      refine SD.back (fun _ h => (HeapOk.settriv (HeapOk.take h 6) (i := 0) rfl)) ?_
      refine SD.done (by kernel_rfl) ?_
      refine QX.ofK ?_
      refine QX.normal_in ?_
      refine QX.then_ ?_
      refine WC.region ?_
      refine SL.pure rfl rfl rfl (PureOp.move rfl) ?_
      refine SL.pure rfl rfl rfl (PureOp.addN (k := 1) rfl rfl (fun _ => by first | omega | (have q := openT_le l n; omega))) ?_
      refine SL.addnil 65 11 ?_
      refine SL.pure rfl rfl rfl (PureOp.assign rfl) ?_
      refine SL.nil ?_
      refine QX.heap (fun _ h => HeapOk.pick [0, 1, 2, 3, 4, 6] (by decide) h) ?_
      refine QX.round (σ := Nat × Option Addr × Nat × List Cp × Option Addr × Nat × Nat × List Value) (Ef := fun q_ => [(0, 0, .agg #[.int .i64 t.num, .string t.loc, .string t.p1, .string t.p2, .string t.p3, .slice ao n cap, .int .i64 t.fare, .slice t.taxes.ao t.taxes.l.length t.taxes.cap, .int .i64 t.total, .int .i64 t.issued]), (1, 0, .int .i64 fee), (2, 0, .pointer (some ⟨b1, 0, none⟩)), (4, 0, .pointer (some ⟨b2, 0, none⟩)), (5, 0, .pointer (some ⟨b3, 0, none⟩)), (6, 0, .int .i64 0), (7, 0, .pointer (some ⟨b4, 0, none⟩)), (8, 0, .int .i64 ((ofE l t.taxes.l fee).2)), (9, 0, .slice oa ((openT l n).length) oc), (11, 0, .tuple #[.agg #[.int .i64 ((ofE l t.taxes.l fee).1.1), .int .i64 ((ofE l t.taxes.l fee).1.2.1), .int .i64 ((ofE l t.taxes.l fee).1.2.2.1), .int .i64 ((ofE l t.taxes.l fee).1.2.2.2)], .int .i64 ((ofE l t.taxes.l fee).2)]), (12, 0, .agg #[.int .i64 t.num, .string t.loc, .string t.p1, .string t.p2, .string t.p3, .slice ao n cap, .int .i64 t.fare, .slice t.taxes.ao t.taxes.l.length t.taxes.cap, .int .i64 t.total, .int .i64 t.issued]), (13, 0, .int .i64 fee), (14, 0, .tuple #[.agg #[.int .i64 ((ofE l t.taxes.l fee).1.1), .int .i64 ((ofE l t.taxes.l fee).1.2.1), .int .i64 ((ofE l t.taxes.l fee).1.2.2.1), .int .i64 ((ofE l t.taxes.l fee).1.2.2.2)], .int .i64 ((ofE l t.taxes.l fee).2)]), (15, 0, .agg #[.int .i64 ((ofE l t.taxes.l fee).1.1), .int .i64 ((ofE l t.taxes.l fee).1.2.1), .int .i64 ((ofE l t.taxes.l fee).1.2.2.1), .int .i64 ((ofE l t.taxes.l fee).1.2.2.2)]), (16, 0, .int .i64 ((ofE l t.taxes.l fee).2)), (17, 0, .int .i64 ((ofE l t.taxes.l fee).2)), (18, 0, .bool (decide ((ofE l t.taxes.l fee).2 ≠ 0))), (22, 0, .agg #[.int .i64 t.num, .string t.loc, .string t.p1, .string t.p2, .string t.p3, .slice ao n cap, .int .i64 t.fare, .slice t.taxes.ao t.taxes.l.length t.taxes.cap, .int .i64 t.total, .int .i64 t.issued]), (23, 0, .slice oa ((openT l n).length) oc), (10, 0, .int .i64 ((q_.1 : Nat) : Int))]) (Hf := fun q_ => [Item.cells b1 [.int .i64 t.num, .string t.loc, .string t.p1, .string t.p2, .string t.p3, .slice q_.2.1 n q_.2.2.1, .int .i64 t.fare, .slice t.taxes.ao t.taxes.l.length t.taxes.cap, .int .i64 t.total, .int .i64 t.issued] 27, Item.cells b2 [.int .i64 0, .string (⟨#[]⟩), .string (⟨#[]⟩), .string (⟨#[]⟩), .string (⟨#[]⟩), .slice none 0 0, .int .i64 0, .slice none 0 0, .int .i64 0, .int .i64 0] 27, Item.cells b3 [.int .i64 0, .int .i64 0, .int .i64 0, .int .i64 0] 37, Item.cells b4 [.int .i64 ((ofE l t.taxes.l fee).1.1), .int .i64 ((ofE l t.taxes.l fee).1.2.1), .int .i64 ((ofE l t.taxes.l fee).1.2.2.1), .int .i64 ((ofE l t.taxes.l fee).1.2.2.2)] 37, Item.own w0.heap.size oa ((openT l n).length) oc 3 1 (cellsOf encI (openT l n)), Item.own w0.heap.size q_.2.2.2.2.1 q_.2.2.2.2.2.1 q_.2.2.2.2.2.2.1 65 11 q_.2.2.2.2.2.2.2]) (I := fun q_ => q_.1 ≤ (openT l n).length ∧ q_.2.2.2.1 = cutI l 9 ((openT l n).take q_.1) ∧ ((q_.2.2.2.2.1 = q_.2.1 ∧ q_.2.2.2.2.2.1 = n ∧ q_.2.2.2.2.2.2.1 = q_.2.2.1 ∧ q_.2.2.2.2.2.2.2 = cellsOf enc65 q_.2.2.2.1) ∨ (q_.1 = 0 ∧ q_.2.1 = ao ∧ q_.2.2.1 = cap ∧ q_.2.2.2.1 = l))) (μ := fun q_ => (openT l n).length - q_.1) (s := (k, a, c, cs, pa, pn, pc, px)) 6 ((k + 1, ma, mc, cs.set (nth (openT l n) k).toNat (setS (nth cs (nth (openT l n) k).toNat) (9 - 2)), ma, n, mc, cellsOf enc65 (cs.set (nth (openT l n) k).toNat (setS (nth cs (nth (openT l n) k).toNat) (9 - 2))))) ⟨⟨(by first | omega | (dsimp only; omega)), by rw [hcs]; subst hn; exact (cutI_step (by omega)).symm, .inl ⟨rfl, rfl, rfl, rfl⟩⟩, by first | omega | (dsimp only; omega)⟩ ⟨rfl, rfl, rfl, rfl, rfl, rfl, rfl, rfl, rfl, rfl, rfl, rfl, rfl, rfl, rfl, rfl, rfl, rfl, rfl, rfl, rfl, rfl, rfl, rfl, rfl, rfl, rfl, rfl, rfl, rfl, rfl, rfl, rfl, rfl, rfl, rfl, rfl, rfl, rfl, rfl, trivial⟩ rfl
    · try simp only [Bool.and_eq_true, Bool.or_eq_true, Bool.not_eq_true', Bool.not_eq_false', Bool.and_eq_false_iff, Bool.or_eq_false_iff, decide_eq_true_eq, decide_eq_false_iff_not, Int.not_lt, Int.not_le, ne_eq, Decidable.not_not] at h2
      refine WC.exit ?_
      refine QX.exit_then ?_
      refine QX.exit_then ?_
      refine QX.exit_hit ?_
      refine QX.then_ ?_
      refine WC.seq ?_
      refine WC.drawh ([Item.cells b1 [.int .i64 t.num, .string t.loc, .string t.p1, .string t.p2, .string t.p3, .slice a n c, .int .i64 t.fare, .slice t.taxes.ao t.taxes.l.length t.taxes.cap, .int .i64 t.total, .int .i64 t.issued] 27, Item.triv, Item.triv, Item.cells b4 [.int .i64 ((ofE l t.taxes.l fee).1.1), .int .i64 ((ofE l t.taxes.l fee).1.2.1), .int .i64 ((ofE l t.taxes.l fee).1.2.2.1), .int .i64 ((ofE l t.taxes.l fee).1.2.2.2)] 37, Item.own w0.heap.size oa ((openT l n).length) oc 3 1 (cellsOf encI (openT l n)), Item.own w0.heap.size pa pn pc 65 11 px]) 5 [false, false, false, false, false] rfl rfl rfl ?_
      refine SD.take 0 [true, false, false, false, false] rfl (by kernel_rfl) rfl (fun _ h => (HeapOk.settriv (HeapOk.settriv h (i := 1) rfl) (i := 2) rfl)) rfl rfl rfl (PureOp.loads (vs := [.int .i64 t.num, .string t.loc, .string t.p1, .string t.p2, .string t.p3, .slice a n c, .int .i64 t.fare, .slice t.taxes.ao t.taxes.l.length t.taxes.cap, .int .i64 t.total, .int .i64 t.issued]) Try.underlying27 rfl rfl (fun _ => (RowIs.cells 0 0 10 rfl rfl)) sz27) ?_
      refine SD.take 1 [true, true, false, false, false] rfl (by kernel_rfl) rfl (fun _ h => (HeapOk.settriv (HeapOk.settriv h (i := 1) rfl) (i := 2) rfl)) rfl rfl rfl (PureOp.loads (vs := [.int .i64 ((ofE l t.taxes.l fee).1.1), .int .i64 ((ofE l t.taxes.l fee).1.2.1), .int .i64 ((ofE l t.taxes.l fee).1.2.2.1), .int .i64 ((ofE l t.taxes.l fee).1.2.2.2)]) Try.underlying37 rfl rfl (fun _ => (RowIs.cells 3 0 4 rfl rfl)) sz37) ?_
      refine SD.one 2 [true, true, true, false, false] (by kernel_rfl) rfl rfl ?_
      refine SL.store 1 rfl rfl rfl rfl sz27 rfl rfl ?_
      refine SL.norm [_, _, _, _, _, _] rfl ?_
      refine SD.back (fun _ h => (HeapOk.settriv (HeapOk.settriv h (i := 1) rfl) (i := 2) rfl)) ?_
      refine SD.one 3 [true, true, true, true, false] (by kernel_rfl) rfl rfl ?_
      refine SL.store 2 rfl rfl rfl rfl sz37 rfl rfl ?_
      refine SL.norm [_, _, _, _, _, _] rfl ?_
      refine SD.back (fun _ h => (HeapOk.settriv (HeapOk.settriv h (i := 1) rfl) (i := 2) rfl)) ?_
      refine SD.take 4 [true, true, true, true, true] rfl (by kernel_rfl) rfl (fun _ h => (HeapOk.settriv (HeapOk.settriv h (i := 1) rfl) (i := 2) rfl)) rfl rfl rfl (PureOp.assign rfl) ?_
      refine SD.done (by kernel_rfl) ?_
      refine QX.ofK ?_
      refine QX.then_ ?_
      refine WC.ret ?_
      refine QX.retv rfl (RVs.cons (RV.cell rfl Try.underlying27 rfl (RowIs.cells 1 0 10 rfl rfl) sz27) (RVs.cons (RV.cell rfl Try.underlying37 rfl (RowIs.cells 2 0 4 rfl rfl) sz37) (RVs.cons (RV.tmp rfl) RVs.nil))) ?_
      intro w hw
      have q0 : (ofE l t.taxes.l fee).2 = 0 := by omega
      have q1 : lA l 9 (ofE l t.taxes.l fee).2 = cs := by rw [lA, if_pos q0]; exact (by rw [hcs, List.take_of_length_le (by omega)]; subst hn; rw [cutI_openT 9 l.length (Nat.le_refl _), cutM_all (Nat.le_refl _)])
      have q2 : n = (lA l 9 (ofE l t.taxes.l fee).2).length := by rw [lA_len, if_pos q0]; exact hn
      rcases hph with ⟨rfl, rfl, rfl, rfl⟩ | ⟨z, -, -, -⟩
      · rw [← q2, q1]
        refine ⟨_, _, ?_, hw.mem (i := 5) rfl⟩
        rw [apV, ← q2, tkA, if_pos q0, q0]; rfl
      · exfalso
        have q3 := (openT_none l).2 (by rw [← hn]; omega)
        rw [ofE_ok q0] at q3; cases q3

end Go.Proofs.Ytipmdakhmpaemaa
