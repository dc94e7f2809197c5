import Derived.Test.YtngkbnaehkailaaFlA
namespace Go.Proofs.Ytngkbnaehkailaa
open Go Go.RowKit Eng
set_option linter.unusedVariables false
set_option linter.unusedSimpArgs false

set_option maxHeartbeats 4000000 in
set_option maxRecDepth 100000 in
theorem pvalid_ok (n : Int) (l : List Ed) (ea : Option Addr) (m ec : Nat) (hm : m = l.length) (s t : Int) (f : List Int) (fa : Option Addr) (q fc : Nat) (hq : q = f.length) (w0 : World) (sE : SliceIn w0 4 ea m ec (rowsF encEd l)) (sF : SliceIn w0 1 fa q fc (rowsF encI f)) : FnC Try.prog 15 [.int .i64 n, .slice ea m ec, .int .i64 s, .int .i64 t, .slice fa q fc] w0 fun v w' => v = .tuple #[.int .i64 (validR n l s t f).1, .int .i64 (validR n l s t f).2.1, .int .i64 (validR n l s t f).2.2] := by
  refine fnc (N := 103) Try.func15 rfl rfl rfl ?_
  refine WC.seq ?_
  refine WC.region ?_
  refine SL.pure rfl rfl rfl (PureOp.assign rfl) ?_
  refine SL.pure rfl rfl rfl (PureOp.assign rfl) ?_
  refine SL.pure rfl rfl rfl (PureOp.assign rfl) ?_
  refine SL.nil_then ?_
  refine WC.seq ?_
  refine WC.seq ?_
  refine WC.region ?_
  refine SL.pure rfl rfl rfl (PureOp.move rfl) ?_
  refine SL.pure rfl rfl rfl (PureOp.move rfl) ?_
  refine SL.pure rfl rfl rfl (PureOp.move rfl) ?_
  refine SL.pure rfl rfl rfl (PureOp.move rfl) ?_
  refine SL.calle rfl rfl rfl rfl rfl rfl callable12 (fun w hw => pcheck_ok n l ea m ec hm s t w (sE.below hw.below)) ?_
  refine SL.norm [] rfl ?_
  refine SL.pure rfl rfl rfl (PureOp.assign rfl) ?_
  refine SL.nil_then ?_
  refine WC.seq ?_
  refine WC.region ?_
  refine SL.pure rfl rfl rfl (PureOp.move rfl) ?_
  refine SL.pure rfl rfl rfl (PureOp.neq rfl rfl) ?_
  refine SL.nil_then ?_
  refine WC.cond rfl (fun h1 => ?_) (fun h1 => ?_)
  · try simp only [Bool.and_eq_true, Bool.or_eq_true, Bool.not_eq_true', Bool.not_eq_false', Bool.and_eq_false_iff, Bool.or_eq_false_iff, decide_eq_true_eq, decide_eq_false_iff_not, Int.not_lt, Int.not_le, ne_eq, Decidable.not_not] at h1
    refine WC.seq ?_
    refine WC.region ?_
    refine SL.pure rfl rfl rfl (PureOp.move rfl) ?_
    refine SL.pure rfl rfl rfl (PureOp.assign rfl) ?_
    refine SL.pure rfl rfl rfl (PureOp.assign rfl) ?_
    refine SL.pure rfl rfl rfl (PureOp.assign rfl) ?_
    refine SL.nil_then ?_
    refine WC.ret ?_
    refine QX.ret_then ?_
    refine QX.ret3 rfl rfl rfl rfl ?_
    intro w hw
    rw [validR, if_pos h1]
  · try simp only [Bool.and_eq_true, Bool.or_eq_true, Bool.not_eq_true', Bool.not_eq_false', Bool.and_eq_false_iff, Bool.or_eq_false_iff, decide_eq_true_eq, decide_eq_false_iff_not, Int.not_lt, Int.not_le, ne_eq, Decidable.not_not] at h1
    obtain ⟨hc, hE⟩ := check_ok (n := n) (l := l) (s := s) (t := t) (by assumption)
    obtain ⟨nu, rfl⟩ : ∃ k : Nat, n = (k : Int) := ⟨n.toNat, by omega⟩
    refine WC.skip ?_
    refine QX.then_ ?_
    refine WC.seq ?_
    refine WC.seq ?_
    refine WC.region ?_
    refine SL.pure rfl rfl rfl (PureOp.move rfl) ?_
    refine SL.pure rfl rfl rfl (PureOp.len rfl Try.underlying29) ?_
    refine SL.pure rfl rfl rfl (PureOp.move rfl) ?_
    refine SL.pure rfl rfl rfl (PureOp.len rfl Try.underlying22) ?_
    refine SL.pure rfl rfl rfl (PureOp.neq rfl rfl) ?_
    refine SL.nil_then ?_
    refine WC.cond rfl (fun h2 => ?_) (fun h2 => ?_)
    · try simp only [Bool.and_eq_true, Bool.or_eq_true, Bool.not_eq_true', Bool.not_eq_false', Bool.and_eq_false_iff, Bool.or_eq_false_iff, decide_eq_true_eq, decide_eq_false_iff_not, Int.not_lt, Int.not_le, ne_eq, Decidable.not_not] at h2
      refine WC.seq ?_
      refine WC.region ?_
      refine SL.pure rfl rfl rfl (PureOp.assign rfl) ?_
      refine SL.pure rfl rfl rfl (PureOp.assign rfl) ?_
      refine SL.pure rfl rfl rfl (PureOp.assign rfl) ?_
      refine SL.nil_then ?_
      refine WC.ret ?_
      refine QX.ret_then ?_
      refine QX.ret3 rfl rfl rfl rfl ?_
      intro w hw
      rw [validR, if_neg (by simp [h1]), if_pos (by omega)]
    · try simp only [Bool.and_eq_true, Bool.or_eq_true, Bool.not_eq_true', Bool.not_eq_false', Bool.and_eq_false_iff, Bool.or_eq_false_iff, decide_eq_true_eq, decide_eq_false_iff_not, Int.not_lt, Int.not_le, ne_eq, Decidable.not_not] at h2
      refine WC.skip ?_
      refine QX.then_ ?_
      refine WC.seq ?_
      refine WC.seq ?_
      refine WC.region ?_
      refine SL.pure rfl rfl rfl (PureOp.move rfl) ?_
      refine SL.pure rfl rfl rfl (PureOp.move rfl) ?_
      refine SL.calle rfl rfl rfl rfl rfl rfl callable40 (fun w hw => pwithin_ok l ea m ec hm (by omega) f fa q fc hq w (sE.below hw.below) (sF.below hw.below)) ?_
      refine SL.norm [] rfl ?_
      refine SL.pure rfl rfl rfl (PureOp.not rfl) ?_
      refine SL.nil_then ?_
      refine WC.cond rfl (fun h3 => ?_) (fun h3 => ?_)
      · try simp only [Bool.and_eq_true, Bool.or_eq_true, Bool.not_eq_true', Bool.not_eq_false', Bool.and_eq_false_iff, Bool.or_eq_false_iff, decide_eq_true_eq, decide_eq_false_iff_not, Int.not_lt, Int.not_le, ne_eq, Decidable.not_not] at h3
        refine WC.seq ?_
        refine WC.region ?_
        refine SL.pure rfl rfl rfl (PureOp.assign rfl) ?_
        refine SL.pure rfl rfl rfl (PureOp.assign rfl) ?_
        refine SL.pure rfl rfl rfl (PureOp.assign rfl) ?_
        refine SL.nil_then ?_
        refine WC.ret ?_
        refine QX.ret_then ?_
        refine QX.ret3 rfl rfl rfl rfl ?_
        intro w hw
        rw [validR, if_neg (by simp [h1]), if_neg (by omega), if_pos h3]
      · try simp only [Bool.and_eq_true, Bool.or_eq_true, Bool.not_eq_true', Bool.not_eq_false', Bool.and_eq_false_iff, Bool.or_eq_false_iff, decide_eq_true_eq, decide_eq_false_iff_not, Int.not_lt, Int.not_le, ne_eq, Decidable.not_not] at h3
        have hW := (within_ok (by assumption : withinB l f = true)).2
        refine WC.skip ?_
        refine QX.then_ ?_
        refine WC.seq ?_
        refine WC.region ?_
        refine SL.pure rfl rfl rfl (PureOp.move rfl) ?_
        refine SL.make rfl rfl Try.underlying29 elem3 rfl rfl (by omega) (by omega) (fun b1 hb1 => ?_)
        refine SL.itemxs 0 rfl (show _ = cellsOf encI (outK nu l f 0) from by rw [rep_int]; rfl) ?_
        refine SL.norm [_] rfl ?_
        refine SL.pure rfl rfl rfl (PureOp.assign rfl) ?_
        refine SL.nil_then ?_
        refine WC.seq ?_
        refine WC.region ?_
        refine SL.pure rfl rfl rfl (PureOp.assign rfl) ?_
        refine SL.nil_then ?_
        refine WC.seq ?_
        refine WC.seq ?_
        refine WC.region ?_
        refine SL.pure rfl rfl rfl (PureOp.move rfl) ?_
        refine SL.pure rfl rfl rfl (PureOp.len rfl Try.underlying22) ?_
        refine SL.pure rfl rfl rfl (PureOp.move rfl) ?_
        refine SL.nil_then ?_
        refine WC.block ?_
        refine WC.loop (σ := Nat) (fun q_ => [(0, 0, .int .i64 ((nu : Nat) : Int)), (1, 0, .slice ea m ec), (2, 0, .int .i64 s), (3, 0, .int .i64 t), (4, 0, .slice fa q fc), (10, 0, .int .i64 0), (11, 0, .int .i64 0), (12, 0, .int .i64 0), (13, 0, .int .i64 (checkE (nu : Int) l s t)), (14, 0, .slice (some ⟨b1, 0, none⟩) nu nu), (20, 0, .int .i64 ((nu : Nat) : Int)), (21, 0, .slice ea m ec), (22, 0, .int .i64 s), (23, 0, .int .i64 t), (24, 0, .int .i64 (checkE (nu : Int) l s t)), (25, 0, .int .i64 (checkE (nu : Int) l s t)), (26, 0, .bool (decide (checkE (nu : Int) l s t ≠ 0))), (28, 0, .slice fa q fc), (29, 0, .int .i64 ((q : Nat) : Int)), (30, 0, .slice ea m ec), (31, 0, .int .i64 ((m : Nat) : Int)), (32, 0, .bool (decide (((q : Nat) : Int) ≠ ((m : Nat) : Int)))), (33, 0, .slice ea m ec), (34, 0, .slice fa q fc), (35, 0, .bool (withinB l f)), (36, 0, .bool (!(withinB l f))), (37, 0, .int .i64 ((nu : Nat) : Int)), (38, 0, .slice (some ⟨b1, 0, none⟩) nu nu), (39, 0, .slice ea m ec), (40, 0, .int .i64 ((m : Nat) : Int)), (41, 0, .int .i64 ((q_ : Nat) : Int)), (15, 0, .int .i64 (costK l f q_))]) (fun q_ => [Item.own w0.heap.size (some ⟨b1, 0, none⟩) nu nu 3 1 (cellsOf encI (outK nu l f q_))]) (fun q_ => q_ ≤ m) (fun q_ => m - q_) 1 (0) (Nat.zero_le _) ⟨rfl, rfl, rfl, rfl, rfl, rfl, rfl, rfl, rfl, rfl, rfl, rfl, rfl, rfl, rfl, rfl, rfl, rfl, rfl, rfl, rfl, rfl, rfl, rfl, rfl, rfl, rfl, rfl, rfl, rfl, rfl, rfl, rfl, rfl, rfl, rfl, rfl, rfl, rfl, rfl, rfl, rfl, rfl, rfl, rfl, rfl, rfl, rfl, rfl, rfl, rfl, rfl, rfl, rfl, rfl, rfl, rfl, rfl, rfl, rfl, rfl, rfl, rfl, rfl, trivial⟩ rfl ?_
        rintro k hk
        refine WC.seq ?_
        refine WC.region ?_
        refine SL.pure rfl rfl rfl (PureOp.lss rfl rfl) ?_
        refine SL.nil_then ?_
        refine WC.seq ?_
        refine WC.cond rfl (fun h4 => ?_) (fun h4 => ?_)
        · try simp only [Bool.and_eq_true, Bool.or_eq_true, Bool.not_eq_true', Bool.not_eq_false', Bool.and_eq_false_iff, Bool.or_eq_false_iff, decide_eq_true_eq, decide_eq_false_iff_not, Int.not_lt, Int.not_le, ne_eq, Decidable.not_not] at h4
          have hBo := fun j hj => outK_bd (n := nu) hE hW k (by omega) j hj
          have hBc := costK_bd hE hW k (by omega)
          have hEk := hE k (by omega)
          have hWk := hW k (by omega)
          have hB1 := hBo (nth l k).1.toNat (by omega)
          have hB2 := addAt_bd (i := (nth l k).1) (x := nth f k) (b := 65536) (outK_len k) hBo (by omega) (nth l k).2.1.toNat (by omega)
          have hMl := mul_bd (A := 65536) (B := 4294967296) hWk.1 (by omega) hEk.2.2.2.2.2.2.1 hEk.2.2.2.2.2.2.2
          refine WC.skip ?_
          refine QX.then_ ?_
          refine WC.seq ?_
          refine WC.block ?_
          refine WC.seq ?_
          refine WC.region ?_
          refine SL.pure rfl rfl rfl (PureOp.move rfl) ?_
          refine SL.pure rfl rfl rfl (PureOp.indexAddrN Try.underlying22 sz61 rfl rfl (AoOk.in_ sE) (fun _ => by omega)) ?_
          refine SL.pure rfl rfl rfl (PureOp.loads (vs := [.int .i64 ((nth l k).1), .int .i64 ((nth l k).2.1), .int .i64 ((nth l k).2.2.1), .int .i64 ((nth l k).2.2.2)]) Try.underlying61 rfl rfl (fun _ => (RowIs.in_ sE k 0 4 (by omega) (by omega))) sz61) ?_
          refine SL.alloc rfl rfl zero61 (fun b2 hb2 => ?_)
          refine SL.norm [_, _] rfl ?_
          refine SL.pure rfl rfl rfl (PureOp.assign rfl) ?_
          refine SL.store 1 rfl rfl rfl rfl sz61 rfl rfl ?_
          refine SL.norm [_, _] rfl ?_
          refine SL.nil_then ?_
          refine WC.seq ?_
          refine WC.drawh ([Item.triv, Item.cells b2 [.int .i64 ((nth l k).1), .int .i64 ((nth l k).2.1), .int .i64 ((nth l k).2.2.1), .int .i64 ((nth l k).2.2.2)] 61]) 12 [false, false, false, false, false, false, false, false, false, false, false, false] rfl rfl rfl ?_
          refine SD.take 0 [true, false, false, false, false, false, false, false, false, false, false, false] rfl (by kernel_rfl) rfl (fun _ h => (HeapOk.settriv h (i := 0) rfl)) rfl rfl rfl (PureOp.move rfl) ?_
          refine SD.take 1 [true, true, false, false, false, false, false, false, false, false, false, false] rfl (by kernel_rfl) rfl (fun _ h => (HeapOk.settriv h (i := 0) rfl)) rfl rfl rfl (PureOp.fieldAddrT 0 Try.underlying61 rfl sz3 rfl rfl) ?_
          refine SD.take 2 [true, true, true, false, false, false, false, false, false, false, false, false] rfl (by kernel_rfl) rfl (fun _ h => (HeapOk.settriv h (i := 0) rfl)) rfl rfl rfl (PureOp.load (v := .int .i64 ((nth l k).1)) Try.underlying3 rfl rfl (fun _ => (CellIs.cells 1 rfl rfl))) ?_
          refine SD.take 3 [true, true, true, true, false, false, false, false, false, false, false, false] rfl (by kernel_rfl) rfl (fun _ h => (HeapOk.settriv h (i := 0) rfl)) rfl rfl rfl (PureOp.indexAddr Try.underlying29 sz3 rfl rfl AoOk.lit (fun _ => by omega)) ?_
          refine SD.take 5 [true, true, true, true, false, true, false, false, false, false, false, false] rfl (by kernel_rfl) rfl (fun _ h => (HeapOk.settriv h (i := 0) rfl)) rfl rfl rfl (PureOp.move rfl) ?_
          refine SD.take 6 [true, true, true, true, false, true, true, false, false, false, false, false] rfl (by kernel_rfl) rfl (fun _ h => (HeapOk.settriv h (i := 0) rfl)) rfl rfl rfl (PureOp.move rfl) ?_
          refine SD.take 7 [true, true, true, true, false, true, true, true, false, false, false, false] rfl (by kernel_rfl) rfl (fun _ h => (HeapOk.settriv h (i := 0) rfl)) rfl rfl rfl (PureOp.indexAddrN Try.underlying29 sz3 rfl rfl (AoOk.in_ sF) (fun _ => by omega)) ?_
          refine SD.take 8 [true, true, true, true, false, true, true, true, true, false, false, false] rfl (by kernel_rfl) rfl (fun _ h => (HeapOk.settriv h (i := 0) rfl)) rfl rfl rfl (PureOp.load (v := .int .i64 (nth f k)) Try.underlying3 rfl rfl (fun _ => (CellIs.in_ sF k 0 (by omega) (by omega)))) ?_
          refine SD.one 4 [true, true, true, true, true, true, true, true, true, false, false, false] (by kernel_rfl) rfl rfl ?_
          refine SL.pure rfl rfl rfl (PureOp.load (v := .int .i64 (nth (outK nu l f k) (nth l k).1.toNat)) Try.underlying3 rfl rfl (fun _ => (CellIs.ownc 0 rfl (((nth l k).1).toNat) 0 (by first | exact encI_get (by rw [outK_len]; omega) | exact encI_get (by rw [addAt_len, outK_len]; omega))))) ?_
          refine SD.back (fun _ h => (HeapOk.settriv h (i := 0) rfl)) ?_
          refine SD.take 9 [true, true, true, true, true, true, true, true, true, true, false, false] rfl (by kernel_rfl) rfl (fun _ h => (HeapOk.settriv h (i := 0) rfl)) rfl rfl rfl (PureOp.add rfl rfl (fun _ => by omega)) ?_
          refine SD.take 10 [true, true, true, true, true, true, true, true, true, true, true, false] rfl (by kernel_rfl) rfl (fun _ h => (HeapOk.settriv h (i := 0) rfl)) rfl rfl rfl (PureOp.indexAddr Try.underlying29 sz3 rfl rfl AoOk.lit (fun _ => by omega)) ?_
          refine SD.one 11 [true, true, true, true, true, true, true, true, true, true, true, true] (by kernel_rfl) rfl rfl ?_
          refine SL.storeown (k := (((nth l k).1).toNat)) (j := 0) 0 rfl rfl rfl rfl sz3 (by first | (rw [cellsOf_length encI_len, outK_len]; omega) | (rw [cellsOf_length encI_len, addAt_len, outK_len]; omega)) rfl ?_
          refine SL.itemxs 0 rfl (show _ = cellsOf encI (addAt (outK nu l f k) (nth l k).1 (nth f k)) from encI_set (by rw [outK_len]; omega)) ?_
          refine SL.norm [_, _] rfl ?_
          refine SD.back (fun _ h => (HeapOk.settriv h (i := 0) rfl)) ?_
          refine SD.done (by kernel_rfl) ?_
          refine QX.ofK ?_
          refine QX.then_ ?_
          refine WC.seq ?_
          refine WC.drawh ([Item.triv, Item.cells b2 [.int .i64 ((nth l k).1), .int .i64 ((nth l k).2.1), .int .i64 ((nth l k).2.2.1), .int .i64 ((nth l k).2.2.2)] 61]) 12 [false, false, false, false, false, false, false, false, false, false, false, false] rfl rfl rfl ?_
          refine SD.take 0 [true, false, false, false, false, false, false, false, false, false, false, false] rfl (by kernel_rfl) rfl (fun _ h => (HeapOk.settriv h (i := 0) rfl)) rfl rfl rfl (PureOp.move rfl) ?_
          refine SD.take 1 [true, true, false, false, false, false, false, false, false, false, false, false] rfl (by kernel_rfl) rfl (fun _ h => (HeapOk.settriv h (i := 0) rfl)) rfl rfl rfl (PureOp.fieldAddrT 1 Try.underlying61 rfl sz3 rfl rfl) ?_
          refine SD.take 2 [true, true, true, false, false, false, false, false, false, false, false, false] rfl (by kernel_rfl) rfl (fun _ h => (HeapOk.settriv h (i := 0) rfl)) rfl rfl rfl (PureOp.load (v := .int .i64 ((nth l k).2.1)) Try.underlying3 rfl rfl (fun _ => (CellIs.cells 1 rfl rfl))) ?_
          refine SD.take 3 [true, true, true, true, false, false, false, false, false, false, false, false] rfl (by kernel_rfl) rfl (fun _ h => (HeapOk.settriv h (i := 0) rfl)) rfl rfl rfl (PureOp.indexAddr Try.underlying29 sz3 rfl rfl AoOk.lit (fun _ => by omega)) ?_
          refine SD.take 5 [true, true, true, true, false, true, false, false, false, false, false, false] rfl (by kernel_rfl) rfl (fun _ h => (HeapOk.settriv h (i := 0) rfl)) rfl rfl rfl (PureOp.move rfl) ?_
          refine SD.take 6 [true, true, true, true, false, true, true, false, false, false, false, false] rfl (by kernel_rfl) rfl (fun _ h => (HeapOk.settriv h (i := 0) rfl)) rfl rfl rfl (PureOp.move rfl) ?_
          refine SD.take 7 [true, true, true, true, false, true, true, true, false, false, false, false] rfl (by kernel_rfl) rfl (fun _ h => (HeapOk.settriv h (i := 0) rfl)) rfl rfl rfl (PureOp.indexAddrN Try.underlying29 sz3 rfl rfl (AoOk.in_ sF) (fun _ => by omega)) ?_
          refine SD.take 8 [true, true, true, true, false, true, true, true, true, false, false, false] rfl (by kernel_rfl) rfl (fun _ h => (HeapOk.settriv h (i := 0) rfl)) rfl rfl rfl (PureOp.load (v := .int .i64 (nth f k)) Try.underlying3 rfl rfl (fun _ => (CellIs.in_ sF k 0 (by omega) (by omega)))) ?_
          refine SD.one 4 [true, true, true, true, true, true, true, true, true, false, false, false] (by kernel_rfl) rfl rfl ?_
          refine SL.pure rfl rfl rfl (PureOp.load (v := .int .i64 (nth (addAt (outK nu l f k) (nth l k).1 (nth f k)) (nth l k).2.1.toNat)) Try.underlying3 rfl rfl (fun _ => (CellIs.ownc 0 rfl (((nth l k).2.1).toNat) 0 (by first | exact encI_get (by rw [outK_len]; omega) | exact encI_get (by rw [addAt_len, outK_len]; omega))))) ?_
          refine SD.back (fun _ h => (HeapOk.settriv h (i := 0) rfl)) ?_
          refine SD.take 9 [true, true, true, true, true, true, true, true, true, true, false, false] rfl (by kernel_rfl) rfl (fun _ h => (HeapOk.settriv h (i := 0) rfl)) rfl rfl rfl (PureOp.sub rfl rfl (fun _ => by omega)) ?_
          refine SD.take 10 [true, true, true, true, true, true, true, true, true, true, true, false] rfl (by kernel_rfl) rfl (fun _ h => (HeapOk.settriv h (i := 0) rfl)) rfl rfl rfl (PureOp.indexAddr Try.underlying29 sz3 rfl rfl AoOk.lit (fun _ => by omega)) ?_
          refine SD.one 11 [true, true, true, true, true, true, true, true, true, true, true, true] (by kernel_rfl) rfl rfl ?_
          refine SL.storeown (k := (((nth l k).2.1).toNat)) (j := 0) 0 rfl rfl rfl rfl sz3 (by first | (rw [cellsOf_length encI_len, outK_len]; omega) | (rw [cellsOf_length encI_len, addAt_len, outK_len]; omega)) rfl ?_
          refine SL.itemxs 0 rfl (show _ = cellsOf encI (outK nu l f (k + 1)) from by first | exact encI_set (by rw [addAt_len, outK_len]; omega) | (rw [Int.sub_eq_add_neg]; exact encI_set (by rw [addAt_len, outK_len]; omega))) ?_
          refine SL.norm [_, _] rfl ?_
          refine SD.back (fun _ h => (HeapOk.settriv h (i := 0) rfl)) ?_
          refine SD.done (by kernel_rfl) ?_
          refine QX.ofK ?_
          refine QX.then_ ?_
          refine WC.quiet rfl (by kernel_rfl) ?_
          refine SQ.pure rfl rfl rfl (PureOp.move rfl) ?_
          refine SQ.pure rfl rfl rfl (PureOp.move rfl) ?_
          refine SQ.pure rfl rfl rfl (PureOp.move rfl) ?_
          refine SQ.pure rfl rfl rfl (PureOp.indexAddrN Try.underlying29 sz3 rfl rfl (AoOk.in_ sF) (fun _ => by omega)) ?_
          refine SQ.pure rfl rfl rfl (PureOp.load (v := .int .i64 (nth f k)) Try.underlying3 rfl rfl (fun _ => (CellIs.in_ sF k 0 (by omega) (by omega)))) ?_
          refine SQ.pure rfl rfl rfl (PureOp.fieldAddrT 3 Try.underlying61 rfl sz3 rfl rfl) ?_
          refine SQ.pure rfl rfl rfl (PureOp.load (v := .int .i64 ((nth l k).2.2.2)) Try.underlying3 rfl rfl (fun _ => (CellIs.cells 1 rfl rfl))) ?_
          refine SQ.pure rfl rfl rfl (PureOp.mul rfl rfl (fun _ => by omega)) ?_
          refine SQ.pure rfl rfl rfl (PureOp.add rfl rfl (fun _ => by omega)) ?_
          refine SQ.pure rfl rfl rfl (PureOp.assign rfl) ?_
          refine SQ.nil ?_
          refine QX.normal_in ?_
          refine QX.then_ ?_
          refine WC.region ?_
          refine SL.pure rfl rfl rfl (PureOp.addN (k := 1) rfl rfl (fun _ => by omega)) ?_
          refine SL.pure rfl rfl rfl (PureOp.move rfl) ?_
          refine SL.nil ?_
          refine QX.round 1 (k + 1) ⟨(by first | omega | (dsimp only; omega)), by first | omega | (dsimp only; omega)⟩ ⟨rfl, rfl, rfl, rfl, rfl, rfl, rfl, rfl, rfl, rfl, rfl, rfl, rfl, rfl, rfl, rfl, rfl, rfl, rfl, rfl, rfl, rfl, rfl, rfl, rfl, rfl, rfl, rfl, rfl, rfl, rfl, rfl, rfl, rfl, rfl, rfl, rfl, rfl, rfl, rfl, rfl, rfl, rfl, rfl, rfl, rfl, rfl, rfl, rfl, rfl, rfl, rfl, rfl, rfl, rfl, rfl, rfl, rfl, rfl, rfl, rfl, rfl, rfl, rfl, trivial⟩ rfl
        · try simp only [Bool.and_eq_true, Bool.or_eq_true, Bool.not_eq_true', Bool.not_eq_false', Bool.and_eq_false_iff, Bool.or_eq_false_iff, decide_eq_true_eq, decide_eq_false_iff_not, Int.not_lt, Int.not_le, ne_eq, Decidable.not_not] at h4
          have ek : k = l.length := by omega
          subst ek
          refine WC.exit ?_
          refine QX.exit_then ?_
          refine QX.exit_then ?_
          refine QX.exit_hit ?_
          refine QX.then_ ?_
          refine WC.seq ?_
          refine WC.seq ?_
          refine WC.region ?_
          refine SL.pure rfl rfl rfl (PureOp.move rfl) ?_
          refine SL.pure rfl rfl rfl (PureOp.len rfl Try.underlying29) ?_
          refine SL.pure rfl rfl rfl (PureOp.move rfl) ?_
          refine SL.nil_then ?_
          refine WC.block ?_
          refine WC.loop (σ := Nat) (fun q_ => [(0, 0, .int .i64 ((nu : Nat) : Int)), (1, 0, .slice ea m ec), (2, 0, .int .i64 s), (3, 0, .int .i64 t), (4, 0, .slice fa q fc), (13, 0, .int .i64 (checkE (nu : Int) l s t)), (14, 0, .slice (some ⟨b1, 0, none⟩) nu nu), (15, 0, .int .i64 (costK l f l.length)), (20, 0, .int .i64 ((nu : Nat) : Int)), (21, 0, .slice ea m ec), (22, 0, .int .i64 s), (23, 0, .int .i64 t), (24, 0, .int .i64 (checkE (nu : Int) l s t)), (25, 0, .int .i64 (checkE (nu : Int) l s t)), (26, 0, .bool (decide (checkE (nu : Int) l s t ≠ 0))), (28, 0, .slice fa q fc), (29, 0, .int .i64 ((q : Nat) : Int)), (30, 0, .slice ea m ec), (31, 0, .int .i64 ((m : Nat) : Int)), (32, 0, .bool (decide (((q : Nat) : Int) ≠ ((m : Nat) : Int)))), (33, 0, .slice ea m ec), (34, 0, .slice fa q fc), (35, 0, .bool (withinB l f)), (36, 0, .bool (!(withinB l f))), (37, 0, .int .i64 ((nu : Nat) : Int)), (38, 0, .slice (some ⟨b1, 0, none⟩) nu nu), (39, 0, .slice ea m ec), (40, 0, .int .i64 ((m : Nat) : Int)), (41, 0, .int .i64 ((l.length : Nat) : Int)), (42, 0, .bool (decide (((l.length : Nat) : Int) < ((m : Nat) : Int)))), (78, 0, .slice (some ⟨b1, 0, none⟩) nu nu), (79, 0, .int .i64 ((nu : Nat) : Int)), (80, 0, .int .i64 ((q_ : Nat) : Int))]) (fun q_ => [Item.own w0.heap.size (some ⟨b1, 0, none⟩) nu nu 3 1 (cellsOf encI (outK nu l f l.length))]) (fun q_ => q_ ≤ nu ∧ allK (nodeB (outK nu l f l.length) s t) q_ = true) (fun q_ => nu - q_) 1 (0) (⟨Nat.zero_le _, rfl⟩) ⟨rfl, rfl, rfl, rfl, rfl, rfl, rfl, rfl, rfl, rfl, rfl, rfl, rfl, rfl, rfl, rfl, rfl, rfl, rfl, rfl, rfl, rfl, rfl, rfl, rfl, rfl, rfl, rfl, rfl, rfl, rfl, rfl, rfl, rfl, rfl, rfl, rfl, rfl, rfl, rfl, rfl, rfl, rfl, rfl, rfl, rfl, rfl, rfl, rfl, rfl, rfl, rfl, rfl, rfl, rfl, rfl, rfl, rfl, rfl, rfl, rfl, rfl, rfl, rfl, rfl, rfl, trivial⟩ rfl ?_
          rintro j ⟨hj, hz2⟩
          refine WC.seq ?_
          refine WC.region ?_
          refine SL.pure rfl rfl rfl (PureOp.lss rfl rfl) ?_
          refine SL.nil_then ?_
          refine WC.seq ?_
          refine WC.cond rfl (fun h5 => ?_) (fun h5 => ?_)
          · try simp only [Bool.and_eq_true, Bool.or_eq_true, Bool.not_eq_true', Bool.not_eq_false', Bool.and_eq_false_iff, Bool.or_eq_false_iff, decide_eq_true_eq, decide_eq_false_iff_not, Int.not_lt, Int.not_le, ne_eq, Decidable.not_not] at h5
            refine WC.skip ?_
            refine QX.then_ ?_
            refine WC.seq ?_
            refine WC.block ?_
            refine WC.seq ?_
            refine WC.region ?_
            refine SL.pure rfl rfl rfl (PureOp.move rfl) ?_
            refine SL.pure rfl rfl rfl (PureOp.indexAddrN Try.underlying29 sz3 rfl rfl AoOk.lit (fun _ => by omega)) ?_
            refine SL.pure rfl rfl rfl (PureOp.load (v := .int .i64 (nth (outK nu l f l.length) j)) Try.underlying3 rfl rfl (fun _ => (CellIs.ownc 0 rfl j 0 (by first | exact encI_get (by rw [outK_len]; omega) | exact encI_get (by rw [addAt_len, outK_len]; omega))))) ?_
            refine SL.pure rfl rfl rfl (PureOp.assign rfl) ?_
            refine SL.pure rfl rfl rfl (PureOp.assign rfl) ?_
            refine SL.nil_then ?_
            refine WC.seq ?_
            refine WC.region ?_
            refine SL.pure rfl rfl rfl (PureOp.move rfl) ?_
            refine SL.pure rfl rfl rfl (PureOp.neq rfl rfl) ?_
            refine SL.pure rfl rfl rfl (PureOp.move rfl) ?_
            refine SL.newg 87 true rfl ?_
            refine SL.gpure (c := 1) rfl rfl rfl rfl rfl rfl rfl (PureOp.move rfl) ?_
            refine SL.gpure (c := 1) rfl rfl rfl rfl rfl rfl rfl (PureOp.move rfl) ?_
            refine SL.gpure (c := 1) rfl rfl rfl rfl rfl rfl rfl (PureOp.neq rfl rfl) ?_
            refine SL.pure rfl rfl rfl (PureOp.and_ rfl rfl rfl rfl) ?_
            refine SL.pure rfl rfl rfl (PureOp.move rfl) ?_
            refine SL.newg 92 true rfl ?_
            refine SL.gpure (c := 2) rfl rfl rfl rfl rfl rfl rfl (PureOp.move rfl) ?_
            refine SL.gpure (c := 2) rfl rfl rfl rfl rfl rfl rfl (PureOp.move rfl) ?_
            refine SL.gpure (c := 2) rfl rfl rfl rfl rfl rfl rfl (PureOp.neq rfl rfl) ?_
            refine SL.pure rfl rfl rfl (PureOp.and_ rfl rfl rfl rfl) ?_
            refine SL.nil_then ?_
            refine WC.cond rfl (fun h6 => ?_) (fun h6 => ?_)
            · try simp only [Bool.and_eq_true, Bool.or_eq_true, Bool.not_eq_true', Bool.not_eq_false', Bool.and_eq_false_iff, Bool.or_eq_false_iff, decide_eq_true_eq, decide_eq_false_iff_not, Int.not_lt, Int.not_le, ne_eq, Decidable.not_not] at h6
              refine WC.seq ?_
              refine WC.region ?_
              refine SL.pure rfl rfl rfl (PureOp.assign rfl) ?_
              refine SL.pure rfl rfl rfl (PureOp.assign rfl) ?_
              refine SL.pure rfl rfl rfl (PureOp.assign rfl) ?_
              refine SL.nil_then ?_
              refine WC.ret ?_
              refine QX.ret_in ?_
              refine QX.ret_then ?_
              refine QX.ret_then ?_
              refine QX.ret_in ?_
              refine QX.ret_then ?_
              refine QX.ret3 rfl rfl rfl rfl ?_
              intro w hw
              have hj2 : j < nu := by omega
              rw [validR, show (nu : Int).toNat = nu from rfl, if_neg (by simp [h1]), if_neg (by omega), if_neg (by simp [h3]), if_pos (allK_not (k := j) hj2 (by rw [nodeB, Bool.or_eq_false_iff, Bool.or_eq_false_iff, decide_eq_false_iff_not, decide_eq_false_iff_not, decide_eq_false_iff_not]; omega))]
            · try simp only [Bool.and_eq_true, Bool.or_eq_true, Bool.not_eq_true', Bool.not_eq_false', Bool.and_eq_false_iff, Bool.or_eq_false_iff, decide_eq_true_eq, decide_eq_false_iff_not, Int.not_lt, Int.not_le, ne_eq, Decidable.not_not] at h6
              refine WC.skip ?_
              refine QX.normal_in ?_
              refine QX.then_ ?_
              refine WC.region ?_
              refine SL.pure rfl rfl rfl (PureOp.addN (k := 1) rfl rfl (fun _ => by omega)) ?_
              refine SL.pure rfl rfl rfl (PureOp.move rfl) ?_
              refine SL.nil ?_
              refine QX.round 1 (j + 1) ⟨⟨(by first | omega | (dsimp only; omega)), allK_next hz2 (by rw [nodeB, Bool.or_eq_true, Bool.or_eq_true, decide_eq_true_iff, decide_eq_true_iff, decide_eq_true_iff]; omega)⟩, by first | omega | (dsimp only; omega)⟩ ⟨rfl, rfl, rfl, rfl, rfl, rfl, rfl, rfl, rfl, rfl, rfl, rfl, rfl, rfl, rfl, rfl, rfl, rfl, rfl, rfl, rfl, rfl, rfl, rfl, rfl, rfl, rfl, rfl, rfl, rfl, rfl, rfl, rfl, rfl, rfl, rfl, rfl, rfl, rfl, rfl, rfl, rfl, rfl, rfl, rfl, rfl, rfl, rfl, rfl, rfl, rfl, rfl, rfl, rfl, rfl, rfl, rfl, rfl, rfl, rfl, rfl, rfl, rfl, rfl, rfl, rfl, trivial⟩ rfl
          · try simp only [Bool.and_eq_true, Bool.or_eq_true, Bool.not_eq_true', Bool.not_eq_false', Bool.and_eq_false_iff, Bool.or_eq_false_iff, decide_eq_true_eq, decide_eq_false_iff_not, Int.not_lt, Int.not_le, ne_eq, Decidable.not_not] at h5
            refine WC.exit ?_
            refine QX.exit_then ?_
            refine QX.exit_then ?_
            refine QX.exit_hit ?_
            refine QX.then_ ?_
            refine WC.seq ?_
            refine WC.region ?_
            refine SL.pure rfl rfl rfl (PureOp.move rfl) ?_
            refine SL.pure rfl rfl rfl (PureOp.move rfl) ?_
            refine SL.pure rfl rfl rfl (PureOp.indexAddr Try.underlying29 sz3 rfl rfl AoOk.lit (fun _ => by omega)) ?_
            refine SL.pure rfl rfl rfl (PureOp.load (v := .int .i64 (nth (outK nu l f l.length) ((s).toNat))) Try.underlying3 rfl rfl (fun _ => (CellIs.ownc 0 rfl ((s).toNat) 0 (by first | exact encI_get (by rw [outK_len]; omega) | exact encI_get (by rw [addAt_len, outK_len]; omega))))) ?_
            refine SL.pure rfl rfl rfl (PureOp.move rfl) ?_
            refine SL.pure rfl rfl rfl (PureOp.assign rfl) ?_
            refine SL.pure rfl rfl rfl (PureOp.assign rfl) ?_
            refine SL.pure rfl rfl rfl (PureOp.assign rfl) ?_
            refine SL.nil_then ?_
            refine WC.ret ?_
            refine QX.ret3 rfl rfl rfl rfl ?_
            intro w hw
            have ej : j = nu := by omega
            subst ej
            rw [validR, if_neg (by simp [h1]), if_neg (by omega), if_neg (by simp [h3]), if_neg (by rw [show (j : Int).toNat = j from rfl, hz2]; decide)]
            rfl

set_option maxHeartbeats 4000000 in
set_option maxRecDepth 100000 in
theorem rvalid_ok (n : Int) (l : List Ed) (ea : Option Addr) (m ec : Nat) (hm : m = l.length) (s t : Int) (f : List Int) (fa : Option Addr) (q fc : Nat) (hq : q = f.length) (w0 : World) (sE : SliceIn w0 4 ea m ec (rowsF encEd l)) (sF : SliceIn w0 1 fa q fc (rowsF encI f)) : FnC Try.prog 16 [.int .i64 n, .slice ea m ec, .int .i64 s, .int .i64 t, .slice fa q fc] w0 fun v w' => v = .tuple #[.int .i64 (validR n l s t f).1, .int .i64 (validR n l s t f).2.1, .int .i64 (validR n l s t f).2.2] := by
  refine fnc (N := 120) Try.func16 rfl rfl rfl ?_
  refine WC.seq ?_
  refine WC.region ?_
  refine SL.pure rfl rfl rfl (PureOp.assign rfl) ?_
  refine SL.pure rfl rfl rfl (PureOp.assign rfl) ?_
  refine SL.pure rfl rfl rfl (PureOp.assign rfl) ?_
  refine SL.nil_then ?_
  refine WC.seq ?_
  refine WC.region ?_
  refine SL.pure rfl rfl rfl (PureOp.move rfl) ?_
  refine SL.pure rfl rfl rfl (PureOp.move rfl) ?_
  refine SL.pure rfl rfl rfl (PureOp.move rfl) ?_
  refine SL.pure rfl rfl rfl (PureOp.move rfl) ?_
  refine SL.calle rfl rfl rfl rfl rfl rfl callable13 (fun w hw => rcheck_ok n l ea m ec hm s t w (sE.below hw.below)) ?_
  refine SL.norm [] rfl ?_
  refine SL.pure rfl rfl rfl (PureOp.assign rfl) ?_
  refine SL.nil_then ?_
  refine WC.seq ?_
  refine WC.seq ?_
  refine WC.region ?_
  refine SL.pure rfl rfl rfl (PureOp.move rfl) ?_
  refine SL.pure rfl rfl rfl (PureOp.neq rfl rfl) ?_
  refine SL.nil_then ?_
  refine WC.cond rfl (fun h1 => ?_) (fun h1 => ?_)
  · try simp only [Bool.and_eq_true, Bool.or_eq_true, Bool.not_eq_true', Bool.not_eq_false', Bool.and_eq_false_iff, Bool.or_eq_false_iff, decide_eq_true_eq, decide_eq_false_iff_not, Int.not_lt, Int.not_le, ne_eq, Decidable.not_not] at h1
    refine WC.seq ?_
    refine WC.region ?_
    refine SL.pure rfl rfl rfl (PureOp.move rfl) ?_
    refine SL.pure rfl rfl rfl (PureOp.assign rfl) ?_
    refine SL.pure rfl rfl rfl (PureOp.assign rfl) ?_
    refine SL.pure rfl rfl rfl (PureOp.assign rfl) ?_
    refine SL.nil_then ?_
    refine WC.ret ?_
    refine QX.ret_then ?_
    refine QX.ret3 rfl rfl rfl rfl ?_
    intro w hw
    rw [validR, if_pos h1]
  · try simp only [Bool.and_eq_true, Bool.or_eq_true, Bool.not_eq_true', Bool.not_eq_false', Bool.and_eq_false_iff, Bool.or_eq_false_iff, decide_eq_true_eq, decide_eq_false_iff_not, Int.not_lt, Int.not_le, ne_eq, Decidable.not_not] at h1
    obtain ⟨hc, hE⟩ := check_ok (n := n) (l := l) (s := s) (t := t) (by assumption)
    obtain ⟨nu, rfl⟩ : ∃ k : Nat, n = (k : Int) := ⟨n.toNat, by omega⟩
    refine WC.skip ?_
    refine QX.then_ ?_
    refine WC.seq ?_
    refine WC.seq ?_
    refine WC.region ?_
    refine SL.pure rfl rfl rfl (PureOp.move rfl) ?_
    refine SL.pure rfl rfl rfl (PureOp.len rfl Try.underlying29) ?_
    refine SL.pure rfl rfl rfl (PureOp.move rfl) ?_
    refine SL.pure rfl rfl rfl (PureOp.len rfl Try.underlying22) ?_
    refine SL.pure rfl rfl rfl (PureOp.neq rfl rfl) ?_
    refine SL.nil_then ?_
    refine WC.cond rfl (fun h2 => ?_) (fun h2 => ?_)
    · try simp only [Bool.and_eq_true, Bool.or_eq_true, Bool.not_eq_true', Bool.not_eq_false', Bool.and_eq_false_iff, Bool.or_eq_false_iff, decide_eq_true_eq, decide_eq_false_iff_not, Int.not_lt, Int.not_le, ne_eq, Decidable.not_not] at h2
      refine WC.seq ?_
      refine WC.region ?_
      refine SL.pure rfl rfl rfl (PureOp.assign rfl) ?_
      refine SL.pure rfl rfl rfl (PureOp.assign rfl) ?_
      refine SL.pure rfl rfl rfl (PureOp.assign rfl) ?_
      refine SL.nil_then ?_
      refine WC.ret ?_
      refine QX.ret_then ?_
      refine QX.ret3 rfl rfl rfl rfl ?_
      intro w hw
      rw [validR, if_neg (by simp [h1]), if_pos (by omega)]
    · try simp only [Bool.and_eq_true, Bool.or_eq_true, Bool.not_eq_true', Bool.not_eq_false', Bool.and_eq_false_iff, Bool.or_eq_false_iff, decide_eq_true_eq, decide_eq_false_iff_not, Int.not_lt, Int.not_le, ne_eq, Decidable.not_not] at h2
      refine WC.skip ?_
      refine QX.then_ ?_
      refine WC.seq ?_
      refine WC.seq ?_
      refine WC.region ?_
      refine SL.pure rfl rfl rfl (PureOp.move rfl) ?_
      refine SL.pure rfl rfl rfl (PureOp.move rfl) ?_
      refine SL.calle rfl rfl rfl rfl rfl rfl callable41 (fun w hw => rwithin_ok l ea m ec hm (by omega) f fa q fc hq (by omega) w (sE.below hw.below) (sF.below hw.below)) ?_
      refine SL.norm [] rfl ?_
      refine SL.pure rfl rfl rfl (PureOp.not rfl) ?_
      refine SL.nil_then ?_
      refine WC.cond rfl (fun h3 => ?_) (fun h3 => ?_)
      · try simp only [Bool.and_eq_true, Bool.or_eq_true, Bool.not_eq_true', Bool.not_eq_false', Bool.and_eq_false_iff, Bool.or_eq_false_iff, decide_eq_true_eq, decide_eq_false_iff_not, Int.not_lt, Int.not_le, ne_eq, Decidable.not_not] at h3
        refine WC.seq ?_
        refine WC.region ?_
        refine SL.pure rfl rfl rfl (PureOp.assign rfl) ?_
        refine SL.pure rfl rfl rfl (PureOp.assign rfl) ?_
        refine SL.pure rfl rfl rfl (PureOp.assign rfl) ?_
        refine SL.nil_then ?_
        refine WC.ret ?_
        refine QX.ret_then ?_
        refine QX.ret3 rfl rfl rfl rfl ?_
        intro w hw
        rw [validR, if_neg (by simp [h1]), if_neg (by omega), if_pos h3]
      · try simp only [Bool.and_eq_true, Bool.or_eq_true, Bool.not_eq_true', Bool.not_eq_false', Bool.and_eq_false_iff, Bool.or_eq_false_iff, decide_eq_true_eq, decide_eq_false_iff_not, Int.not_lt, Int.not_le, ne_eq, Decidable.not_not] at h3
        have hW := (within_ok (by assumption : withinB l f = true)).2
        refine WC.skip ?_
        refine QX.then_ ?_
        refine WC.seq ?_
        refine WC.region ?_
        refine SL.pure rfl rfl rfl (PureOp.move rfl) ?_
        refine SL.make rfl rfl Try.underlying29 elem3 rfl rfl (by omega) (by omega) (fun b1 hb1 => ?_)
        refine SL.itemxs 0 rfl (show _ = cellsOf encI (outK nu l f 0) from by rw [rep_int]; rfl) ?_
        refine SL.norm [_] rfl ?_
        refine SL.pure rfl rfl rfl (PureOp.assign rfl) ?_
        refine SL.pure rfl rfl rfl (PureOp.assign rfl) ?_
        refine SL.nil_then ?_
        refine WC.seq ?_
        refine WC.seq ?_
        refine WC.region ?_
        refine SL.pure rfl rfl rfl (PureOp.assign rfl) ?_
        refine SL.nil_then ?_
        refine WC.block ?_
        refine WC.loop (σ := Nat) (fun q_ => [(0, 0, .int .i64 ((nu : Nat) : Int)), (1, 0, .slice ea m ec), (2, 0, .int .i64 s), (3, 0, .int .i64 t), (4, 0, .slice fa q fc), (10, 0, .int .i64 0), (11, 0, .int .i64 0), (12, 0, .int .i64 0), (13, 0, .int .i64 (checkE (nu : Int) l s t)), (14, 0, .slice (some ⟨b1, 0, none⟩) nu nu), (18, 0, .int .i64 ((nu : Nat) : Int)), (19, 0, .slice ea m ec), (20, 0, .int .i64 s), (21, 0, .int .i64 t), (22, 0, .int .i64 (checkE (nu : Int) l s t)), (23, 0, .int .i64 (checkE (nu : Int) l s t)), (24, 0, .bool (decide (checkE (nu : Int) l s t ≠ 0))), (26, 0, .slice fa q fc), (27, 0, .int .i64 ((q : Nat) : Int)), (28, 0, .slice ea m ec), (29, 0, .int .i64 ((m : Nat) : Int)), (30, 0, .bool (decide (((q : Nat) : Int) ≠ ((m : Nat) : Int)))), (31, 0, .slice ea m ec), (32, 0, .slice fa q fc), (33, 0, .bool (withinB l f)), (34, 0, .bool (!(withinB l f))), (35, 0, .int .i64 ((nu : Nat) : Int)), (36, 0, .slice (some ⟨b1, 0, none⟩) nu nu), (16, 0, .int .i64 ((q_ : Nat) : Int)), (15, 0, .int .i64 (costK l f q_))]) (fun q_ => [Item.own w0.heap.size (some ⟨b1, 0, none⟩) nu nu 3 1 (cellsOf encI (outK nu l f q_))]) (fun q_ => q_ ≤ m) (fun q_ => m - q_) 1 (0) (Nat.zero_le _) ⟨rfl, rfl, rfl, rfl, rfl, rfl, rfl, rfl, rfl, rfl, rfl, rfl, rfl, rfl, rfl, rfl, rfl, rfl, rfl, rfl, rfl, rfl, rfl, rfl, rfl, rfl, rfl, rfl, rfl, rfl, rfl, rfl, rfl, rfl, rfl, rfl, rfl, rfl, rfl, rfl, rfl, rfl, rfl, rfl, rfl, rfl, rfl, rfl, rfl, rfl, rfl, rfl, rfl, rfl, rfl, rfl, rfl, rfl, rfl, rfl, trivial⟩ rfl ?_
        rintro k hk
        refine WC.seq ?_
        refine WC.seq ?_
        refine WC.region ?_
        refine SL.pure rfl rfl rfl (PureOp.move rfl) ?_
        refine SL.pure rfl rfl rfl (PureOp.move rfl) ?_
        refine SL.pure rfl rfl rfl (PureOp.len rfl Try.underlying22) ?_
        refine SL.pure rfl rfl rfl (PureOp.lss rfl rfl) ?_
        refine SL.nil_then ?_
        refine WC.cond rfl (fun h4 => ?_) (fun h4 => ?_)
        · try simp only [Bool.and_eq_true, Bool.or_eq_true, Bool.not_eq_true', Bool.not_eq_false', Bool.and_eq_false_iff, Bool.or_eq_false_iff, decide_eq_true_eq, decide_eq_false_iff_not, Int.not_lt, Int.not_le, ne_eq, Decidable.not_not] at h4
          have hBo := fun j hj => outK_bd (n := nu) hE hW k (by omega) j hj
          have hBc := costK_bd hE hW k (by omega)
          have hEk := hE k (by omega)
          have hWk := hW k (by omega)
          have hB1 := hBo (nth l k).1.toNat (by omega)
          have hB2 := addAt_bd (i := (nth l k).1) (x := nth f k) (b := 65536) (outK_len k) hBo (by omega) (nth l k).2.1.toNat (by omega)
          have hMl := mul_bd (A := 65536) (B := 4294967296) hWk.1 (by omega) hEk.2.2.2.2.2.2.1 hEk.2.2.2.2.2.2.2
          refine WC.skip ?_
          refine QX.then_ ?_
          refine WC.seq ?_
          refine WC.block ?_
          refine WC.seq ?_
          refine WC.drawh ([Item.triv]) 21 [false, false, false, false, false, false, false, false, false, false, false, false, false, false, false, false, false, false, false, false, false] rfl rfl rfl ?_
          refine SD.take 0 [true, false, false, false, false, false, false, false, false, false, false, false, false, false, false, false, false, false, false, false, false] rfl (by kernel_rfl) rfl (fun _ h => (HeapOk.settriv h (i := 0) rfl)) rfl rfl rfl (PureOp.move rfl) ?_
          refine SD.take 1 [true, true, false, false, false, false, false, false, false, false, false, false, false, false, false, false, false, false, false, false, false] rfl (by kernel_rfl) rfl (fun _ h => (HeapOk.settriv h (i := 0) rfl)) rfl rfl rfl (PureOp.move rfl) ?_
          refine SD.take 2 [true, true, true, false, false, false, false, false, false, false, false, false, false, false, false, false, false, false, false, false, false] rfl (by kernel_rfl) rfl (fun _ h => (HeapOk.settriv h (i := 0) rfl)) rfl rfl rfl (PureOp.move rfl) ?_
          refine SD.take 3 [true, true, true, true, false, false, false, false, false, false, false, false, false, false, false, false, false, false, false, false, false] rfl (by kernel_rfl) rfl (fun _ h => (HeapOk.settriv h (i := 0) rfl)) rfl rfl rfl (PureOp.indexAddrN Try.underlying22 sz61 rfl rfl (AoOk.in_ sE) (fun _ => by omega)) ?_
          refine SD.take 4 [true, true, true, true, true, false, false, false, false, false, false, false, false, false, false, false, false, false, false, false, false] rfl (by kernel_rfl) rfl (fun _ h => (HeapOk.settriv h (i := 0) rfl)) rfl rfl rfl (PureOp.fieldAddr 0 Try.underlying61 rfl rfl sz3 rfl) ?_
          refine SD.take 5 [true, true, true, true, true, true, false, false, false, false, false, false, false, false, false, false, false, false, false, false, false] rfl (by kernel_rfl) rfl (fun _ h => (HeapOk.settriv h (i := 0) rfl)) rfl rfl rfl (PureOp.load (v := .int .i64 ((nth l k).1)) Try.underlying3 rfl rfl (fun _ => (CellIs.in_ sE k 0 (by omega) (by omega)))) ?_
          refine SD.take 6 [true, true, true, true, true, true, true, false, false, false, false, false, false, false, false, false, false, false, false, false, false] rfl (by kernel_rfl) rfl (fun _ h => (HeapOk.settriv h (i := 0) rfl)) rfl rfl rfl (PureOp.move rfl) ?_
          refine SD.take 7 [true, true, true, true, true, true, true, true, false, false, false, false, false, false, false, false, false, false, false, false, false] rfl (by kernel_rfl) rfl (fun _ h => (HeapOk.settriv h (i := 0) rfl)) rfl rfl rfl (PureOp.move rfl) ?_
          refine SD.take 8 [true, true, true, true, true, true, true, true, true, false, false, false, false, false, false, false, false, false, false, false, false] rfl (by kernel_rfl) rfl (fun _ h => (HeapOk.settriv h (i := 0) rfl)) rfl rfl rfl (PureOp.move rfl) ?_
          refine SD.take 9 [true, true, true, true, true, true, true, true, true, true, false, false, false, false, false, false, false, false, false, false, false] rfl (by kernel_rfl) rfl (fun _ h => (HeapOk.settriv h (i := 0) rfl)) rfl rfl rfl (PureOp.indexAddrN Try.underlying22 sz61 rfl rfl (AoOk.in_ sE) (fun _ => by omega)) ?_
          refine SD.take 10 [true, true, true, true, true, true, true, true, true, true, true, false, false, false, false, false, false, false, false, false, false] rfl (by kernel_rfl) rfl (fun _ h => (HeapOk.settriv h (i := 0) rfl)) rfl rfl rfl (PureOp.fieldAddr 0 Try.underlying61 rfl rfl sz3 rfl) ?_
          refine SD.take 11 [true, true, true, true, true, true, true, true, true, true, true, true, false, false, false, false, false, false, false, false, false] rfl (by kernel_rfl) rfl (fun _ h => (HeapOk.settriv h (i := 0) rfl)) rfl rfl rfl (PureOp.load (v := .int .i64 ((nth l k).1)) Try.underlying3 rfl rfl (fun _ => (CellIs.in_ sE k 0 (by omega) (by omega)))) ?_
          refine SD.take 12 [true, true, true, true, true, true, true, true, true, true, true, true, true, false, false, false, false, false, false, false, false] rfl (by kernel_rfl) rfl (fun _ h => (HeapOk.settriv h (i := 0) rfl)) rfl rfl rfl (PureOp.indexAddr Try.underlying29 sz3 rfl rfl AoOk.lit (fun _ => by omega)) ?_
          refine SD.take 14 [true, true, true, true, true, true, true, true, true, true, true, true, true, false, true, false, false, false, false, false, false] rfl (by kernel_rfl) rfl (fun _ h => (HeapOk.settriv h (i := 0) rfl)) rfl rfl rfl (PureOp.move rfl) ?_
          refine SD.take 15 [true, true, true, true, true, true, true, true, true, true, true, true, true, false, true, true, false, false, false, false, false] rfl (by kernel_rfl) rfl (fun _ h => (HeapOk.settriv h (i := 0) rfl)) rfl rfl rfl (PureOp.move rfl) ?_
          refine SD.take 16 [true, true, true, true, true, true, true, true, true, true, true, true, true, false, true, true, true, false, false, false, false] rfl (by kernel_rfl) rfl (fun _ h => (HeapOk.settriv h (i := 0) rfl)) rfl rfl rfl (PureOp.indexAddrN Try.underlying29 sz3 rfl rfl (AoOk.in_ sF) (fun _ => by omega)) ?_
          refine SD.take 17 [true, true, true, true, true, true, true, true, true, true, true, true, true, false, true, true, true, true, false, false, false] rfl (by kernel_rfl) rfl (fun _ h => (HeapOk.settriv h (i := 0) rfl)) rfl rfl rfl (PureOp.load (v := .int .i64 (nth f k)) Try.underlying3 rfl rfl (fun _ => (CellIs.in_ sF k 0 (by omega) (by omega)))) ?_
          refine SD.one 13 [true, true, true, true, true, true, true, true, true, true, true, true, true, true, true, true, true, true, false, false, false] (by kernel_rfl) rfl rfl ?_
          refine SL.pure rfl rfl rfl (PureOp.load (v := .int .i64 (nth (outK nu l f k) (nth l k).1.toNat)) Try.underlying3 rfl rfl (fun _ => (CellIs.ownc 0 rfl (((nth l k).1).toNat) 0 (by first | exact encI_get (by rw [outK_len]; omega) | exact encI_get (by rw [addAt_len, outK_len]; omega))))) ?_
          refine SD.back (fun _ h => (HeapOk.settriv h (i := 0) rfl)) ?_
          refine SD.take 18 [true, true, true, true, true, true, true, true, true, true, true, true, true, true, true, true, true, true, true, false, false] rfl (by kernel_rfl) rfl (fun _ h => (HeapOk.settriv h (i := 0) rfl)) rfl rfl rfl (PureOp.add rfl rfl (fun _ => by omega)) ?_
          refine SD.take 19 [true, true, true, true, true, true, true, true, true, true, true, true, true, true, true, true, true, true, true, true, false] rfl (by kernel_rfl) rfl (fun _ h => (HeapOk.settriv h (i := 0) rfl)) rfl rfl rfl (PureOp.indexAddr Try.underlying29 sz3 rfl rfl AoOk.lit (fun _ => by omega)) ?_
          refine SD.one 20 [true, true, true, true, true, true, true, true, true, true, true, true, true, true, true, true, true, true, true, true, true] (by kernel_rfl) rfl rfl ?_
          refine SL.storeown (k := (((nth l k).1).toNat)) (j := 0) 0 rfl rfl rfl rfl sz3 (by first | (rw [cellsOf_length encI_len, outK_len]; omega) | (rw [cellsOf_length encI_len, addAt_len, outK_len]; omega)) rfl ?_
          refine SL.itemxs 0 rfl (show _ = cellsOf encI (addAt (outK nu l f k) (nth l k).1 (nth f k)) from encI_set (by rw [outK_len]; omega)) ?_
          refine SL.norm [_] rfl ?_
          refine SD.back (fun _ h => (HeapOk.settriv h (i := 0) rfl)) ?_
          refine SD.done (by kernel_rfl) ?_
          refine QX.ofK ?_
          refine QX.then_ ?_
          refine WC.seq ?_
          refine WC.drawh ([Item.triv]) 21 [false, false, false, false, false, false, false, false, false, false, false, false, false, false, false, false, false, false, false, false, false] rfl rfl rfl ?_
          refine SD.take 0 [true, false, false, false, false, false, false, false, false, false, false, false, false, false, false, false, false, false, false, false, false] rfl (by kernel_rfl) rfl (fun _ h => (HeapOk.settriv h (i := 0) rfl)) rfl rfl rfl (PureOp.move rfl) ?_
          refine SD.take 1 [true, true, false, false, false, false, false, false, false, false, false, false, false, false, false, false, false, false, false, false, false] rfl (by kernel_rfl) rfl (fun _ h => (HeapOk.settriv h (i := 0) rfl)) rfl rfl rfl (PureOp.move rfl) ?_
          refine SD.take 2 [true, true, true, false, false, false, false, false, false, false, false, false, false, false, false, false, false, false, false, false, false] rfl (by kernel_rfl) rfl (fun _ h => (HeapOk.settriv h (i := 0) rfl)) rfl rfl rfl (PureOp.move rfl) ?_
          refine SD.take 3 [true, true, true, true, false, false, false, false, false, false, false, false, false, false, false, false, false, false, false, false, false] rfl (by kernel_rfl) rfl (fun _ h => (HeapOk.settriv h (i := 0) rfl)) rfl rfl rfl (PureOp.indexAddrN Try.underlying22 sz61 rfl rfl (AoOk.in_ sE) (fun _ => by omega)) ?_
          refine SD.take 4 [true, true, true, true, true, false, false, false, false, false, false, false, false, false, false, false, false, false, false, false, false] rfl (by kernel_rfl) rfl (fun _ h => (HeapOk.settriv h (i := 0) rfl)) rfl rfl rfl (PureOp.fieldAddr 1 Try.underlying61 rfl rfl sz3 rfl) ?_
          refine SD.take 5 [true, true, true, true, true, true, false, false, false, false, false, false, false, false, false, false, false, false, false, false, false] rfl (by kernel_rfl) rfl (fun _ h => (HeapOk.settriv h (i := 0) rfl)) rfl rfl rfl (PureOp.load (v := .int .i64 ((nth l k).2.1)) Try.underlying3 rfl rfl (fun _ => (CellIs.in_ sE k 1 (by omega) (by omega)))) ?_
          refine SD.take 6 [true, true, true, true, true, true, true, false, false, false, false, false, false, false, false, false, false, false, false, false, false] rfl (by kernel_rfl) rfl (fun _ h => (HeapOk.settriv h (i := 0) rfl)) rfl rfl rfl (PureOp.move rfl) ?_
          refine SD.take 7 [true, true, true, true, true, true, true, true, false, false, false, false, false, false, false, false, false, false, false, false, false] rfl (by kernel_rfl) rfl (fun _ h => (HeapOk.settriv h (i := 0) rfl)) rfl rfl rfl (PureOp.move rfl) ?_
          refine SD.take 8 [true, true, true, true, true, true, true, true, true, false, false, false, false, false, false, false, false, false, false, false, false] rfl (by kernel_rfl) rfl (fun _ h => (HeapOk.settriv h (i := 0) rfl)) rfl rfl rfl (PureOp.move rfl) ?_
          refine SD.take 9 [true, true, true, true, true, true, true, true, true, true, false, false, false, false, false, false, false, false, false, false, false] rfl (by kernel_rfl) rfl (fun _ h => (HeapOk.settriv h (i := 0) rfl)) rfl rfl rfl (PureOp.indexAddrN Try.underlying22 sz61 rfl rfl (AoOk.in_ sE) (fun _ => by omega)) ?_
          refine SD.take 10 [true, true, true, true, true, true, true, true, true, true, true, false, false, false, false, false, false, false, false, false, false] rfl (by kernel_rfl) rfl (fun _ h => (HeapOk.settriv h (i := 0) rfl)) rfl rfl rfl (PureOp.fieldAddr 1 Try.underlying61 rfl rfl sz3 rfl) ?_
          refine SD.take 11 [true, true, true, true, true, true, true, true, true, true, true, true, false, false, false, false, false, false, false, false, false] rfl (by kernel_rfl) rfl (fun _ h => (HeapOk.settriv h (i := 0) rfl)) rfl rfl rfl (PureOp.load (v := .int .i64 ((nth l k).2.1)) Try.underlying3 rfl rfl (fun _ => (CellIs.in_ sE k 1 (by omega) (by omega)))) ?_
          refine SD.take 12 [true, true, true, true, true, true, true, true, true, true, true, true, true, false, false, false, false, false, false, false, false] rfl (by kernel_rfl) rfl (fun _ h => (HeapOk.settriv h (i := 0) rfl)) rfl rfl rfl (PureOp.indexAddr Try.underlying29 sz3 rfl rfl AoOk.lit (fun _ => by omega)) ?_
          refine SD.take 14 [true, true, true, true, true, true, true, true, true, true, true, true, true, false, true, false, false, false, false, false, false] rfl (by kernel_rfl) rfl (fun _ h => (HeapOk.settriv h (i := 0) rfl)) rfl rfl rfl (PureOp.move rfl) ?_
          refine SD.take 15 [true, true, true, true, true, true, true, true, true, true, true, true, true, false, true, true, false, false, false, false, false] rfl (by kernel_rfl) rfl (fun _ h => (HeapOk.settriv h (i := 0) rfl)) rfl rfl rfl (PureOp.move rfl) ?_
          refine SD.take 16 [true, true, true, true, true, true, true, true, true, true, true, true, true, false, true, true, true, false, false, false, false] rfl (by kernel_rfl) rfl (fun _ h => (HeapOk.settriv h (i := 0) rfl)) rfl rfl rfl (PureOp.indexAddrN Try.underlying29 sz3 rfl rfl (AoOk.in_ sF) (fun _ => by omega)) ?_
          refine SD.take 17 [true, true, true, true, true, true, true, true, true, true, true, true, true, false, true, true, true, true, false, false, false] rfl (by kernel_rfl) rfl (fun _ h => (HeapOk.settriv h (i := 0) rfl)) rfl rfl rfl (PureOp.load (v := .int .i64 (nth f k)) Try.underlying3 rfl rfl (fun _ => (CellIs.in_ sF k 0 (by omega) (by omega)))) ?_
          refine SD.one 13 [true, true, true, true, true, true, true, true, true, true, true, true, true, true, true, true, true, true, false, false, false] (by kernel_rfl) rfl rfl ?_
          refine SL.pure rfl rfl rfl (PureOp.load (v := .int .i64 (nth (addAt (outK nu l f k) (nth l k).1 (nth f k)) (nth l k).2.1.toNat)) Try.underlying3 rfl rfl (fun _ => (CellIs.ownc 0 rfl (((nth l k).2.1).toNat) 0 (by first | exact encI_get (by rw [outK_len]; omega) | exact encI_get (by rw [addAt_len, outK_len]; omega))))) ?_
          refine SD.back (fun _ h => (HeapOk.settriv h (i := 0) rfl)) ?_
          refine SD.take 18 [true, true, true, true, true, true, true, true, true, true, true, true, true, true, true, true, true, true, true, false, false] rfl (by kernel_rfl) rfl (fun _ h => (HeapOk.settriv h (i := 0) rfl)) rfl rfl rfl (PureOp.sub rfl rfl (fun _ => by omega)) ?_
          refine SD.take 19 [true, true, true, true, true, true, true, true, true, true, true, true, true, true, true, true, true, true, true, true, false] rfl (by kernel_rfl) rfl (fun _ h => (HeapOk.settriv h (i := 0) rfl)) rfl rfl rfl (PureOp.indexAddr Try.underlying29 sz3 rfl rfl AoOk.lit (fun _ => by omega)) ?_
          refine SD.one 20 [true, true, true, true, true, true, true, true, true, true, true, true, true, true, true, true, true, true, true, true, true] (by kernel_rfl) rfl rfl ?_
          refine SL.storeown (k := (((nth l k).2.1).toNat)) (j := 0) 0 rfl rfl rfl rfl sz3 (by first | (rw [cellsOf_length encI_len, outK_len]; omega) | (rw [cellsOf_length encI_len, addAt_len, outK_len]; omega)) rfl ?_
          refine SL.itemxs 0 rfl (show _ = cellsOf encI (outK nu l f (k + 1)) from by first | exact encI_set (by rw [addAt_len, outK_len]; omega) | (rw [Int.sub_eq_add_neg]; exact encI_set (by rw [addAt_len, outK_len]; omega))) ?_
          refine SL.norm [_] rfl ?_
          refine SD.back (fun _ h => (HeapOk.settriv h (i := 0) rfl)) ?_
          refine SD.done (by kernel_rfl) ?_
          refine QX.ofK ?_
          refine QX.then_ ?_
          refine WC.quiet rfl (by kernel_rfl) ?_
          refine SQ.pure rfl rfl rfl (PureOp.move rfl) ?_
          refine SQ.pure rfl rfl rfl (PureOp.move rfl) ?_
          refine SQ.pure rfl rfl rfl (PureOp.move rfl) ?_
          refine SQ.pure rfl rfl rfl (PureOp.indexAddrN Try.underlying29 sz3 rfl rfl (AoOk.in_ sF) (fun _ => by omega)) ?_
          refine SQ.pure rfl rfl rfl (PureOp.load (v := .int .i64 (nth f k)) Try.underlying3 rfl rfl (fun _ => (CellIs.in_ sF k 0 (by omega) (by omega)))) ?_
          refine SQ.pure rfl rfl rfl (PureOp.move rfl) ?_
          refine SQ.pure rfl rfl rfl (PureOp.move rfl) ?_
          refine SQ.pure rfl rfl rfl (PureOp.indexAddrN Try.underlying22 sz61 rfl rfl (AoOk.in_ sE) (fun _ => by omega)) ?_
          refine SQ.pure rfl rfl rfl (PureOp.fieldAddr 3 Try.underlying61 rfl rfl sz3 rfl) ?_
          refine SQ.pure rfl rfl rfl (PureOp.load (v := .int .i64 ((nth l k).2.2.2)) Try.underlying3 rfl rfl (fun _ => (CellIs.in_ sE k 3 (by omega) (by omega)))) ?_
          refine SQ.pure rfl rfl rfl (PureOp.mul rfl rfl (fun _ => by omega)) ?_
          refine SQ.pure rfl rfl rfl (PureOp.add rfl rfl (fun _ => by omega)) ?_
          refine SQ.pure rfl rfl rfl (PureOp.assign rfl) ?_
          refine SQ.nil ?_
          refine QX.normal_in ?_
          refine QX.then_ ?_
          refine WC.region ?_
          refine SL.pure rfl rfl rfl (PureOp.move rfl) ?_
          refine SL.pure rfl rfl rfl (PureOp.addN (k := 1) rfl rfl (fun _ => by omega)) ?_
          refine SL.pure rfl rfl rfl (PureOp.assign rfl) ?_
          refine SL.nil ?_
          refine QX.round 1 (k + 1) ⟨(by first | omega | (dsimp only; omega)), by first | omega | (dsimp only; omega)⟩ ⟨rfl, rfl, rfl, rfl, rfl, rfl, rfl, rfl, rfl, rfl, rfl, rfl, rfl, rfl, rfl, rfl, rfl, rfl, rfl, rfl, rfl, rfl, rfl, rfl, rfl, rfl, rfl, rfl, rfl, rfl, rfl, rfl, rfl, rfl, rfl, rfl, rfl, rfl, rfl, rfl, rfl, rfl, rfl, rfl, rfl, rfl, rfl, rfl, rfl, rfl, rfl, rfl, rfl, rfl, rfl, rfl, rfl, rfl, rfl, rfl, trivial⟩ rfl
        · try simp only [Bool.and_eq_true, Bool.or_eq_true, Bool.not_eq_true', Bool.not_eq_false', Bool.and_eq_false_iff, Bool.or_eq_false_iff, decide_eq_true_eq, decide_eq_false_iff_not, Int.not_lt, Int.not_le, ne_eq, Decidable.not_not] at h4
          have ek : k = l.length := by omega
          subst ek
          refine WC.exit ?_
          refine QX.exit_then ?_
          refine QX.exit_then ?_
          refine QX.exit_hit ?_
          refine QX.then_ ?_
          refine WC.seq ?_
          refine WC.seq ?_
          refine WC.region ?_
          refine SL.pure rfl rfl rfl (PureOp.assign rfl) ?_
          refine SL.nil_then ?_
          refine WC.block ?_
          refine WC.loop (σ := Nat) (fun q_ => [(0, 0, .int .i64 ((nu : Nat) : Int)), (1, 0, .slice ea m ec), (2, 0, .int .i64 s), (3, 0, .int .i64 t), (4, 0, .slice fa q fc), (13, 0, .int .i64 (checkE (nu : Int) l s t)), (14, 0, .slice (some ⟨b1, 0, none⟩) nu nu), (15, 0, .int .i64 (costK l f l.length)), (16, 0, .int .i64 ((l.length : Nat) : Int)), (18, 0, .int .i64 ((nu : Nat) : Int)), (19, 0, .slice ea m ec), (20, 0, .int .i64 s), (21, 0, .int .i64 t), (22, 0, .int .i64 (checkE (nu : Int) l s t)), (23, 0, .int .i64 (checkE (nu : Int) l s t)), (24, 0, .bool (decide (checkE (nu : Int) l s t ≠ 0))), (26, 0, .slice fa q fc), (27, 0, .int .i64 ((q : Nat) : Int)), (28, 0, .slice ea m ec), (29, 0, .int .i64 ((m : Nat) : Int)), (30, 0, .bool (decide (((q : Nat) : Int) ≠ ((m : Nat) : Int)))), (31, 0, .slice ea m ec), (32, 0, .slice fa q fc), (33, 0, .bool (withinB l f)), (34, 0, .bool (!(withinB l f))), (35, 0, .int .i64 ((nu : Nat) : Int)), (36, 0, .slice (some ⟨b1, 0, none⟩) nu nu), (37, 0, .int .i64 ((l.length : Nat) : Int)), (38, 0, .slice ea m ec), (39, 0, .int .i64 ((m : Nat) : Int)), (40, 0, .bool (decide (((l.length : Nat) : Int) < ((m : Nat) : Int)))), (17, 0, .int .i64 ((q_ : Nat) : Int))]) (fun q_ => [Item.own w0.heap.size (some ⟨b1, 0, none⟩) nu nu 3 1 (cellsOf encI (outK nu l f l.length))]) (fun q_ => q_ ≤ nu ∧ allK (nodeB (outK nu l f l.length) s t) q_ = true) (fun q_ => nu - q_) 1 (0) (⟨Nat.zero_le _, rfl⟩) ⟨rfl, rfl, rfl, rfl, rfl, rfl, rfl, rfl, rfl, rfl, rfl, rfl, rfl, rfl, rfl, rfl, rfl, rfl, rfl, rfl, rfl, rfl, rfl, rfl, rfl, rfl, rfl, rfl, rfl, rfl, rfl, rfl, rfl, rfl, rfl, rfl, rfl, rfl, rfl, rfl, rfl, rfl, rfl, rfl, rfl, rfl, rfl, rfl, rfl, rfl, rfl, rfl, rfl, rfl, rfl, rfl, rfl, rfl, rfl, rfl, rfl, rfl, rfl, rfl, trivial⟩ rfl ?_
          rintro j ⟨hj, hz2⟩
          refine WC.seq ?_
          refine WC.seq ?_
          refine WC.region ?_
          refine SL.pure rfl rfl rfl (PureOp.move rfl) ?_
          refine SL.pure rfl rfl rfl (PureOp.move rfl) ?_
          refine SL.pure rfl rfl rfl (PureOp.lss rfl rfl) ?_
          refine SL.nil_then ?_
          refine WC.cond rfl (fun h5 => ?_) (fun h5 => ?_)
          · try simp only [Bool.and_eq_true, Bool.or_eq_true, Bool.not_eq_true', Bool.not_eq_false', Bool.and_eq_false_iff, Bool.or_eq_false_iff, decide_eq_true_eq, decide_eq_false_iff_not, Int.not_lt, Int.not_le, ne_eq, Decidable.not_not] at h5
            refine WC.skip ?_
            refine QX.then_ ?_
            refine WC.seq ?_
            refine WC.block ?_
            refine WC.seq ?_
            refine WC.region ?_
            refine SL.pure rfl rfl rfl (PureOp.move rfl) ?_
            refine SL.pure rfl rfl rfl (PureOp.move rfl) ?_
            refine SL.pure rfl rfl rfl (PureOp.neq rfl rfl) ?_
            refine SL.pure rfl rfl rfl (PureOp.move rfl) ?_
            refine SL.newg 103 true rfl ?_
            refine SL.gpure (c := 1) rfl rfl rfl rfl rfl rfl rfl (PureOp.move rfl) ?_
            refine SL.gpure (c := 1) rfl rfl rfl rfl rfl rfl rfl (PureOp.move rfl) ?_
            refine SL.gpure (c := 1) rfl rfl rfl rfl rfl rfl rfl (PureOp.neq rfl rfl) ?_
            refine SL.pure rfl rfl rfl (PureOp.and_ rfl rfl rfl rfl) ?_
            refine SL.pure rfl rfl rfl (PureOp.move rfl) ?_
            refine SL.newg 108 true rfl ?_
            refine SL.gpure (c := 2) rfl rfl rfl rfl rfl rfl rfl (PureOp.move rfl) ?_
            refine SL.gpure (c := 2) rfl rfl rfl rfl rfl rfl rfl (PureOp.move rfl) ?_
            refine SL.gpure (c := 2) rfl rfl rfl rfl rfl rfl rfl (PureOp.indexAddrN Try.underlying29 sz3 rfl rfl AoOk.lit (by intro hg; simp [gval] at hg; omega)) ?_
            refine SL.gpure (c := 2) rfl rfl rfl rfl rfl rfl rfl (PureOp.load (v := .int .i64 (nth (outK nu l f l.length) j)) Try.underlying3 rfl rfl (by intro hg; simp [gval] at hg; exact (CellIs.ownc 0 rfl j 0 (by first | exact encI_get (by rw [outK_len]; omega) | exact encI_get (by rw [addAt_len, outK_len]; omega))))) ?_
            refine SL.gpure (c := 2) rfl rfl rfl rfl rfl rfl rfl (PureOp.neq rfl rfl) ?_
            refine SL.pure rfl rfl rfl (PureOp.and_ rfl rfl rfl rfl) ?_
            refine SL.nil_then ?_
            refine WC.cond rfl (fun h6 => ?_) (fun h6 => ?_)
            · try simp only [Bool.and_eq_true, Bool.or_eq_true, Bool.not_eq_true', Bool.not_eq_false', Bool.and_eq_false_iff, Bool.or_eq_false_iff, decide_eq_true_eq, decide_eq_false_iff_not, Int.not_lt, Int.not_le, ne_eq, Decidable.not_not] at h6
              refine WC.seq ?_
              refine WC.region ?_
              refine SL.pure rfl rfl rfl (PureOp.assign rfl) ?_
              refine SL.pure rfl rfl rfl (PureOp.assign rfl) ?_
              refine SL.pure rfl rfl rfl (PureOp.assign rfl) ?_
              refine SL.nil_then ?_
              refine WC.ret ?_
              refine QX.ret_in ?_
              refine QX.ret_then ?_
              refine QX.ret_then ?_
              refine QX.ret_in ?_
              refine QX.ret_then ?_
              refine QX.ret3 rfl rfl rfl rfl ?_
              intro w hw
              have hj2 : j < nu := by omega
              rw [validR, show (nu : Int).toNat = nu from rfl, if_neg (by simp [h1]), if_neg (by omega), if_neg (by simp [h3]), if_pos (allK_not (k := j) hj2 (by rw [nodeB, Bool.or_eq_false_iff, Bool.or_eq_false_iff, decide_eq_false_iff_not, decide_eq_false_iff_not, decide_eq_false_iff_not]; omega))]
            · try simp only [Bool.and_eq_true, Bool.or_eq_true, Bool.not_eq_true', Bool.not_eq_false', Bool.and_eq_false_iff, Bool.or_eq_false_iff, decide_eq_true_eq, decide_eq_false_iff_not, Int.not_lt, Int.not_le, ne_eq, Decidable.not_not] at h6
              refine WC.skip ?_
              refine QX.normal_in ?_
              refine QX.then_ ?_
              refine WC.region ?_
              refine SL.pure rfl rfl rfl (PureOp.move rfl) ?_
              refine SL.pure rfl rfl rfl (PureOp.addN (k := 1) rfl rfl (fun _ => by omega)) ?_
              refine SL.pure rfl rfl rfl (PureOp.assign rfl) ?_
              refine SL.nil ?_
              refine QX.round 1 (j + 1) ⟨⟨(by first | omega | (dsimp only; omega)), allK_next hz2 (by rw [nodeB, Bool.or_eq_true, Bool.or_eq_true, decide_eq_true_iff, decide_eq_true_iff, decide_eq_true_iff]; omega)⟩, by first | omega | (dsimp only; omega)⟩ ⟨rfl, rfl, rfl, rfl, rfl, rfl, rfl, rfl, rfl, rfl, rfl, rfl, rfl, rfl, rfl, rfl, rfl, rfl, rfl, rfl, rfl, rfl, rfl, rfl, rfl, rfl, rfl, rfl, rfl, rfl, rfl, rfl, rfl, rfl, rfl, rfl, rfl, rfl, rfl, rfl, rfl, rfl, rfl, rfl, rfl, rfl, rfl, rfl, rfl, rfl, rfl, rfl, rfl, rfl, rfl, rfl, rfl, rfl, rfl, rfl, rfl, rfl, rfl, rfl, trivial⟩ rfl
          · try simp only [Bool.and_eq_true, Bool.or_eq_true, Bool.not_eq_true', Bool.not_eq_false', Bool.and_eq_false_iff, Bool.or_eq_false_iff, decide_eq_true_eq, decide_eq_false_iff_not, Int.not_lt, Int.not_le, ne_eq, Decidable.not_not] at h5
            refine WC.exit ?_
            refine QX.exit_then ?_
            refine QX.exit_then ?_
            refine QX.exit_hit ?_
            refine QX.then_ ?_
            refine WC.seq ?_
            refine WC.region ?_
            refine SL.pure rfl rfl rfl (PureOp.move rfl) ?_
            refine SL.pure rfl rfl rfl (PureOp.move rfl) ?_
            refine SL.pure rfl rfl rfl (PureOp.indexAddr Try.underlying29 sz3 rfl rfl AoOk.lit (fun _ => by omega)) ?_
            refine SL.pure rfl rfl rfl (PureOp.load (v := .int .i64 (nth (outK nu l f l.length) ((s).toNat))) Try.underlying3 rfl rfl (fun _ => (CellIs.ownc 0 rfl ((s).toNat) 0 (by first | exact encI_get (by rw [outK_len]; omega) | exact encI_get (by rw [addAt_len, outK_len]; omega))))) ?_
            refine SL.pure rfl rfl rfl (PureOp.move rfl) ?_
            refine SL.pure rfl rfl rfl (PureOp.assign rfl) ?_
            refine SL.pure rfl rfl rfl (PureOp.assign rfl) ?_
            refine SL.pure rfl rfl rfl (PureOp.assign rfl) ?_
            refine SL.nil_then ?_
            refine WC.ret ?_
            refine QX.ret3 rfl rfl rfl rfl ?_
            intro w hw
            have ej : j = nu := by omega
            subst ej
            rw [validR, if_neg (by simp [h1]), if_neg (by omega), if_neg (by simp [h3]), if_neg (by rw [show (j : Int).toNat = j from rfl, hz2]; decide)]
            rfl

end Go.Proofs.Ytngkbnaehkailaa
