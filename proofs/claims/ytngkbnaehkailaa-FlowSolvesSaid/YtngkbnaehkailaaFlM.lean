import Derived.Test.YtngkbnaehkailaaFlK
import Derived.Test.YtngkbnaehkailaaPrices
namespace Go.Proofs.Ytngkbnaehkailaa
open Go Go.RowKit Eng
set_option linter.unusedVariables false
set_option linter.unusedSimpArgs false

set_option maxHeartbeats 4000000 in
set_option maxRecDepth 100000 in
theorem rprices_ok (n : Int) (l : List Ed) (ea : Option Addr) (m ec : Nat) (hm : m = l.length) (f : List Int) (fa : Option Addr) (q fc : Nat) (hq : q = f.length) (w0 : World) (sE : SliceIn w0 4 ea m ec (rowsF encEd l)) (sF : SliceIn w0 1 fa q fc (rowsF encI f)) : FnC Try.prog 21 [.int .i64 n, .slice ea m ec, .slice fa q fc] w0 fun v w' => ∃ a c, v = .tuple #[.slice a (rpricesF n l f).1.length c, .bool (rpricesF n l f).2] ∧ w'.ownsRow w0.heap.size 3 1 (.slice a (rpricesF n l f).1.length c) (rpricesF n l f).1.length (cellsOf encI (rpricesF n l f).1) := by
  refine fnc (N := 70) Try.func21 rfl rfl rfl ?_
  refine WC.seq ?_
  refine WC.region ?_
  refine SL.pure rfl rfl rfl (PureOp.assign rfl) ?_
  refine SL.pure rfl rfl rfl (PureOp.assign rfl) ?_
  refine SL.nil_then ?_
  refine WC.seq ?_
  refine WC.seq ?_
  refine WC.region ?_
  refine SL.pure rfl rfl rfl (PureOp.move rfl) ?_
  refine SL.pure rfl rfl rfl (PureOp.move rfl) ?_
  refine SL.pure rfl rfl rfl (PureOp.move rfl) ?_
  refine SL.calle rfl rfl rfl rfl rfl rfl callable47 (fun w hw => known_ok n l ea m ec hm f fa q fc hq w (sE.below hw.below) (sF.below hw.below)) ?_
  refine SL.norm [] rfl ?_
  refine SL.pure rfl rfl rfl (PureOp.not rfl) ?_
  refine SL.nil_then ?_
  refine WC.cond rfl (fun h1 => ?_) (fun h1 => ?_)
  · try simp only [Bool.and_eq_true, Bool.or_eq_true, Bool.not_eq_true', Bool.not_eq_false', Bool.and_eq_false_iff, Bool.or_eq_false_iff, decide_eq_true_eq, decide_eq_false_iff_not, Int.not_lt, Int.not_le, ne_eq, Decidable.not_not] at h1
    refine WC.seq ?_
    refine WC.region ?_
    refine SL.pure rfl rfl rfl (PureOp.assign rfl) ?_
    refine SL.pure rfl rfl rfl (PureOp.assign rfl) ?_
    refine SL.nil_then ?_
    refine WC.ret ?_
    refine QX.ret_then ?_
    refine QX.ret2 rfl rfl rfl ?_
    intro w hw
    have e : rpricesF n l f = ([], false) := if_neg (by rw [h1]; simp)
    rw [e]
    exact ⟨none, 0, rfl, ownsRow_nil⟩
  · try simp only [Bool.and_eq_true, Bool.or_eq_true, Bool.not_eq_true', Bool.not_eq_false', Bool.and_eq_false_iff, Bool.or_eq_false_iff, decide_eq_true_eq, decide_eq_false_iff_not, Int.not_lt, Int.not_le, ne_eq, Decidable.not_not] at h1
    obtain ⟨hc0, hw0⟩ := right_parts h1
    have hql := (within_ok hw0).1
    have hW := (within_ok hw0).2
    have hSl := stepsK_len (l := l) (f := f) l.length
    obtain ⟨hc, hE⟩ := check_ok (n := n) (l := l) (s := 0) (t := 1) (by assumption)
    obtain ⟨nu, rfl⟩ : ∃ k : Nat, n = (k : Int) := ⟨n.toNat, by omega⟩
    refine WC.skip ?_
    refine QX.then_ ?_
    refine WC.cutx (σ := Nat × Option Addr × Nat) (fun q_ => [(0, 0, .int .i64 ((nu : Nat) : Int)), (1, 0, .slice ea m ec), (2, 0, .slice fa q fc), (6, 0, .slice none 0 0), (7, 0, .bool false), (12, 0, .int .i64 ((nu : Nat) : Int)), (13, 0, .slice ea m ec), (14, 0, .slice fa q fc), (15, 0, .bool (rightB (nu : Int) l f)), (16, 0, .bool (!(rightB (nu : Int) l f))), (8, 0, .slice (some ⟨q_.1, 0, none⟩) nu nu), (9, 0, .slice q_.2.1 ((stepsK l f l.length).length) q_.2.2)]) (fun q_ => [Item.own w0.heap.size (some ⟨q_.1, 0, none⟩) nu nu 3 1 (cellsOf encI (List.replicate nu 0)), Item.own w0.heap.size q_.2.1 ((stepsK l f l.length).length) q_.2.2 74 6 (cellsOf encSp (stepsK l f l.length))]) (fun q_ => True) ?_ ?_
    · skip
      refine WC.drawH 7 [false, false, false, false, false, false, false] rfl rfl rfl ?_
      refine SD.take 0 [true, false, false, false, false, false, false] rfl (by kernel_rfl) rfl (fun _ h => h) rfl rfl rfl (PureOp.move rfl) ?_
      refine SD.take 2 [true, false, true, false, false, false, false] rfl (by kernel_rfl) rfl (fun _ h => h) rfl rfl rfl (PureOp.move rfl) ?_
      refine SD.take 3 [true, false, true, true, false, false, false] rfl (by kernel_rfl) rfl (fun _ h => h) rfl rfl rfl (PureOp.move rfl) ?_
      refine SD.all [1, 4] (by kernel_rfl) (by simp) ⟨⟨_, [true, true, true, true, false, false, false], rfl, rfl, ?_⟩, ⟨_, [true, false, true, true, true, false, false], rfl, rfl, ?_⟩, trivial⟩
      · skip
        refine SL.make rfl rfl Try.underlying29 elem3 rfl rfl (by omega) (by omega) (fun b1 hb1 => ?_)
        refine SL.itemxs 0 rfl (show _ = cellsOf encI (List.replicate nu 0) from by rw [rep_int]) ?_
        refine SL.norm [_] rfl ?_
        refine SD.back (fun _ h => HeapOk.take h 0) ?_
        refine SD.one 4 [true, true, true, true, true, false, false] (by kernel_rfl) rfl rfl ?_
        refine SL.callo (fun za zc => .slice za ((stepsK l f l.length).length) zc) rfl rfl rfl rfl rfl rfl callable45 (fun w hw => steps_ok l ea m ec hm (by omega) f fa q fc hq (by omega) hW nu hE w (sE.below hw.below) (sF.below hw.below)) (fun za zc => ?_)
        refine SL.norm [_, _] rfl ?_
        refine SD.back (fun _ h => HeapOk.take h 0) ?_
        refine SD.take 5 [true, true, true, true, true, true, false] rfl (by kernel_rfl) rfl (fun _ h => HeapOk.take h 0) rfl rfl rfl (PureOp.assign rfl) ?_
        refine SD.take 6 [true, true, true, true, true, true, true] rfl (by kernel_rfl) rfl (fun _ h => HeapOk.take h 0) rfl rfl rfl (PureOp.assign rfl) ?_
        refine SD.done (by kernel_rfl) ?_
        refine QX.ofK ?_
        refine QX.heap (fun _ h => HeapOk.pick [0, 1] (by decide) h) ?_
        refine QX.cutx (σ := Nat × Option Addr × Nat) (E' := fun q_ => [(0, 0, .int .i64 ((nu : Nat) : Int)), (1, 0, .slice ea m ec), (2, 0, .slice fa q fc), (6, 0, .slice none 0 0), (7, 0, .bool false), (12, 0, .int .i64 ((nu : Nat) : Int)), (13, 0, .slice ea m ec), (14, 0, .slice fa q fc), (15, 0, .bool (rightB (nu : Int) l f)), (16, 0, .bool (!(rightB (nu : Int) l f))), (8, 0, .slice (some ⟨q_.1, 0, none⟩) nu nu), (9, 0, .slice q_.2.1 ((stepsK l f l.length).length) q_.2.2)]) (H' := fun q_ => [Item.own w0.heap.size (some ⟨q_.1, 0, none⟩) nu nu 3 1 (cellsOf encI (List.replicate nu 0)), Item.own w0.heap.size q_.2.1 ((stepsK l f l.length).length) q_.2.2 74 6 (cellsOf encSp (stepsK l f l.length))]) (I := fun q_ => True) 2 ((b1, za, zc)) (trivial) ⟨rfl, rfl, rfl, rfl, rfl, rfl, rfl, rfl, rfl, rfl, rfl, rfl, rfl, rfl, rfl, rfl, rfl, rfl, rfl, rfl, rfl, rfl, rfl, rfl, trivial⟩ rfl
      · skip
        refine SL.callo (fun za zc => .slice za ((stepsK l f l.length).length) zc) rfl rfl rfl rfl rfl rfl callable45 (fun w hw => steps_ok l ea m ec hm (by omega) f fa q fc hq (by omega) hW nu hE w (sE.below hw.below) (sF.below hw.below)) (fun za zc => ?_)
        refine SL.norm [_] rfl ?_
        refine SD.back (fun _ h => HeapOk.take h 0) ?_
        refine SD.one 1 [true, true, true, true, true, false, false] (by kernel_rfl) rfl rfl ?_
        refine SL.make rfl rfl Try.underlying29 elem3 rfl rfl (by omega) (by omega) (fun b2 hb2 => ?_)
        refine SL.itemxs 1 rfl (show _ = cellsOf encI (List.replicate nu 0) from by rw [rep_int]) ?_
        refine SL.norm [_, _] rfl ?_
        refine SD.back (fun _ h => HeapOk.take h 0) ?_
        refine SD.take 5 [true, true, true, true, true, true, false] rfl (by kernel_rfl) rfl (fun _ h => HeapOk.take h 0) rfl rfl rfl (PureOp.assign rfl) ?_
        refine SD.take 6 [true, true, true, true, true, true, true] rfl (by kernel_rfl) rfl (fun _ h => HeapOk.take h 0) rfl rfl rfl (PureOp.assign rfl) ?_
        refine SD.done (by kernel_rfl) ?_
        refine QX.ofK ?_
        refine QX.heap (fun _ h => HeapOk.pick [1, 0] (by decide) h) ?_
        refine QX.cutx (σ := Nat × Option Addr × Nat) (E' := fun q_ => [(0, 0, .int .i64 ((nu : Nat) : Int)), (1, 0, .slice ea m ec), (2, 0, .slice fa q fc), (6, 0, .slice none 0 0), (7, 0, .bool false), (12, 0, .int .i64 ((nu : Nat) : Int)), (13, 0, .slice ea m ec), (14, 0, .slice fa q fc), (15, 0, .bool (rightB (nu : Int) l f)), (16, 0, .bool (!(rightB (nu : Int) l f))), (8, 0, .slice (some ⟨q_.1, 0, none⟩) nu nu), (9, 0, .slice q_.2.1 ((stepsK l f l.length).length) q_.2.2)]) (H' := fun q_ => [Item.own w0.heap.size (some ⟨q_.1, 0, none⟩) nu nu 3 1 (cellsOf encI (List.replicate nu 0)), Item.own w0.heap.size q_.2.1 ((stepsK l f l.length).length) q_.2.2 74 6 (cellsOf encSp (stepsK l f l.length))]) (I := fun q_ => True) 2 ((b2, za, zc)) (trivial) ⟨rfl, rfl, rfl, rfl, rfl, rfl, rfl, rfl, rfl, rfl, rfl, rfl, rfl, rfl, rfl, rfl, rfl, rfl, rfl, rfl, rfl, rfl, rfl, rfl, trivial⟩ rfl
    rintro ⟨ob, za, zc⟩ _
    try dsimp only at *
    refine WC.seq ?_
    refine WC.seq ?_
    refine WC.region ?_
    refine SL.pure rfl rfl rfl (PureOp.assign rfl) ?_
    refine SL.nil_then ?_
    refine WC.block ?_
    refine WC.loop (σ := Nat × List Int) (fun q_ => [(0, 0, .int .i64 ((nu : Nat) : Int)), (1, 0, .slice ea m ec), (2, 0, .slice fa q fc), (6, 0, .slice none 0 0), (7, 0, .bool false), (8, 0, .slice (some ⟨ob, 0, none⟩) nu nu), (9, 0, .slice za ((stepsK l f l.length).length) zc), (12, 0, .int .i64 ((nu : Nat) : Int)), (13, 0, .slice ea m ec), (14, 0, .slice fa q fc), (15, 0, .bool (rightB (nu : Int) l f)), (16, 0, .bool (!(rightB (nu : Int) l f))), (10, 0, .int .i64 ((q_.1 : Nat) : Int))]) (fun q_ => [Item.own w0.heap.size (some ⟨ob, 0, none⟩) nu nu 3 1 (cellsOf encI (q_.2)), Item.own w0.heap.size za ((stepsK l f l.length).length) zc 74 6 (cellsOf encSp (stepsK l f l.length))]) (fun q_ => q_.1 ≤ nu ∧ q_.2 = rndK l f nu q_.1 ∧ Bd nu (-(((q_.1 : Nat) : Int) * 17592186044416)) q_.2) (fun q_ => nu - q_.1) 2 ((0, List.replicate nu 0)) (⟨Nat.zero_le _, rfl, (rep_bd (by omega)).mono (by simp)⟩) ⟨rfl, rfl, rfl, rfl, rfl, rfl, rfl, rfl, rfl, rfl, rfl, rfl, rfl, rfl, rfl, rfl, rfl, rfl, rfl, rfl, rfl, rfl, rfl, rfl, rfl, rfl, trivial⟩ rfl ?_
    rintro ⟨r, C⟩ ⟨hr, hrk, hC⟩
    try dsimp only at *
    refine WC.seq ?_
    refine WC.seq ?_
    refine WC.region ?_
    refine SL.pure rfl rfl rfl (PureOp.move rfl) ?_
    refine SL.pure rfl rfl rfl (PureOp.move rfl) ?_
    refine SL.pure rfl rfl rfl (PureOp.lss rfl rfl) ?_
    refine SL.nil_then ?_
    refine WC.cond rfl (fun h2 => ?_) (fun h2 => ?_)
    · try simp only [Bool.and_eq_true, Bool.or_eq_true, Bool.not_eq_true', Bool.not_eq_false', Bool.and_eq_false_iff, Bool.or_eq_false_iff, decide_eq_true_eq, decide_eq_false_iff_not, Int.not_lt, Int.not_le, ne_eq, Decidable.not_not] at h2
      refine WC.skip ?_
      refine QX.then_ ?_
      refine WC.seq ?_
      refine WC.block ?_
      refine WC.seq ?_
      refine WC.region ?_
      refine SL.pure rfl rfl rfl (PureOp.assign rfl) ?_
      refine SL.nil_then ?_
      refine WC.block ?_
      refine WC.loop (σ := Nat × List Int) (fun q_ => [(0, 0, .int .i64 ((nu : Nat) : Int)), (1, 0, .slice ea m ec), (2, 0, .slice fa q fc), (6, 0, .slice none 0 0), (7, 0, .bool false), (8, 0, .slice (some ⟨ob, 0, none⟩) nu nu), (9, 0, .slice za ((stepsK l f l.length).length) zc), (10, 0, .int .i64 ((r : Nat) : Int)), (12, 0, .int .i64 ((nu : Nat) : Int)), (13, 0, .slice ea m ec), (14, 0, .slice fa q fc), (15, 0, .bool (rightB (nu : Int) l f)), (16, 0, .bool (!(rightB (nu : Int) l f))), (22, 0, .int .i64 ((r : Nat) : Int)), (23, 0, .int .i64 ((nu : Nat) : Int)), (24, 0, .bool (decide (((r : Nat) : Int) < ((nu : Nat) : Int)))), (11, 0, .int .i64 ((q_.1 : Nat) : Int))]) (fun q_ => [Item.own w0.heap.size (some ⟨ob, 0, none⟩) nu nu 3 1 (cellsOf encI (q_.2)), Item.own w0.heap.size za ((stepsK l f l.length).length) zc 74 6 (cellsOf encSp (stepsK l f l.length))]) (fun q_ => q_.1 ≤ (stepsK l f l.length).length ∧ q_.2 = ((stepsK l f l.length).take q_.1).foldl app C ∧ Bd nu (-((r : Int) * 17592186044416) - ((q_.1 : Nat) : Int) * 4294967296) q_.2) (fun q_ => (stepsK l f l.length).length - q_.1) 2 ((0, C)) (⟨Nat.zero_le _, rfl, hC.mono (by dsimp only; omega)⟩) ⟨rfl, rfl, rfl, rfl, rfl, rfl, rfl, rfl, rfl, rfl, rfl, rfl, rfl, rfl, rfl, rfl, rfl, rfl, rfl, rfl, rfl, rfl, rfl, rfl, rfl, rfl, rfl, rfl, rfl, rfl, rfl, rfl, rfl, rfl, trivial⟩ rfl ?_
      rintro ⟨j, D⟩ ⟨hj, hDf, hD⟩
      try dsimp only at *
      refine WC.seq ?_
      refine WC.seq ?_
      refine WC.region ?_
      refine SL.pure rfl rfl rfl (PureOp.move rfl) ?_
      refine SL.pure rfl rfl rfl (PureOp.move rfl) ?_
      refine SL.pure rfl rfl rfl (PureOp.len rfl Try.underlying70) ?_
      refine SL.pure rfl rfl rfl (PureOp.lss rfl rfl) ?_
      refine SL.nil_then ?_
      refine WC.cond rfl (fun h3 => ?_) (fun h3 => ?_)
      · try simp only [Bool.and_eq_true, Bool.or_eq_true, Bool.not_eq_true', Bool.not_eq_false', Bool.and_eq_false_iff, Bool.or_eq_false_iff, decide_eq_true_eq, decide_eq_false_iff_not, Int.not_lt, Int.not_le, ne_eq, Decidable.not_not] at h3
        have hSk := steps_ok_ hE hW (nth (stepsK l f l.length) j) (nth_mem (by omega))
        have hd1 := hD.bd (nth (stepsK l f l.length) j).1.toNat (by omega)
        have hd2 := hD.bd (nth (stepsK l f l.length) j).2.1.toNat (by omega)
        have hdl := hD.len
        refine WC.skip ?_
        refine QX.then_ ?_
        refine WC.seq ?_
        refine WC.block ?_
        refine WC.drawh ([Item.triv, Item.own w0.heap.size za ((stepsK l f l.length).length) zc 74 6 (cellsOf encSp (stepsK l f l.length))]) 31 [false, false, false, false, false, false, false, false, false, false, false, false, false, false, false, false, false, false, false, false, false, false, false, false, false, false, false, false, false, false, false] rfl rfl rfl ?_
        refine SD.take 0 [true, false, false, false, false, false, false, false, false, false, false, false, false, false, false, false, false, false, false, false, false, false, false, false, false, false, false, false, false, false, false] rfl (by kernel_rfl) rfl (fun _ h => (HeapOk.settriv h (i := 0) rfl)) rfl rfl rfl (PureOp.move rfl) ?_
        refine SD.take 1 [true, true, false, false, false, false, false, false, false, false, false, false, false, false, false, false, false, false, false, false, false, false, false, false, false, false, false, false, false, false, false] rfl (by kernel_rfl) rfl (fun _ h => (HeapOk.settriv h (i := 0) rfl)) rfl rfl rfl (PureOp.move rfl) ?_
        refine SD.take 2 [true, true, true, false, false, false, false, false, false, false, false, false, false, false, false, false, false, false, false, false, false, false, false, false, false, false, false, false, false, false, false] rfl (by kernel_rfl) rfl (fun _ h => (HeapOk.settriv h (i := 0) rfl)) rfl rfl rfl (PureOp.move rfl) ?_
        refine SD.take 3 [true, true, true, true, false, false, false, false, false, false, false, false, false, false, false, false, false, false, false, false, false, false, false, false, false, false, false, false, false, false, false] rfl (by kernel_rfl) rfl (fun _ h => (HeapOk.settriv h (i := 0) rfl)) rfl rfl rfl (PureOp.indexAddrN Try.underlying70 sz74 rfl rfl (AoOk.own 1 rfl) (fun _ => by omega)) ?_
        refine SD.take 4 [true, true, true, true, true, false, false, false, false, false, false, false, false, false, false, false, false, false, false, false, false, false, false, false, false, false, false, false, false, false, false] rfl (by kernel_rfl) rfl (fun _ h => (HeapOk.settriv h (i := 0) rfl)) rfl rfl rfl (PureOp.fieldAddr 1 Try.underlying74 rfl rfl sz3 rfl) ?_
        refine SD.take 5 [true, true, true, true, true, true, false, false, false, false, false, false, false, false, false, false, false, false, false, false, false, false, false, false, false, false, false, false, false, false, false] rfl (by kernel_rfl) rfl (fun _ h => (HeapOk.settriv h (i := 0) rfl)) rfl rfl rfl (PureOp.load (v := .int .i64 ((nth (stepsK l f l.length) j).2.1)) Try.underlying3 rfl rfl (fun _ => (CellIs.ownc 1 rfl j 1 (by first | exact encI_get (by omega) | exact cellsOf_get encSp_len _ _ _ (by omega) (by decide))))) ?_
        refine SD.take 6 [true, true, true, true, true, true, true, false, false, false, false, false, false, false, false, false, false, false, false, false, false, false, false, false, false, false, false, false, false, false, false] rfl (by kernel_rfl) rfl (fun _ h => (HeapOk.settriv h (i := 0) rfl)) rfl rfl rfl (PureOp.move rfl) ?_
        refine SD.take 7 [true, true, true, true, true, true, true, true, false, false, false, false, false, false, false, false, false, false, false, false, false, false, false, false, false, false, false, false, false, false, false] rfl (by kernel_rfl) rfl (fun _ h => (HeapOk.settriv h (i := 0) rfl)) rfl rfl rfl (PureOp.move rfl) ?_
        refine SD.take 8 [true, true, true, true, true, true, true, true, true, false, false, false, false, false, false, false, false, false, false, false, false, false, false, false, false, false, false, false, false, false, false] rfl (by kernel_rfl) rfl (fun _ h => (HeapOk.settriv h (i := 0) rfl)) rfl rfl rfl (PureOp.move rfl) ?_
        refine SD.take 9 [true, true, true, true, true, true, true, true, true, true, false, false, false, false, false, false, false, false, false, false, false, false, false, false, false, false, false, false, false, false, false] rfl (by kernel_rfl) rfl (fun _ h => (HeapOk.settriv h (i := 0) rfl)) rfl rfl rfl (PureOp.indexAddrN Try.underlying70 sz74 rfl rfl (AoOk.own 1 rfl) (fun _ => by omega)) ?_
        refine SD.take 10 [true, true, true, true, true, true, true, true, true, true, true, false, false, false, false, false, false, false, false, false, false, false, false, false, false, false, false, false, false, false, false] rfl (by kernel_rfl) rfl (fun _ h => (HeapOk.settriv h (i := 0) rfl)) rfl rfl rfl (PureOp.fieldAddr 1 Try.underlying74 rfl rfl sz3 rfl) ?_
        refine SD.take 11 [true, true, true, true, true, true, true, true, true, true, true, true, false, false, false, false, false, false, false, false, false, false, false, false, false, false, false, false, false, false, false] rfl (by kernel_rfl) rfl (fun _ h => (HeapOk.settriv h (i := 0) rfl)) rfl rfl rfl (PureOp.load (v := .int .i64 ((nth (stepsK l f l.length) j).2.1)) Try.underlying3 rfl rfl (fun _ => (CellIs.ownc 1 rfl j 1 (by first | exact encI_get (by omega) | exact cellsOf_get encSp_len _ _ _ (by omega) (by decide))))) ?_
        refine SD.take 12 [true, true, true, true, true, true, true, true, true, true, true, true, true, false, false, false, false, false, false, false, false, false, false, false, false, false, false, false, false, false, false] rfl (by kernel_rfl) rfl (fun _ h => (HeapOk.settriv h (i := 0) rfl)) rfl rfl rfl (PureOp.indexAddr Try.underlying29 sz3 rfl rfl AoOk.lit (fun _ => by omega)) ?_
        refine SD.take 14 [true, true, true, true, true, true, true, true, true, true, true, true, true, false, true, false, false, false, false, false, false, false, false, false, false, false, false, false, false, false, false] rfl (by kernel_rfl) rfl (fun _ h => (HeapOk.settriv h (i := 0) rfl)) rfl rfl rfl (PureOp.move rfl) ?_
        refine SD.take 15 [true, true, true, true, true, true, true, true, true, true, true, true, true, false, true, true, false, false, false, false, false, false, false, false, false, false, false, false, false, false, false] rfl (by kernel_rfl) rfl (fun _ h => (HeapOk.settriv h (i := 0) rfl)) rfl rfl rfl (PureOp.move rfl) ?_
        refine SD.take 16 [true, true, true, true, true, true, true, true, true, true, true, true, true, false, true, true, true, false, false, false, false, false, false, false, false, false, false, false, false, false, false] rfl (by kernel_rfl) rfl (fun _ h => (HeapOk.settriv h (i := 0) rfl)) rfl rfl rfl (PureOp.move rfl) ?_
        refine SD.take 17 [true, true, true, true, true, true, true, true, true, true, true, true, true, false, true, true, true, true, false, false, false, false, false, false, false, false, false, false, false, false, false] rfl (by kernel_rfl) rfl (fun _ h => (HeapOk.settriv h (i := 0) rfl)) rfl rfl rfl (PureOp.indexAddrN Try.underlying70 sz74 rfl rfl (AoOk.own 1 rfl) (fun _ => by omega)) ?_
        refine SD.take 18 [true, true, true, true, true, true, true, true, true, true, true, true, true, false, true, true, true, true, true, false, false, false, false, false, false, false, false, false, false, false, false] rfl (by kernel_rfl) rfl (fun _ h => (HeapOk.settriv h (i := 0) rfl)) rfl rfl rfl (PureOp.fieldAddr 0 Try.underlying74 rfl rfl sz3 rfl) ?_
        refine SD.take 19 [true, true, true, true, true, true, true, true, true, true, true, true, true, false, true, true, true, true, true, true, false, false, false, false, false, false, false, false, false, false, false] rfl (by kernel_rfl) rfl (fun _ h => (HeapOk.settriv h (i := 0) rfl)) rfl rfl rfl (PureOp.load (v := .int .i64 ((nth (stepsK l f l.length) j).1)) Try.underlying3 rfl rfl (fun _ => (CellIs.ownc 1 rfl j 0 (by first | exact encI_get (by omega) | exact cellsOf_get encSp_len _ _ _ (by omega) (by decide))))) ?_
        refine SD.take 20 [true, true, true, true, true, true, true, true, true, true, true, true, true, false, true, true, true, true, true, true, true, false, false, false, false, false, false, false, false, false, false] rfl (by kernel_rfl) rfl (fun _ h => (HeapOk.settriv h (i := 0) rfl)) rfl rfl rfl (PureOp.indexAddr Try.underlying29 sz3 rfl rfl AoOk.lit (fun _ => by omega)) ?_
        refine SD.take 22 [true, true, true, true, true, true, true, true, true, true, true, true, true, false, true, true, true, true, true, true, true, false, true, false, false, false, false, false, false, false, false] rfl (by kernel_rfl) rfl (fun _ h => (HeapOk.settriv h (i := 0) rfl)) rfl rfl rfl (PureOp.move rfl) ?_
        refine SD.take 23 [true, true, true, true, true, true, true, true, true, true, true, true, true, false, true, true, true, true, true, true, true, false, true, true, false, false, false, false, false, false, false] rfl (by kernel_rfl) rfl (fun _ h => (HeapOk.settriv h (i := 0) rfl)) rfl rfl rfl (PureOp.move rfl) ?_
        refine SD.take 24 [true, true, true, true, true, true, true, true, true, true, true, true, true, false, true, true, true, true, true, true, true, false, true, true, true, false, false, false, false, false, false] rfl (by kernel_rfl) rfl (fun _ h => (HeapOk.settriv h (i := 0) rfl)) rfl rfl rfl (PureOp.indexAddrN Try.underlying70 sz74 rfl rfl (AoOk.own 1 rfl) (fun _ => by omega)) ?_
        refine SD.take 25 [true, true, true, true, true, true, true, true, true, true, true, true, true, false, true, true, true, true, true, true, true, false, true, true, true, true, false, false, false, false, false] rfl (by kernel_rfl) rfl (fun _ h => (HeapOk.settriv h (i := 0) rfl)) rfl rfl rfl (PureOp.fieldAddr 2 Try.underlying74 rfl rfl sz3 rfl) ?_
        refine SD.take 26 [true, true, true, true, true, true, true, true, true, true, true, true, true, false, true, true, true, true, true, true, true, false, true, true, true, true, true, false, false, false, false] rfl (by kernel_rfl) rfl (fun _ h => (HeapOk.settriv h (i := 0) rfl)) rfl rfl rfl (PureOp.load (v := .int .i64 ((nth (stepsK l f l.length) j).2.2.1)) Try.underlying3 rfl rfl (fun _ => (CellIs.ownc 1 rfl j 2 (by first | exact encI_get (by omega) | exact cellsOf_get encSp_len _ _ _ (by omega) (by decide))))) ?_
        refine SD.all [13, 21] (by kernel_rfl) (by simp) ⟨⟨_, [true, true, true, true, true, true, true, true, true, true, true, true, true, true, true, true, true, true, true, true, true, false, true, true, true, true, true, false, false, false, false], rfl, rfl, ?_⟩, ⟨_, [true, true, true, true, true, true, true, true, true, true, true, true, true, false, true, true, true, true, true, true, true, true, true, true, true, true, true, false, false, false, false], rfl, rfl, ?_⟩, trivial⟩
        · skip
          refine SL.pure rfl rfl rfl (PureOp.load (v := .int .i64 (nth D (((nth (stepsK l f l.length) j).2.1).toNat))) Try.underlying3 rfl rfl (fun _ => (CellIs.ownc 0 rfl (((nth (stepsK l f l.length) j).2.1).toNat) 0 (by first | exact encI_get (by omega) | exact cellsOf_get encSp_len _ _ _ (by omega) (by decide))))) ?_
          refine SD.back (fun _ h => (HeapOk.settriv h (i := 0) rfl)) ?_
          refine SD.one 21 [true, true, true, true, true, true, true, true, true, true, true, true, true, true, true, true, true, true, true, true, true, true, true, true, true, true, true, false, false, false, false] (by kernel_rfl) rfl rfl ?_
          refine SL.pure rfl rfl rfl (PureOp.load (v := .int .i64 (nth D (((nth (stepsK l f l.length) j).1).toNat))) Try.underlying3 rfl rfl (fun _ => (CellIs.ownc 0 rfl (((nth (stepsK l f l.length) j).1).toNat) 0 (by first | exact encI_get (by omega) | exact cellsOf_get encSp_len _ _ _ (by omega) (by decide))))) ?_
          refine SD.back (fun _ h => (HeapOk.settriv h (i := 0) rfl)) ?_
          refine SD.take 27 [true, true, true, true, true, true, true, true, true, true, true, true, true, true, true, true, true, true, true, true, true, true, true, true, true, true, true, true, false, false, false] rfl (by kernel_rfl) rfl (fun _ h => (HeapOk.settriv h (i := 0) rfl)) rfl rfl rfl (PureOp.add rfl rfl (fun _ => by omega)) ?_
          refine SD.take 28 [true, true, true, true, true, true, true, true, true, true, true, true, true, true, true, true, true, true, true, true, true, true, true, true, true, true, true, true, true, false, false] rfl (by kernel_rfl) rfl (fun _ h => (HeapOk.settriv h (i := 0) rfl)) rfl rfl rfl (PureOp.min_ rfl rfl) ?_
          refine SD.take 29 [true, true, true, true, true, true, true, true, true, true, true, true, true, true, true, true, true, true, true, true, true, true, true, true, true, true, true, true, true, true, false] rfl (by kernel_rfl) rfl (fun _ h => (HeapOk.settriv h (i := 0) rfl)) rfl rfl rfl (PureOp.indexAddr Try.underlying29 sz3 rfl rfl AoOk.lit (fun _ => by omega)) ?_
          refine SD.one 30 [true, true, true, true, true, true, true, true, true, true, true, true, true, true, true, true, true, true, true, true, true, true, true, true, true, true, true, true, true, true, true] (by kernel_rfl) rfl rfl ?_
          refine SL.storeown (k := (((nth (stepsK l f l.length) j).2.1).toNat)) (j := 0) 0 rfl rfl rfl rfl sz3 (by rw [cellsOf_length encI_len]; omega) rfl ?_
          refine SL.itemxs 0 rfl (show _ = cellsOf encI (app D (nth (stepsK l f l.length) j)) from encI_set (by omega)) ?_
          refine SL.norm [_, _] rfl ?_
          refine SD.back (fun _ h => (HeapOk.settriv h (i := 0) rfl)) ?_
          refine SD.done (by kernel_rfl) ?_
          refine QX.ofK ?_
          refine QX.normal_in ?_
          refine QX.then_ ?_
          refine WC.region ?_
          refine SL.pure rfl rfl rfl (PureOp.move rfl) ?_
          refine SL.pure rfl rfl rfl (PureOp.addN (k := 1) rfl rfl (fun _ => by omega)) ?_
          refine SL.pure rfl rfl rfl (PureOp.assign rfl) ?_
          refine SL.nil ?_
          refine QX.round (σ := Nat × List Int) (Ef := fun q_ => [(0, 0, .int .i64 ((nu : Nat) : Int)), (1, 0, .slice ea m ec), (2, 0, .slice fa q fc), (6, 0, .slice none 0 0), (7, 0, .bool false), (8, 0, .slice (some ⟨ob, 0, none⟩) nu nu), (9, 0, .slice za ((stepsK l f l.length).length) zc), (10, 0, .int .i64 ((r : Nat) : Int)), (12, 0, .int .i64 ((nu : Nat) : Int)), (13, 0, .slice ea m ec), (14, 0, .slice fa q fc), (15, 0, .bool (rightB (nu : Int) l f)), (16, 0, .bool (!(rightB (nu : Int) l f))), (22, 0, .int .i64 ((r : Nat) : Int)), (23, 0, .int .i64 ((nu : Nat) : Int)), (24, 0, .bool (decide (((r : Nat) : Int) < ((nu : Nat) : Int)))), (11, 0, .int .i64 ((q_.1 : Nat) : Int))]) (Hf := fun q_ => [Item.own w0.heap.size (some ⟨ob, 0, none⟩) nu nu 3 1 (cellsOf encI (q_.2)), Item.own w0.heap.size za ((stepsK l f l.length).length) zc 74 6 (cellsOf encSp (stepsK l f l.length))]) (I := fun q_ => q_.1 ≤ (stepsK l f l.length).length ∧ q_.2 = ((stepsK l f l.length).take q_.1).foldl app C ∧ Bd nu (-((r : Int) * 17592186044416) - ((q_.1 : Nat) : Int) * 4294967296) q_.2) (μ := fun q_ => (stepsK l f l.length).length - q_.1) (s := (j, D)) 2 ((j + 1, app D (nth (stepsK l f l.length) j))) ⟨⟨(by first | omega | (dsimp only; omega)), by rw [fold_take (by omega), ← hDf], (app_bd hD (by omega) (by omega)).mono (by dsimp only; omega)⟩, by first | omega | (dsimp only; omega)⟩ ⟨rfl, rfl, rfl, rfl, rfl, rfl, rfl, rfl, rfl, rfl, rfl, rfl, rfl, rfl, rfl, rfl, rfl, rfl, rfl, rfl, rfl, rfl, rfl, rfl, rfl, rfl, rfl, rfl, rfl, rfl, rfl, rfl, rfl, rfl, trivial⟩ rfl
        · skip
          refine SL.pure rfl rfl rfl (PureOp.load (v := .int .i64 (nth D (((nth (stepsK l f l.length) j).1).toNat))) Try.underlying3 rfl rfl (fun _ => (CellIs.ownc 0 rfl (((nth (stepsK l f l.length) j).1).toNat) 0 (by first | exact encI_get (by omega) | exact cellsOf_get encSp_len _ _ _ (by omega) (by decide))))) ?_
          refine SD.back (fun _ h => (HeapOk.settriv h (i := 0) rfl)) ?_
          refine SD.take 27 [true, true, true, true, true, true, true, true, true, true, true, true, true, false, true, true, true, true, true, true, true, true, true, true, true, true, true, true, false, false, false] rfl (by kernel_rfl) rfl (fun _ h => (HeapOk.settriv h (i := 0) rfl)) rfl rfl rfl (PureOp.add rfl rfl (fun _ => by omega)) ?_
          refine SD.one 13 [true, true, true, true, true, true, true, true, true, true, true, true, true, true, true, true, true, true, true, true, true, true, true, true, true, true, true, true, false, false, false] (by kernel_rfl) rfl rfl ?_
          refine SL.pure rfl rfl rfl (PureOp.load (v := .int .i64 (nth D (((nth (stepsK l f l.length) j).2.1).toNat))) Try.underlying3 rfl rfl (fun _ => (CellIs.ownc 0 rfl (((nth (stepsK l f l.length) j).2.1).toNat) 0 (by first | exact encI_get (by omega) | exact cellsOf_get encSp_len _ _ _ (by omega) (by decide))))) ?_
          refine SD.back (fun _ h => (HeapOk.settriv h (i := 0) rfl)) ?_
          refine SD.take 28 [true, true, true, true, true, true, true, true, true, true, true, true, true, true, true, true, true, true, true, true, true, true, true, true, true, true, true, true, true, false, false] rfl (by kernel_rfl) rfl (fun _ h => (HeapOk.settriv h (i := 0) rfl)) rfl rfl rfl (PureOp.min_ rfl rfl) ?_
          refine SD.take 29 [true, true, true, true, true, true, true, true, true, true, true, true, true, true, true, true, true, true, true, true, true, true, true, true, true, true, true, true, true, true, false] rfl (by kernel_rfl) rfl (fun _ h => (HeapOk.settriv h (i := 0) rfl)) rfl rfl rfl (PureOp.indexAddr Try.underlying29 sz3 rfl rfl AoOk.lit (fun _ => by omega)) ?_
          refine SD.one 30 [true, true, true, true, true, true, true, true, true, true, true, true, true, true, true, true, true, true, true, true, true, true, true, true, true, true, true, true, true, true, true] (by kernel_rfl) rfl rfl ?_
          refine SL.storeown (k := (((nth (stepsK l f l.length) j).2.1).toNat)) (j := 0) 0 rfl rfl rfl rfl sz3 (by rw [cellsOf_length encI_len]; omega) rfl ?_
          refine SL.itemxs 0 rfl (show _ = cellsOf encI (app D (nth (stepsK l f l.length) j)) from encI_set (by omega)) ?_
          refine SL.norm [_, _] rfl ?_
          refine SD.back (fun _ h => (HeapOk.settriv h (i := 0) rfl)) ?_
          refine SD.done (by kernel_rfl) ?_
          refine QX.ofK ?_
          refine QX.normal_in ?_
          refine QX.then_ ?_
          refine WC.region ?_
          refine SL.pure rfl rfl rfl (PureOp.move rfl) ?_
          refine SL.pure rfl rfl rfl (PureOp.addN (k := 1) rfl rfl (fun _ => by omega)) ?_
          refine SL.pure rfl rfl rfl (PureOp.assign rfl) ?_
          refine SL.nil ?_
          refine QX.round (σ := Nat × List Int) (Ef := fun q_ => [(0, 0, .int .i64 ((nu : Nat) : Int)), (1, 0, .slice ea m ec), (2, 0, .slice fa q fc), (6, 0, .slice none 0 0), (7, 0, .bool false), (8, 0, .slice (some ⟨ob, 0, none⟩) nu nu), (9, 0, .slice za ((stepsK l f l.length).length) zc), (10, 0, .int .i64 ((r : Nat) : Int)), (12, 0, .int .i64 ((nu : Nat) : Int)), (13, 0, .slice ea m ec), (14, 0, .slice fa q fc), (15, 0, .bool (rightB (nu : Int) l f)), (16, 0, .bool (!(rightB (nu : Int) l f))), (22, 0, .int .i64 ((r : Nat) : Int)), (23, 0, .int .i64 ((nu : Nat) : Int)), (24, 0, .bool (decide (((r : Nat) : Int) < ((nu : Nat) : Int)))), (11, 0, .int .i64 ((q_.1 : Nat) : Int))]) (Hf := fun q_ => [Item.own w0.heap.size (some ⟨ob, 0, none⟩) nu nu 3 1 (cellsOf encI (q_.2)), Item.own w0.heap.size za ((stepsK l f l.length).length) zc 74 6 (cellsOf encSp (stepsK l f l.length))]) (I := fun q_ => q_.1 ≤ (stepsK l f l.length).length ∧ q_.2 = ((stepsK l f l.length).take q_.1).foldl app C ∧ Bd nu (-((r : Int) * 17592186044416) - ((q_.1 : Nat) : Int) * 4294967296) q_.2) (μ := fun q_ => (stepsK l f l.length).length - q_.1) (s := (j, D)) 2 ((j + 1, app D (nth (stepsK l f l.length) j))) ⟨⟨(by first | omega | (dsimp only; omega)), by rw [fold_take (by omega), ← hDf], (app_bd hD (by omega) (by omega)).mono (by dsimp only; omega)⟩, by first | omega | (dsimp only; omega)⟩ ⟨rfl, rfl, rfl, rfl, rfl, rfl, rfl, rfl, rfl, rfl, rfl, rfl, rfl, rfl, rfl, rfl, rfl, rfl, rfl, rfl, rfl, rfl, rfl, rfl, rfl, rfl, rfl, rfl, rfl, rfl, rfl, rfl, rfl, rfl, trivial⟩ rfl
      · try simp only [Bool.and_eq_true, Bool.or_eq_true, Bool.not_eq_true', Bool.not_eq_false', Bool.and_eq_false_iff, Bool.or_eq_false_iff, decide_eq_true_eq, decide_eq_false_iff_not, Int.not_lt, Int.not_le, ne_eq, Decidable.not_not] at h3
        have ej : j = (stepsK l f l.length).length := by omega
        refine WC.exit ?_
        refine QX.exit_then ?_
        refine QX.exit_then ?_
        refine QX.exit_hit ?_
        refine QX.normal_in ?_
        refine QX.then_ ?_
        refine WC.region ?_
        refine SL.pure rfl rfl rfl (PureOp.move rfl) ?_
        refine SL.pure rfl rfl rfl (PureOp.addN (k := 1) rfl rfl (fun _ => by omega)) ?_
        refine SL.pure rfl rfl rfl (PureOp.assign rfl) ?_
        refine SL.nil ?_
        refine QX.round (σ := Nat × List Int) (Ef := fun q_ => [(0, 0, .int .i64 ((nu : Nat) : Int)), (1, 0, .slice ea m ec), (2, 0, .slice fa q fc), (6, 0, .slice none 0 0), (7, 0, .bool false), (8, 0, .slice (some ⟨ob, 0, none⟩) nu nu), (9, 0, .slice za ((stepsK l f l.length).length) zc), (12, 0, .int .i64 ((nu : Nat) : Int)), (13, 0, .slice ea m ec), (14, 0, .slice fa q fc), (15, 0, .bool (rightB (nu : Int) l f)), (16, 0, .bool (!(rightB (nu : Int) l f))), (10, 0, .int .i64 ((q_.1 : Nat) : Int))]) (Hf := fun q_ => [Item.own w0.heap.size (some ⟨ob, 0, none⟩) nu nu 3 1 (cellsOf encI (q_.2)), Item.own w0.heap.size za ((stepsK l f l.length).length) zc 74 6 (cellsOf encSp (stepsK l f l.length))]) (I := fun q_ => q_.1 ≤ nu ∧ q_.2 = rndK l f nu q_.1 ∧ Bd nu (-(((q_.1 : Nat) : Int) * 17592186044416)) q_.2) (μ := fun q_ => nu - q_.1) (s := (r, C)) 2 ((r + 1, D)) ⟨⟨(by first | omega | (dsimp only; omega)), by rw [rndK, ← hrk, hDf, ej, List.take_length], hD.mono (by dsimp only; omega)⟩, by first | omega | (dsimp only; omega)⟩ ⟨rfl, rfl, rfl, rfl, rfl, rfl, rfl, rfl, rfl, rfl, rfl, rfl, rfl, rfl, rfl, rfl, rfl, rfl, rfl, rfl, rfl, rfl, rfl, rfl, rfl, rfl, trivial⟩ rfl
    · try simp only [Bool.and_eq_true, Bool.or_eq_true, Bool.not_eq_true', Bool.not_eq_false', Bool.and_eq_false_iff, Bool.or_eq_false_iff, decide_eq_true_eq, decide_eq_false_iff_not, Int.not_lt, Int.not_le, ne_eq, Decidable.not_not] at h2
      have er : r = nu := by omega
      have hCl := hC.len
      refine WC.exit ?_
      refine QX.exit_then ?_
      refine QX.exit_then ?_
      refine QX.exit_hit ?_
      refine QX.then_ ?_
      refine WC.seq ?_
      refine WC.seq ?_
      refine WC.region ?_
      refine SL.pure rfl rfl rfl (PureOp.move rfl) ?_
      refine SL.pure rfl rfl rfl (PureOp.move rfl) ?_
      refine SL.pure rfl rfl rfl (PureOp.move rfl) ?_
      refine SL.pure rfl rfl rfl (PureOp.move rfl) ?_
      refine SL.calle rfl rfl rfl rfl rfl rfl callable24 (fun w hw => rproves_ok nu l ea m ec hm f fa q fc hq C (some ⟨ob, 0, none⟩) nu nu hCl.symm w (sE.below hw.below) (sF.below hw.below) (SliceIn.rows (l := C) (hw.mem (i := 0) rfl) encI_len (by omega))) ?_
      refine SL.norm [_, _] rfl ?_
      refine SL.pure rfl rfl rfl (PureOp.not rfl) ?_
      refine SL.nil_then ?_
      refine WC.cond rfl (fun h4 => ?_) (fun h4 => ?_)
      · try simp only [Bool.and_eq_true, Bool.or_eq_true, Bool.not_eq_true', Bool.not_eq_false', Bool.and_eq_false_iff, Bool.or_eq_false_iff, decide_eq_true_eq, decide_eq_false_iff_not, Int.not_lt, Int.not_le, ne_eq, Decidable.not_not] at h4
        refine WC.seq ?_
        refine WC.region ?_
        refine SL.pure rfl rfl rfl (PureOp.assign rfl) ?_
        refine SL.pure rfl rfl rfl (PureOp.assign rfl) ?_
        refine SL.nil_then ?_
        refine WC.ret ?_
        refine QX.ret_then ?_
        refine QX.ret2 rfl rfl rfl ?_
        intro w hw
        have eC : rndK l f nu nu = C := by rw [hrk, er]
        have e : rpricesF (nu : Int) l f = ([], false) := if_neg (by intro hx; have h5 := hx.2; rw [show (nu : Int).toNat = nu from rfl, eC, h4] at h5; cases h5)
        rw [e]
        exact ⟨none, 0, rfl, ownsRow_nil⟩
      · try simp only [Bool.and_eq_true, Bool.or_eq_true, Bool.not_eq_true', Bool.not_eq_false', Bool.and_eq_false_iff, Bool.or_eq_false_iff, decide_eq_true_eq, decide_eq_false_iff_not, Int.not_lt, Int.not_le, ne_eq, Decidable.not_not] at h4
        refine WC.skip ?_
        refine QX.then_ ?_
        refine WC.seq ?_
        refine WC.region ?_
        refine SL.pure rfl rfl rfl (PureOp.move rfl) ?_
        refine SL.pure rfl rfl rfl (PureOp.assign rfl) ?_
        refine SL.pure rfl rfl rfl (PureOp.assign rfl) ?_
        refine SL.nil_then ?_
        refine WC.ret ?_
        refine QX.ret2 rfl rfl rfl ?_
        intro w hw
        have eC : rndK l f nu nu = C := by rw [hrk, er]
        have e : rpricesF (nu : Int) l f = (C, true) := by
          rw [rpricesF, show (nu : Int).toNat = nu from rfl, eC]
          exact if_pos ⟨h1, h4⟩
        rw [e, show (C, true).1.length = nu from hCl]
        exact ⟨_, _, rfl, hw.mem (i := 0) rfl⟩

end Go.Proofs.Ytngkbnaehkailaa
