import Derived.Test.YtblgllngkbjfgaaNeK
namespace Go.Proofs.Ytblgllngkbjfgaa
open Go Go.RowKit Eng
set_option linter.unusedVariables false
set_option linter.unusedSimpArgs false

set_option maxHeartbeats 4000000 in
set_option maxRecDepth 100000 in
theorem cabins_ok (nm eq : ByteArray) (se ov : Int) (cl : List Cl) (ac az : Option Addr) (cc cz : Nat) (hcb : cl.length ≤ 30) (hnm : nm.size ≤ maxLen) (hcs : ∀ i, i < cl.length → (nth cl i).1.size ≤ maxLen) (p : ByteArray) (hp : p.size ≤ 400) (w0 : World) (hz : SliceIn w0 4 az 1 cz (rowsF enc24 [(nm, se, ov, (⟨ac, cc, cl⟩ : SliceV Cl))])) (hc : SliceIn w0 2 ac cl.length cc (rowsF enc47 cl)) : FnC Try.prog 32 [.agg #[.string eq, .slice az 1 cz], .string p] w0 fun v w' => ∃ fs a c, v = .slice a fs.length c ∧ w'.ownsRow w0.heap.size 54 2 (.slice a fs.length c) fs.length (cellsOf enc54 fs) ∧ fs.length ≤ 100 ∧ (fs = [] → (inR se ov = true ∧ 1 ≤ cl.length ∧ cl.length ≤ 26 ∧ (∀ j, j < cl.length → (0 ≤ (nth cl j).2 ∧ (0 < j → (nth cl (j - 1)).2 ≤ (nth cl j).2) ∧ (inR se ov = true → (nth cl j).2 ≤ se + ov))))) := by
  refine fnc (N := 88) Try.func32 rfl rfl rfl ?_
  refine WC.seq ?_
  refine WC.region ?_
  refine SL.box rfl rfl rfl (fun b1 hb1 => ?_)
  refine SL.pure rfl rfl rfl (PureOp.assign rfl) ?_
  refine SL.nil_then ?_
  refine WC.seq ?_
  refine WC.region ?_
  refine SL.addnil 54 2 ?_
  refine SL.pure rfl rfl rfl (PureOp.assign rfl) ?_
  refine SL.nil_then ?_
  refine WC.seq ?_
  refine WC.seq ?_
  refine WC.region ?_
  refine SL.pure rfl rfl rfl (PureOp.assign rfl) ?_
  refine SL.nil_then ?_
  refine WC.block ?_
  refine WC.loop (σ := Nat × Nat × Option Addr × Nat × List Flt) (fun q_ => [(0, 0, .agg #[.string eq, .slice az 1 cz]), (1, 0, .string p), (2, 0, .pointer (some ⟨b1, 0, none⟩)), (4, 0, .slice none 0 0), (6, 0, .int .i64 ((q_.1 : Nat) : Int)), (5, 0, .slice q_.2.2.1 q_.2.1 q_.2.2.2.1)]) (fun q_ => [Item.cells b1 [.string eq, .slice az 1 cz] 44, Item.own w0.heap.size q_.2.2.1 q_.2.1 q_.2.2.2.1 54 2 (cellsOf enc54 (q_.2.2.2.2))]) (fun q_ => q_.1 ≤ 1 ∧ q_.2.1 = q_.2.2.2.2.length ∧ q_.2.1 ≤ 100 * q_.1 ∧ (q_.2.2.2.2 = [] → 0 < q_.1 → (inR se ov = true ∧ 1 ≤ cl.length ∧ cl.length ≤ 26 ∧ (∀ j, j < cl.length → (0 ≤ (nth cl j).2 ∧ (0 < j → (nth cl (j - 1)).2 ≤ (nth cl j).2) ∧ (inR se ov = true → (nth cl j).2 ≤ se + ov)))))) (fun q_ => 1 - q_.1) 2 ((0, 0, none, 0, [])) (⟨by decide, rfl, by decide, fun _ h => absurd h (by decide)⟩) ⟨rfl, rfl, rfl, rfl, rfl, rfl, rfl, rfl, rfl, rfl, rfl, rfl, trivial⟩ rfl ?_
  rintro ⟨ii, m, a, c, fs⟩ ⟨hk, hm, hm3, hI⟩
  try dsimp only at *
  refine WC.seq ?_
  refine WC.seq ?_
  refine WC.region ?_
  refine SL.pure rfl rfl rfl (PureOp.move rfl) ?_
  refine SL.pure rfl rfl rfl (PureOp.fieldAddrT 1 Try.underlying44 rfl sz42 rfl rfl) ?_
  refine SL.pure rfl rfl rfl (PureOp.load (v := .slice az 1 cz) Try.underlying42 rfl rfl (fun _ => (CellIs.cells 0 rfl rfl))) ?_
  refine SL.pure rfl rfl rfl (PureOp.len rfl Try.underlying42) ?_
  refine SL.pure rfl rfl rfl (PureOp.lss rfl rfl) ?_
  refine SL.nil_then ?_
  refine WC.cond rfl (fun h1 => ?_) (fun h1 => ?_)
  · try simp only [Bool.and_eq_true, Bool.or_eq_true, Bool.not_eq_true', Bool.not_eq_false', Bool.and_eq_false_iff, Bool.or_eq_false_iff, decide_eq_true_eq, decide_eq_false_iff_not, Int.not_lt, Int.not_le, ne_eq, Decidable.not_not] at h1
    obtain rfl : ii = 0 := by omega
    refine WC.skip ?_
    refine QX.then_ ?_
    refine WC.seq ?_
    refine WC.block ?_
    refine WC.cutx (σ := Nat) (fun q_ => [(0, 0, .agg #[.string eq, .slice az 1 cz]), (1, 0, .string p), (2, 0, .pointer (some ⟨b1, 0, none⟩)), (4, 0, .slice none 0 0), (5, 0, .slice a m c), (6, 0, .int .i64 0), (11, 0, .int .i64 0), (12, 0, .pointer (some ⟨b1, 1, none⟩)), (13, 0, .slice az 1 cz), (14, 0, .int .i64 1), (15, 0, .bool (decide (((0 : Nat) : Int) < (1 : Int)))), (7, 0, .string (placeS p ⟨#[99, 97, 98, 105, 110]⟩ ((0 : Nat) : Int))), (8, 0, .pointer (some ⟨q_, 0, none⟩)), (9, 0, .bool false)]) (fun q_ => [Item.cells b1 [.string eq, .slice az 1 cz] 44, Item.own w0.heap.size a m c 54 2 (cellsOf enc54 (fs)), Item.cells q_ [.string nm, .int .i64 se, .int .i64 ov, .slice ac cl.length cc] 24]) (fun q_ => True) ?_ ?_
    · skip
      refine WC.drawH 12 [false, false, false, false, false, false, false, false, false, false, false, false] rfl rfl rfl ?_
      refine SD.take 0 [true, false, false, false, false, false, false, false, false, false, false, false] rfl (by kernel_rfl) rfl (fun _ h => h) rfl rfl rfl (PureOp.move rfl) ?_
      refine SD.take 1 [true, true, false, false, false, false, false, false, false, false, false, false] rfl (by kernel_rfl) rfl (fun _ h => h) rfl rfl rfl (PureOp.move rfl) ?_
      refine SD.take 3 [true, true, false, true, false, false, false, false, false, false, false, false] rfl (by kernel_rfl) rfl (fun _ h => h) rfl rfl rfl (PureOp.fieldAddrT 1 Try.underlying44 rfl sz42 rfl rfl) ?_
      refine SD.take 4 [true, true, false, true, true, false, false, false, false, false, false, false] rfl (by kernel_rfl) rfl (fun _ h => h) rfl rfl rfl (PureOp.load (v := .slice az 1 cz) Try.underlying42 rfl rfl (fun _ => (CellIs.cells 0 rfl rfl))) ?_
      refine SD.take 5 [true, true, false, true, true, true, false, false, false, false, false, false] rfl (by kernel_rfl) rfl (fun _ h => h) rfl rfl rfl (PureOp.move rfl) ?_
      refine SD.take 6 [true, true, false, true, true, true, true, false, false, false, false, false] rfl (by kernel_rfl) rfl (fun _ h => h) rfl rfl rfl (PureOp.indexAddr Try.underlying42 sz24 rfl rfl (AoOk.in_ hz) (fun _ => by omega)) ?_
      refine SD.take 7 [true, true, false, true, true, true, true, true, false, false, false, false] rfl (by kernel_rfl) rfl (fun _ h => h) rfl rfl rfl (PureOp.loads (vs := [.string nm, .int .i64 se, .int .i64 ov, .slice ac cl.length cc]) Try.underlying24 rfl rfl (fun _ => (RowIs.in_ hz (0 : Int).toNat 0 4 (by omega) (by omega))) sz24) ?_
      refine SD.all [2, 8] (by kernel_rfl) (by simp) ⟨⟨_, [true, true, true, true, true, true, true, true, false, false, false, false], rfl, rfl, ?_⟩, ⟨_, [true, true, false, true, true, true, true, true, true, false, false, false], rfl, rfl, ?_⟩, trivial⟩
      · skip
        refine SL.calle rfl rfl rfl rfl rfl rfl callable30 (fun w hw => place_ok p (⟨#[99, 97, 98, 105, 110]⟩) (by omega) (by decide) 0 (by omega) w) ?_
        refine SD.back (fun _ h => h) ?_
        refine SD.one 8 [true, true, true, true, true, true, true, true, true, false, false, false] (by kernel_rfl) rfl rfl ?_
        refine SL.alloc rfl rfl zero24 (fun b2 hb2 => ?_)
        refine SD.back (fun _ h => HeapOk.take h 2) ?_
        refine SD.take 9 [true, true, true, true, true, true, true, true, true, true, false, false] rfl (by kernel_rfl) rfl (fun _ h => HeapOk.take h 2) rfl rfl rfl (PureOp.assign rfl) ?_
        refine SD.one 10 [true, true, true, true, true, true, true, true, true, true, true, false] (by kernel_rfl) rfl rfl ?_
        refine SL.store 2 rfl rfl rfl rfl sz24 rfl rfl ?_
        refine SD.back (fun _ h => HeapOk.take h 2) ?_
        refine SD.take 11 [true, true, true, true, true, true, true, true, true, true, true, true] rfl (by kernel_rfl) rfl (fun _ h => HeapOk.take h 2) rfl rfl rfl (PureOp.assign rfl) ?_
        refine SD.done (by kernel_rfl) ?_
        refine QX.ofK ?_
        refine QX.cutx 3 (b2) (trivial) ⟨rfl, rfl, rfl, rfl, rfl, rfl, rfl, rfl, rfl, rfl, rfl, rfl, rfl, rfl, rfl, rfl, rfl, rfl, rfl, rfl, rfl, rfl, rfl, rfl, rfl, rfl, rfl, rfl, trivial⟩ rfl
      · skip
        refine SL.alloc rfl rfl zero24 (fun b3 hb3 => ?_)
        refine SD.back (fun _ h => HeapOk.take h 2) ?_
        refine SD.one 2 [true, true, true, true, true, true, true, true, true, false, false, false] (by kernel_rfl) rfl rfl ?_
        refine SL.calle rfl rfl rfl rfl rfl rfl callable30 (fun w hw => place_ok p (⟨#[99, 97, 98, 105, 110]⟩) (by omega) (by decide) 0 (by omega) w) ?_
        refine SD.back (fun _ h => HeapOk.take h 2) ?_
        refine SD.take 9 [true, true, true, true, true, true, true, true, true, true, false, false] rfl (by kernel_rfl) rfl (fun _ h => HeapOk.take h 2) rfl rfl rfl (PureOp.assign rfl) ?_
        refine SD.one 10 [true, true, true, true, true, true, true, true, true, true, true, false] (by kernel_rfl) rfl rfl ?_
        refine SL.store 2 rfl rfl rfl rfl sz24 rfl rfl ?_
        refine SD.back (fun _ h => HeapOk.take h 2) ?_
        refine SD.take 11 [true, true, true, true, true, true, true, true, true, true, true, true] rfl (by kernel_rfl) rfl (fun _ h => HeapOk.take h 2) rfl rfl rfl (PureOp.assign rfl) ?_
        refine SD.done (by kernel_rfl) ?_
        refine QX.ofK ?_
        refine QX.cutx 3 (b3) (trivial) ⟨rfl, rfl, rfl, rfl, rfl, rfl, rfl, rfl, rfl, rfl, rfl, rfl, rfl, rfl, rfl, rfl, rfl, rfl, rfl, rfl, rfl, rfl, rfl, rfl, rfl, rfl, rfl, rfl, trivial⟩ rfl
    rintro b _
    refine WC.seq ?_
    refine WC.seq ?_
    refine WC.region ?_
    refine SL.pure rfl rfl rfl (PureOp.assign rfl) ?_
    refine SL.nil_then ?_
    refine WC.block ?_
    refine WC.loop (σ := Nat) (fun q_ => [(0, 0, .agg #[.string eq, .slice az 1 cz]), (1, 0, .string p), (2, 0, .pointer (some ⟨b1, 0, none⟩)), (4, 0, .slice none 0 0), (5, 0, .slice a m c), (6, 0, .int .i64 0), (7, 0, .string (placeS p ⟨#[99, 97, 98, 105, 110]⟩ ((0 : Nat) : Int))), (8, 0, .pointer (some ⟨b, 0, none⟩)), (11, 0, .int .i64 0), (12, 0, .pointer (some ⟨b1, 1, none⟩)), (13, 0, .slice az 1 cz), (14, 0, .int .i64 1), (15, 0, .bool (decide (((0 : Nat) : Int) < (1 : Int)))), (10, 0, .int .i64 ((q_ : Nat) : Int)), (9, 0, .bool false)]) (fun q_ => [Item.cells b1 [.string eq, .slice az 1 cz] 44, Item.own w0.heap.size a m c 54 2 (cellsOf enc54 (fs)), Item.cells b [.string nm, .int .i64 se, .int .i64 ov, .slice ac cl.length cc] 24]) (fun q_ => q_ ≤ 0) (fun q_ => 0 - q_) 3 (0) (Nat.le_refl _) ⟨rfl, rfl, rfl, rfl, rfl, rfl, rfl, rfl, rfl, rfl, rfl, rfl, rfl, rfl, rfl, rfl, rfl, rfl, rfl, rfl, rfl, rfl, rfl, rfl, rfl, rfl, rfl, rfl, rfl, rfl, trivial⟩ rfl ?_
    rintro q hq
    refine WC.seq ?_
    refine WC.seq ?_
    refine WC.region ?_
    refine SL.pure rfl rfl rfl (PureOp.move rfl) ?_
    refine SL.pure rfl rfl rfl (PureOp.move rfl) ?_
    refine SL.pure rfl rfl rfl (PureOp.lss rfl rfl) ?_
    refine SL.nil_then ?_
    refine WC.cond rfl (fun h2 => ?_) (fun h2 => ?_)
    · try simp only [Bool.and_eq_true, Bool.or_eq_true, Bool.not_eq_true', Bool.not_eq_false', Bool.and_eq_false_iff, Bool.or_eq_false_iff, decide_eq_true_eq, decide_eq_false_iff_not, Int.not_lt, Int.not_le, ne_eq, Decidable.not_not] at h2
      exact absurd h2 (by omega)
    · try simp only [Bool.and_eq_true, Bool.or_eq_true, Bool.not_eq_true', Bool.not_eq_false', Bool.and_eq_false_iff, Bool.or_eq_false_iff, decide_eq_true_eq, decide_eq_false_iff_not, Int.not_lt, Int.not_le, ne_eq, Decidable.not_not] at h2
      refine WC.exit ?_
      refine QX.exit_then ?_
      refine QX.exit_then ?_
      refine QX.exit_hit ?_
      refine QX.then_ ?_
      refine WC.seq ?_
      refine WC.seq ?_
      refine WC.region ?_
      refine SL.pure rfl rfl rfl (PureOp.fieldAddrT 0 Try.underlying24 rfl sz9 rfl rfl) ?_
      refine SL.pure rfl rfl rfl (PureOp.load (v := .string nm) Try.underlying9 rfl rfl (fun _ => (CellIs.cells 2 rfl rfl))) ?_
      refine SL.calle rfl rfl rfl rfl rfl rfl callable31 (fun w hw => code_ok nm (by have q2 := maxLen_le; omega) 1 8 w) ?_
      refine SL.pure rfl rfl rfl (PureOp.not rfl) ?_
      refine SL.nil_then ?_
      refine WC.cond rfl (fun h3 => ?_) (fun h3 => ?_)
      · try simp only [Bool.and_eq_true, Bool.or_eq_true, Bool.not_eq_true', Bool.not_eq_false', Bool.and_eq_false_iff, Bool.or_eq_false_iff, decide_eq_true_eq, decide_eq_false_iff_not, Int.not_lt, Int.not_le, ne_eq, Decidable.not_not] at h3
        refine WC.region ?_
        refine SL.pure rfl rfl rfl (PureOp.move rfl) ?_
        refine SL.pure rfl rfl rfl (PureOp.move rfl) ?_
        refine SL.pure rfl rfl rfl (PureOp.build bld54 rfl rfl) ?_
        refine SL.buildSlice rfl rfl Try.underlying40 elem54 rfl rfl rfl rfl (fun b4 hb4 => ?_)
        refine SL.append 1 rfl rfl Try.underlying40 elem54 rfl rfl rfl rfl (SrcIs.own 3 rfl) (by rfl) (by omega) (by omega) (fun ao1_ cap1_ => ?_)
        refine SL.itemxs 1 rfl (show _ = cellsOf enc54 (fs ++ [(5, (placeS p ⟨#[99, 97, 98, 105, 110]⟩ ((0 : Nat) : Int)))]) from by rw [cellsOf_append (l := fs), cellsOf_one]; rfl) ?_
        refine SL.pure rfl rfl rfl (PureOp.assign rfl) ?_
        refine SL.nil_then ?_
        refine WC.seq ?_
        refine WC.seq ?_
        refine WC.region ?_
        refine SL.pure rfl rfl rfl (PureOp.move rfl) ?_
        refine SL.nil_then ?_
        refine WC.condF rfl ?_
        refine WC.skip ?_
        refine QX.then_ ?_
        refine WC.seq ?_
        refine WC.seq ?_
        refine WC.region ?_
        refine SL.pure rfl rfl rfl (PureOp.loads (vs := [.string nm, .int .i64 se, .int .i64 ov, .slice ac cl.length cc]) Try.underlying24 rfl rfl (fun _ => (RowIs.cells 2 0 4 rfl rfl)) sz24) ?_
        refine SL.calle rfl rfl rfl rfl rfl rfl callable41 (fun w hw => inrange_ok nm se ov cl ac cl.length cc rfl (by omega) w) ?_
        refine SL.pure rfl rfl rfl (PureOp.not rfl) ?_
        refine SL.nil_then ?_
        refine WC.cond rfl (fun h4 => ?_) (fun h4 => ?_)
        · try simp only [Bool.and_eq_true, Bool.or_eq_true, Bool.not_eq_true', Bool.not_eq_false', Bool.and_eq_false_iff, Bool.or_eq_false_iff, decide_eq_true_eq, decide_eq_false_iff_not, Int.not_lt, Int.not_le, ne_eq, Decidable.not_not] at h4
          refine WC.region ?_
          refine SL.pure rfl rfl rfl (PureOp.move rfl) ?_
          refine SL.pure rfl rfl rfl (PureOp.move rfl) ?_
          refine SL.pure rfl rfl rfl (PureOp.build bld54 rfl rfl) ?_
          refine SL.buildSlice rfl rfl Try.underlying40 elem54 rfl rfl rfl rfl (fun b5 hb5 => ?_)
          refine SL.append 1 rfl rfl Try.underlying40 elem54 rfl rfl rfl rfl (SrcIs.own 4 rfl) (by rfl) (by omega) (by omega) (fun ao2_ cap2_ => ?_)
          refine SL.itemxs 1 rfl (show _ = cellsOf enc54 ((fs ++ [(5, (placeS p ⟨#[99, 97, 98, 105, 110]⟩ ((0 : Nat) : Int)))]) ++ [(2, (placeS p ⟨#[99, 97, 98, 105, 110]⟩ ((0 : Nat) : Int)))]) from by rw [cellsOf_append (l := (fs ++ [(5, (placeS p ⟨#[99, 97, 98, 105, 110]⟩ ((0 : Nat) : Int)))])), cellsOf_one]; rfl) ?_
          refine SL.pure rfl rfl rfl (PureOp.assign rfl) ?_
          refine SL.nil_then ?_
          refine WC.seq ?_
          refine WC.seq ?_
          refine WC.region ?_
          refine SL.pure rfl rfl rfl (PureOp.fieldAddrT 3 Try.underlying24 rfl sz22 rfl rfl) ?_
          refine SL.pure rfl rfl rfl (PureOp.load (v := .slice ac cl.length cc) Try.underlying22 rfl rfl (fun _ => (CellIs.cells 2 rfl rfl))) ?_
          refine SL.pure rfl rfl rfl (PureOp.len rfl Try.underlying22) ?_
          refine SL.pure rfl rfl rfl (PureOp.lss rfl rfl) ?_
          refine SL.pure rfl rfl rfl (PureOp.move rfl) ?_
          refine SL.newg 70 false rfl ?_
          refine SL.gpure (c := 1) rfl rfl rfl rfl rfl rfl rfl (PureOp.fieldAddrT 3 Try.underlying24 rfl sz22 rfl rfl) ?_
          refine SL.gpure (c := 1) rfl rfl rfl rfl rfl rfl rfl (PureOp.load (v := .slice ac cl.length cc) Try.underlying22 rfl rfl (fun _ => (CellIs.cells 2 rfl rfl))) ?_
          refine SL.gpure (c := 1) rfl rfl rfl rfl rfl rfl rfl (PureOp.len rfl Try.underlying22) ?_
          refine SL.gpure (c := 1) rfl rfl rfl rfl rfl rfl rfl (PureOp.gtr rfl rfl) ?_
          refine SL.pure rfl rfl rfl (PureOp.or_ rfl rfl rfl rfl) ?_
          refine SL.nil_then ?_
          refine WC.cond rfl (fun h5 => ?_) (fun h5 => ?_)
          · try simp only [Bool.and_eq_true, Bool.or_eq_true, Bool.not_eq_true', Bool.not_eq_false', Bool.and_eq_false_iff, Bool.or_eq_false_iff, decide_eq_true_eq, decide_eq_false_iff_not, Int.not_lt, Int.not_le, ne_eq, Decidable.not_not] at h5
            refine WC.region ?_
            refine SL.pure rfl rfl rfl (PureOp.move rfl) ?_
            refine SL.pure rfl rfl rfl (PureOp.move rfl) ?_
            refine SL.pure rfl rfl rfl (PureOp.build bld54 rfl rfl) ?_
            refine SL.buildSlice rfl rfl Try.underlying40 elem54 rfl rfl rfl rfl (fun b6 hb6 => ?_)
            refine SL.append 1 rfl rfl Try.underlying40 elem54 rfl rfl rfl rfl (SrcIs.own 5 rfl) (by rfl) (by omega) (by omega) (fun ao3_ cap3_ => ?_)
            refine SL.itemxs 1 rfl (show _ = cellsOf enc54 (((fs ++ [(5, (placeS p ⟨#[99, 97, 98, 105, 110]⟩ ((0 : Nat) : Int)))]) ++ [(2, (placeS p ⟨#[99, 97, 98, 105, 110]⟩ ((0 : Nat) : Int)))]) ++ [(4, (placeS p ⟨#[99, 97, 98, 105, 110]⟩ ((0 : Nat) : Int)))]) from by rw [cellsOf_append (l := ((fs ++ [(5, (placeS p ⟨#[99, 97, 98, 105, 110]⟩ ((0 : Nat) : Int)))]) ++ [(2, (placeS p ⟨#[99, 97, 98, 105, 110]⟩ ((0 : Nat) : Int)))])), cellsOf_one]; rfl) ?_
            refine SL.pure rfl rfl rfl (PureOp.assign rfl) ?_
            refine SL.nil_then ?_
            refine WC.region ?_
            refine SL.pure rfl rfl rfl (PureOp.move rfl) ?_
            refine SL.pure rfl rfl rfl (PureOp.loads (vs := [.string eq, .slice az 1 cz]) Try.underlying44 rfl rfl (fun _ => (RowIs.cells 0 0 2 rfl rfl)) sz44) ?_
            refine SL.pure rfl rfl rfl (PureOp.move rfl) ?_
            refine SL.pure rfl rfl rfl (PureOp.move rfl) ?_
            refine SL.call (R := fun w v w' => ∃ fs a c, v = .slice a fs.length c ∧ w'.ownsRow w.heap.size 54 2 (.slice a fs.length c) fs.length (cellsOf enc54 fs) ∧ fs.length ≤ 90 ∧ (fs = [] → ∀ j, j < cl.length → (0 ≤ (nth cl j).2 ∧ (0 < j → (nth cl (j - 1)).2 ≤ (nth cl j).2) ∧ (inR se ov = true → (nth cl j).2 ≤ se + ov)))) rfl rfl rfl rfl rfl rfl callable42 (fun w hw => classes_ok nm eq se ov cl ac az cc cz hcb hnm hcs _ (by have q := placeS_size p ⟨#[99, 97, 98, 105, 110]⟩ ((0 : Nat) : Int); have e : (ByteArray.mk #[99, 97, 98, 105, 110]).size = 5 := rfl; omega) w (hz.below hw.below) (hc.below hw.below)) ?_
            rintro v w1 w2 hw1 hw2 hbw ⟨gs, ga, gc, rfl, hown, hgl, hgI⟩
            refine ⟨_, hw1.addslice hbw hown, ?_⟩
            refine SL.append 1 rfl rfl Try.underlying40 elem54 rfl rfl rfl rfl (SrcIs.own 6 rfl) (by exact all_one_cells (fun x => rfl) gs) (by omega) (by omega) (fun ao4_ cap4_ => ?_)
            refine SL.itemxs 1 rfl (show _ = cellsOf enc54 ((((fs ++ [(5, (placeS p ⟨#[99, 97, 98, 105, 110]⟩ ((0 : Nat) : Int)))]) ++ [(2, (placeS p ⟨#[99, 97, 98, 105, 110]⟩ ((0 : Nat) : Int)))]) ++ [(4, (placeS p ⟨#[99, 97, 98, 105, 110]⟩ ((0 : Nat) : Int)))]) ++ gs) from (cellsOf_append enc54 (((fs ++ [(5, (placeS p ⟨#[99, 97, 98, 105, 110]⟩ ((0 : Nat) : Int)))]) ++ [(2, (placeS p ⟨#[99, 97, 98, 105, 110]⟩ ((0 : Nat) : Int)))]) ++ [(4, (placeS p ⟨#[99, 97, 98, 105, 110]⟩ ((0 : Nat) : Int)))]) gs).symm) ?_
            refine SL.pure rfl rfl rfl (PureOp.assign rfl) ?_
            refine SL.nil ?_
            refine QX.normal_in ?_
            refine QX.then_ ?_
            refine WC.region ?_
            refine SL.pure rfl rfl rfl (PureOp.move rfl) ?_
            refine SL.pure rfl rfl rfl (PureOp.add rfl rfl (fun _ => by omega)) ?_
            refine SL.pure rfl rfl rfl (PureOp.assign rfl) ?_
            refine SL.nil ?_
            refine QX.round (σ := Nat × Nat × Option Addr × Nat × List Flt) (Ef := fun q_ => [(0, 0, .agg #[.string eq, .slice az 1 cz]), (1, 0, .string p), (2, 0, .pointer (some ⟨b1, 0, none⟩)), (4, 0, .slice none 0 0), (6, 0, .int .i64 ((q_.1 : Nat) : Int)), (5, 0, .slice q_.2.2.1 q_.2.1 q_.2.2.2.1)]) (Hf := fun q_ => [Item.cells b1 [.string eq, .slice az 1 cz] 44, Item.own w0.heap.size q_.2.2.1 q_.2.1 q_.2.2.2.1 54 2 (cellsOf enc54 (q_.2.2.2.2))]) (I := fun q_ => q_.1 ≤ 1 ∧ q_.2.1 = q_.2.2.2.2.length ∧ q_.2.1 ≤ 100 * q_.1 ∧ (q_.2.2.2.2 = [] → 0 < q_.1 → (inR se ov = true ∧ 1 ≤ cl.length ∧ cl.length ≤ 26 ∧ (∀ j, j < cl.length → (0 ≤ (nth cl j).2 ∧ (0 < j → (nth cl (j - 1)).2 ≤ (nth cl j).2) ∧ (inR se ov = true → (nth cl j).2 ≤ se + ov)))))) (μ := fun q_ => 1 - q_.1) (s := (0, m, a, c, fs)) 2 ((0 + 1, (((m + 1) + 1) + 1) + gs.length, ao4_, cap4_, (((fs ++ [(5, (placeS p ⟨#[99, 97, 98, 105, 110]⟩ ((0 : Nat) : Int)))]) ++ [(2, (placeS p ⟨#[99, 97, 98, 105, 110]⟩ ((0 : Nat) : Int)))]) ++ [(4, (placeS p ⟨#[99, 97, 98, 105, 110]⟩ ((0 : Nat) : Int)))]) ++ gs)) ⟨⟨(by first | omega | (dsimp only; omega)), by show _ = ((((fs ++ [(5, (placeS p ⟨#[99, 97, 98, 105, 110]⟩ ((0 : Nat) : Int)))]) ++ [(2, (placeS p ⟨#[99, 97, 98, 105, 110]⟩ ((0 : Nat) : Int)))]) ++ [(4, (placeS p ⟨#[99, 97, 98, 105, 110]⟩ ((0 : Nat) : Int)))]) ++ gs).length; simp only [List.length_append, List.length_cons, List.length_nil]; omega, (by first | omega | (dsimp only; omega)), fun he _ => absurd (show (((fs ++ [(5, (placeS p ⟨#[99, 97, 98, 105, 110]⟩ ((0 : Nat) : Int)))]) ++ [(2, (placeS p ⟨#[99, 97, 98, 105, 110]⟩ ((0 : Nat) : Int)))]) ++ [(4, (placeS p ⟨#[99, 97, 98, 105, 110]⟩ ((0 : Nat) : Int)))]) ++ gs = [] from he) (by simp)⟩, by first | omega | (dsimp only; omega)⟩ ⟨rfl, rfl, rfl, rfl, rfl, rfl, rfl, rfl, rfl, rfl, rfl, rfl, trivial⟩ rfl
          · try simp only [Bool.and_eq_true, Bool.or_eq_true, Bool.not_eq_true', Bool.not_eq_false', Bool.and_eq_false_iff, Bool.or_eq_false_iff, decide_eq_true_eq, decide_eq_false_iff_not, Int.not_lt, Int.not_le, ne_eq, Decidable.not_not] at h5
            refine WC.skip ?_
            refine QX.then_ ?_
            refine WC.region ?_
            refine SL.pure rfl rfl rfl (PureOp.move rfl) ?_
            refine SL.pure rfl rfl rfl (PureOp.loads (vs := [.string eq, .slice az 1 cz]) Try.underlying44 rfl rfl (fun _ => (RowIs.cells 0 0 2 rfl rfl)) sz44) ?_
            refine SL.pure rfl rfl rfl (PureOp.move rfl) ?_
            refine SL.pure rfl rfl rfl (PureOp.move rfl) ?_
            refine SL.call (R := fun w v w' => ∃ fs a c, v = .slice a fs.length c ∧ w'.ownsRow w.heap.size 54 2 (.slice a fs.length c) fs.length (cellsOf enc54 fs) ∧ fs.length ≤ 90 ∧ (fs = [] → ∀ j, j < cl.length → (0 ≤ (nth cl j).2 ∧ (0 < j → (nth cl (j - 1)).2 ≤ (nth cl j).2) ∧ (inR se ov = true → (nth cl j).2 ≤ se + ov)))) rfl rfl rfl rfl rfl rfl callable42 (fun w hw => classes_ok nm eq se ov cl ac az cc cz hcb hnm hcs _ (by have q := placeS_size p ⟨#[99, 97, 98, 105, 110]⟩ ((0 : Nat) : Int); have e : (ByteArray.mk #[99, 97, 98, 105, 110]).size = 5 := rfl; omega) w (hz.below hw.below) (hc.below hw.below)) ?_
            rintro v w1 w2 hw1 hw2 hbw ⟨gs, ga, gc, rfl, hown, hgl, hgI⟩
            refine ⟨_, hw1.addslice hbw hown, ?_⟩
            refine SL.append 1 rfl rfl Try.underlying40 elem54 rfl rfl rfl rfl (SrcIs.own 5 rfl) (by exact all_one_cells (fun x => rfl) gs) (by omega) (by omega) (fun ao5_ cap5_ => ?_)
            refine SL.itemxs 1 rfl (show _ = cellsOf enc54 (((fs ++ [(5, (placeS p ⟨#[99, 97, 98, 105, 110]⟩ ((0 : Nat) : Int)))]) ++ [(2, (placeS p ⟨#[99, 97, 98, 105, 110]⟩ ((0 : Nat) : Int)))]) ++ gs) from (cellsOf_append enc54 ((fs ++ [(5, (placeS p ⟨#[99, 97, 98, 105, 110]⟩ ((0 : Nat) : Int)))]) ++ [(2, (placeS p ⟨#[99, 97, 98, 105, 110]⟩ ((0 : Nat) : Int)))]) gs).symm) ?_
            refine SL.pure rfl rfl rfl (PureOp.assign rfl) ?_
            refine SL.nil ?_
            refine QX.normal_in ?_
            refine QX.then_ ?_
            refine WC.region ?_
            refine SL.pure rfl rfl rfl (PureOp.move rfl) ?_
            refine SL.pure rfl rfl rfl (PureOp.add rfl rfl (fun _ => by omega)) ?_
            refine SL.pure rfl rfl rfl (PureOp.assign rfl) ?_
            refine SL.nil ?_
            refine QX.round (σ := Nat × Nat × Option Addr × Nat × List Flt) (Ef := fun q_ => [(0, 0, .agg #[.string eq, .slice az 1 cz]), (1, 0, .string p), (2, 0, .pointer (some ⟨b1, 0, none⟩)), (4, 0, .slice none 0 0), (6, 0, .int .i64 ((q_.1 : Nat) : Int)), (5, 0, .slice q_.2.2.1 q_.2.1 q_.2.2.2.1)]) (Hf := fun q_ => [Item.cells b1 [.string eq, .slice az 1 cz] 44, Item.own w0.heap.size q_.2.2.1 q_.2.1 q_.2.2.2.1 54 2 (cellsOf enc54 (q_.2.2.2.2))]) (I := fun q_ => q_.1 ≤ 1 ∧ q_.2.1 = q_.2.2.2.2.length ∧ q_.2.1 ≤ 100 * q_.1 ∧ (q_.2.2.2.2 = [] → 0 < q_.1 → (inR se ov = true ∧ 1 ≤ cl.length ∧ cl.length ≤ 26 ∧ (∀ j, j < cl.length → (0 ≤ (nth cl j).2 ∧ (0 < j → (nth cl (j - 1)).2 ≤ (nth cl j).2) ∧ (inR se ov = true → (nth cl j).2 ≤ se + ov)))))) (μ := fun q_ => 1 - q_.1) (s := (0, m, a, c, fs)) 2 ((0 + 1, ((m + 1) + 1) + gs.length, ao5_, cap5_, ((fs ++ [(5, (placeS p ⟨#[99, 97, 98, 105, 110]⟩ ((0 : Nat) : Int)))]) ++ [(2, (placeS p ⟨#[99, 97, 98, 105, 110]⟩ ((0 : Nat) : Int)))]) ++ gs)) ⟨⟨(by first | omega | (dsimp only; omega)), by show _ = (((fs ++ [(5, (placeS p ⟨#[99, 97, 98, 105, 110]⟩ ((0 : Nat) : Int)))]) ++ [(2, (placeS p ⟨#[99, 97, 98, 105, 110]⟩ ((0 : Nat) : Int)))]) ++ gs).length; simp only [List.length_append, List.length_cons, List.length_nil]; omega, (by first | omega | (dsimp only; omega)), fun he _ => absurd (show ((fs ++ [(5, (placeS p ⟨#[99, 97, 98, 105, 110]⟩ ((0 : Nat) : Int)))]) ++ [(2, (placeS p ⟨#[99, 97, 98, 105, 110]⟩ ((0 : Nat) : Int)))]) ++ gs = [] from he) (by simp)⟩, by first | omega | (dsimp only; omega)⟩ ⟨rfl, rfl, rfl, rfl, rfl, rfl, rfl, rfl, rfl, rfl, rfl, rfl, trivial⟩ rfl
        · try simp only [Bool.and_eq_true, Bool.or_eq_true, Bool.not_eq_true', Bool.not_eq_false', Bool.and_eq_false_iff, Bool.or_eq_false_iff, decide_eq_true_eq, decide_eq_false_iff_not, Int.not_lt, Int.not_le, ne_eq, Decidable.not_not] at h4
          refine WC.skip ?_
          refine QX.then_ ?_
          refine WC.seq ?_
          refine WC.seq ?_
          refine WC.region ?_
          refine SL.pure rfl rfl rfl (PureOp.fieldAddrT 3 Try.underlying24 rfl sz22 rfl rfl) ?_
          refine SL.pure rfl rfl rfl (PureOp.load (v := .slice ac cl.length cc) Try.underlying22 rfl rfl (fun _ => (CellIs.cells 2 rfl rfl))) ?_
          refine SL.pure rfl rfl rfl (PureOp.len rfl Try.underlying22) ?_
          refine SL.pure rfl rfl rfl (PureOp.lss rfl rfl) ?_
          refine SL.pure rfl rfl rfl (PureOp.move rfl) ?_
          refine SL.newg 70 false rfl ?_
          refine SL.gpure (c := 1) rfl rfl rfl rfl rfl rfl rfl (PureOp.fieldAddrT 3 Try.underlying24 rfl sz22 rfl rfl) ?_
          refine SL.gpure (c := 1) rfl rfl rfl rfl rfl rfl rfl (PureOp.load (v := .slice ac cl.length cc) Try.underlying22 rfl rfl (fun _ => (CellIs.cells 2 rfl rfl))) ?_
          refine SL.gpure (c := 1) rfl rfl rfl rfl rfl rfl rfl (PureOp.len rfl Try.underlying22) ?_
          refine SL.gpure (c := 1) rfl rfl rfl rfl rfl rfl rfl (PureOp.gtr rfl rfl) ?_
          refine SL.pure rfl rfl rfl (PureOp.or_ rfl rfl rfl rfl) ?_
          refine SL.nil_then ?_
          refine WC.cond rfl (fun h6 => ?_) (fun h6 => ?_)
          · try simp only [Bool.and_eq_true, Bool.or_eq_true, Bool.not_eq_true', Bool.not_eq_false', Bool.and_eq_false_iff, Bool.or_eq_false_iff, decide_eq_true_eq, decide_eq_false_iff_not, Int.not_lt, Int.not_le, ne_eq, Decidable.not_not] at h6
            refine WC.region ?_
            refine SL.pure rfl rfl rfl (PureOp.move rfl) ?_
            refine SL.pure rfl rfl rfl (PureOp.move rfl) ?_
            refine SL.pure rfl rfl rfl (PureOp.build bld54 rfl rfl) ?_
            refine SL.buildSlice rfl rfl Try.underlying40 elem54 rfl rfl rfl rfl (fun b7 hb7 => ?_)
            refine SL.append 1 rfl rfl Try.underlying40 elem54 rfl rfl rfl rfl (SrcIs.own 4 rfl) (by rfl) (by omega) (by omega) (fun ao6_ cap6_ => ?_)
            refine SL.itemxs 1 rfl (show _ = cellsOf enc54 ((fs ++ [(5, (placeS p ⟨#[99, 97, 98, 105, 110]⟩ ((0 : Nat) : Int)))]) ++ [(4, (placeS p ⟨#[99, 97, 98, 105, 110]⟩ ((0 : Nat) : Int)))]) from by rw [cellsOf_append (l := (fs ++ [(5, (placeS p ⟨#[99, 97, 98, 105, 110]⟩ ((0 : Nat) : Int)))])), cellsOf_one]; rfl) ?_
            refine SL.pure rfl rfl rfl (PureOp.assign rfl) ?_
            refine SL.nil_then ?_
            refine WC.region ?_
            refine SL.pure rfl rfl rfl (PureOp.move rfl) ?_
            refine SL.pure rfl rfl rfl (PureOp.loads (vs := [.string eq, .slice az 1 cz]) Try.underlying44 rfl rfl (fun _ => (RowIs.cells 0 0 2 rfl rfl)) sz44) ?_
            refine SL.pure rfl rfl rfl (PureOp.move rfl) ?_
            refine SL.pure rfl rfl rfl (PureOp.move rfl) ?_
            refine SL.call (R := fun w v w' => ∃ fs a c, v = .slice a fs.length c ∧ w'.ownsRow w.heap.size 54 2 (.slice a fs.length c) fs.length (cellsOf enc54 fs) ∧ fs.length ≤ 90 ∧ (fs = [] → ∀ j, j < cl.length → (0 ≤ (nth cl j).2 ∧ (0 < j → (nth cl (j - 1)).2 ≤ (nth cl j).2) ∧ (inR se ov = true → (nth cl j).2 ≤ se + ov)))) rfl rfl rfl rfl rfl rfl callable42 (fun w hw => classes_ok nm eq se ov cl ac az cc cz hcb hnm hcs _ (by have q := placeS_size p ⟨#[99, 97, 98, 105, 110]⟩ ((0 : Nat) : Int); have e : (ByteArray.mk #[99, 97, 98, 105, 110]).size = 5 := rfl; omega) w (hz.below hw.below) (hc.below hw.below)) ?_
            rintro v w1 w2 hw1 hw2 hbw ⟨gs, ga, gc, rfl, hown, hgl, hgI⟩
            refine ⟨_, hw1.addslice hbw hown, ?_⟩
            refine SL.append 1 rfl rfl Try.underlying40 elem54 rfl rfl rfl rfl (SrcIs.own 5 rfl) (by exact all_one_cells (fun x => rfl) gs) (by omega) (by omega) (fun ao7_ cap7_ => ?_)
            refine SL.itemxs 1 rfl (show _ = cellsOf enc54 (((fs ++ [(5, (placeS p ⟨#[99, 97, 98, 105, 110]⟩ ((0 : Nat) : Int)))]) ++ [(4, (placeS p ⟨#[99, 97, 98, 105, 110]⟩ ((0 : Nat) : Int)))]) ++ gs) from (cellsOf_append enc54 ((fs ++ [(5, (placeS p ⟨#[99, 97, 98, 105, 110]⟩ ((0 : Nat) : Int)))]) ++ [(4, (placeS p ⟨#[99, 97, 98, 105, 110]⟩ ((0 : Nat) : Int)))]) gs).symm) ?_
            refine SL.pure rfl rfl rfl (PureOp.assign rfl) ?_
            refine SL.nil ?_
            refine QX.normal_in ?_
            refine QX.then_ ?_
            refine WC.region ?_
            refine SL.pure rfl rfl rfl (PureOp.move rfl) ?_
            refine SL.pure rfl rfl rfl (PureOp.add rfl rfl (fun _ => by omega)) ?_
            refine SL.pure rfl rfl rfl (PureOp.assign rfl) ?_
            refine SL.nil ?_
            refine QX.round (σ := Nat × Nat × Option Addr × Nat × List Flt) (Ef := fun q_ => [(0, 0, .agg #[.string eq, .slice az 1 cz]), (1, 0, .string p), (2, 0, .pointer (some ⟨b1, 0, none⟩)), (4, 0, .slice none 0 0), (6, 0, .int .i64 ((q_.1 : Nat) : Int)), (5, 0, .slice q_.2.2.1 q_.2.1 q_.2.2.2.1)]) (Hf := fun q_ => [Item.cells b1 [.string eq, .slice az 1 cz] 44, Item.own w0.heap.size q_.2.2.1 q_.2.1 q_.2.2.2.1 54 2 (cellsOf enc54 (q_.2.2.2.2))]) (I := fun q_ => q_.1 ≤ 1 ∧ q_.2.1 = q_.2.2.2.2.length ∧ q_.2.1 ≤ 100 * q_.1 ∧ (q_.2.2.2.2 = [] → 0 < q_.1 → (inR se ov = true ∧ 1 ≤ cl.length ∧ cl.length ≤ 26 ∧ (∀ j, j < cl.length → (0 ≤ (nth cl j).2 ∧ (0 < j → (nth cl (j - 1)).2 ≤ (nth cl j).2) ∧ (inR se ov = true → (nth cl j).2 ≤ se + ov)))))) (μ := fun q_ => 1 - q_.1) (s := (0, m, a, c, fs)) 2 ((0 + 1, ((m + 1) + 1) + gs.length, ao7_, cap7_, ((fs ++ [(5, (placeS p ⟨#[99, 97, 98, 105, 110]⟩ ((0 : Nat) : Int)))]) ++ [(4, (placeS p ⟨#[99, 97, 98, 105, 110]⟩ ((0 : Nat) : Int)))]) ++ gs)) ⟨⟨(by first | omega | (dsimp only; omega)), by show _ = (((fs ++ [(5, (placeS p ⟨#[99, 97, 98, 105, 110]⟩ ((0 : Nat) : Int)))]) ++ [(4, (placeS p ⟨#[99, 97, 98, 105, 110]⟩ ((0 : Nat) : Int)))]) ++ gs).length; simp only [List.length_append, List.length_cons, List.length_nil]; omega, (by first | omega | (dsimp only; omega)), fun he _ => absurd (show ((fs ++ [(5, (placeS p ⟨#[99, 97, 98, 105, 110]⟩ ((0 : Nat) : Int)))]) ++ [(4, (placeS p ⟨#[99, 97, 98, 105, 110]⟩ ((0 : Nat) : Int)))]) ++ gs = [] from he) (by simp)⟩, by first | omega | (dsimp only; omega)⟩ ⟨rfl, rfl, rfl, rfl, rfl, rfl, rfl, rfl, rfl, rfl, rfl, rfl, trivial⟩ rfl
          · try simp only [Bool.and_eq_true, Bool.or_eq_true, Bool.not_eq_true', Bool.not_eq_false', Bool.and_eq_false_iff, Bool.or_eq_false_iff, decide_eq_true_eq, decide_eq_false_iff_not, Int.not_lt, Int.not_le, ne_eq, Decidable.not_not] at h6
            refine WC.skip ?_
            refine QX.then_ ?_
            refine WC.region ?_
            refine SL.pure rfl rfl rfl (PureOp.move rfl) ?_
            refine SL.pure rfl rfl rfl (PureOp.loads (vs := [.string eq, .slice az 1 cz]) Try.underlying44 rfl rfl (fun _ => (RowIs.cells 0 0 2 rfl rfl)) sz44) ?_
            refine SL.pure rfl rfl rfl (PureOp.move rfl) ?_
            refine SL.pure rfl rfl rfl (PureOp.move rfl) ?_
            refine SL.call (R := fun w v w' => ∃ fs a c, v = .slice a fs.length c ∧ w'.ownsRow w.heap.size 54 2 (.slice a fs.length c) fs.length (cellsOf enc54 fs) ∧ fs.length ≤ 90 ∧ (fs = [] → ∀ j, j < cl.length → (0 ≤ (nth cl j).2 ∧ (0 < j → (nth cl (j - 1)).2 ≤ (nth cl j).2) ∧ (inR se ov = true → (nth cl j).2 ≤ se + ov)))) rfl rfl rfl rfl rfl rfl callable42 (fun w hw => classes_ok nm eq se ov cl ac az cc cz hcb hnm hcs _ (by have q := placeS_size p ⟨#[99, 97, 98, 105, 110]⟩ ((0 : Nat) : Int); have e : (ByteArray.mk #[99, 97, 98, 105, 110]).size = 5 := rfl; omega) w (hz.below hw.below) (hc.below hw.below)) ?_
            rintro v w1 w2 hw1 hw2 hbw ⟨gs, ga, gc, rfl, hown, hgl, hgI⟩
            refine ⟨_, hw1.addslice hbw hown, ?_⟩
            refine SL.append 1 rfl rfl Try.underlying40 elem54 rfl rfl rfl rfl (SrcIs.own 4 rfl) (by exact all_one_cells (fun x => rfl) gs) (by omega) (by omega) (fun ao8_ cap8_ => ?_)
            refine SL.itemxs 1 rfl (show _ = cellsOf enc54 ((fs ++ [(5, (placeS p ⟨#[99, 97, 98, 105, 110]⟩ ((0 : Nat) : Int)))]) ++ gs) from (cellsOf_append enc54 (fs ++ [(5, (placeS p ⟨#[99, 97, 98, 105, 110]⟩ ((0 : Nat) : Int)))]) gs).symm) ?_
            refine SL.pure rfl rfl rfl (PureOp.assign rfl) ?_
            refine SL.nil ?_
            refine QX.normal_in ?_
            refine QX.then_ ?_
            refine WC.region ?_
            refine SL.pure rfl rfl rfl (PureOp.move rfl) ?_
            refine SL.pure rfl rfl rfl (PureOp.add rfl rfl (fun _ => by omega)) ?_
            refine SL.pure rfl rfl rfl (PureOp.assign rfl) ?_
            refine SL.nil ?_
            refine QX.round (σ := Nat × Nat × Option Addr × Nat × List Flt) (Ef := fun q_ => [(0, 0, .agg #[.string eq, .slice az 1 cz]), (1, 0, .string p), (2, 0, .pointer (some ⟨b1, 0, none⟩)), (4, 0, .slice none 0 0), (6, 0, .int .i64 ((q_.1 : Nat) : Int)), (5, 0, .slice q_.2.2.1 q_.2.1 q_.2.2.2.1)]) (Hf := fun q_ => [Item.cells b1 [.string eq, .slice az 1 cz] 44, Item.own w0.heap.size q_.2.2.1 q_.2.1 q_.2.2.2.1 54 2 (cellsOf enc54 (q_.2.2.2.2))]) (I := fun q_ => q_.1 ≤ 1 ∧ q_.2.1 = q_.2.2.2.2.length ∧ q_.2.1 ≤ 100 * q_.1 ∧ (q_.2.2.2.2 = [] → 0 < q_.1 → (inR se ov = true ∧ 1 ≤ cl.length ∧ cl.length ≤ 26 ∧ (∀ j, j < cl.length → (0 ≤ (nth cl j).2 ∧ (0 < j → (nth cl (j - 1)).2 ≤ (nth cl j).2) ∧ (inR se ov = true → (nth cl j).2 ≤ se + ov)))))) (μ := fun q_ => 1 - q_.1) (s := (0, m, a, c, fs)) 2 ((0 + 1, (m + 1) + gs.length, ao8_, cap8_, (fs ++ [(5, (placeS p ⟨#[99, 97, 98, 105, 110]⟩ ((0 : Nat) : Int)))]) ++ gs)) ⟨⟨(by first | omega | (dsimp only; omega)), by show _ = ((fs ++ [(5, (placeS p ⟨#[99, 97, 98, 105, 110]⟩ ((0 : Nat) : Int)))]) ++ gs).length; simp only [List.length_append, List.length_cons, List.length_nil]; omega, (by first | omega | (dsimp only; omega)), fun he _ => absurd (show (fs ++ [(5, (placeS p ⟨#[99, 97, 98, 105, 110]⟩ ((0 : Nat) : Int)))]) ++ gs = [] from he) (by simp)⟩, by first | omega | (dsimp only; omega)⟩ ⟨rfl, rfl, rfl, rfl, rfl, rfl, rfl, rfl, rfl, rfl, rfl, rfl, trivial⟩ rfl
      · try simp only [Bool.and_eq_true, Bool.or_eq_true, Bool.not_eq_true', Bool.not_eq_false', Bool.and_eq_false_iff, Bool.or_eq_false_iff, decide_eq_true_eq, decide_eq_false_iff_not, Int.not_lt, Int.not_le, ne_eq, Decidable.not_not] at h3
        refine WC.skip ?_
        refine QX.then_ ?_
        refine WC.seq ?_
        refine WC.seq ?_
        refine WC.region ?_
        refine SL.pure rfl rfl rfl (PureOp.move rfl) ?_
        refine SL.nil_then ?_
        refine WC.condF rfl ?_
        refine WC.skip ?_
        refine QX.then_ ?_
        refine WC.seq ?_
        refine WC.seq ?_
        refine WC.region ?_
        refine SL.pure rfl rfl rfl (PureOp.loads (vs := [.string nm, .int .i64 se, .int .i64 ov, .slice ac cl.length cc]) Try.underlying24 rfl rfl (fun _ => (RowIs.cells 2 0 4 rfl rfl)) sz24) ?_
        refine SL.calle rfl rfl rfl rfl rfl rfl callable41 (fun w hw => inrange_ok nm se ov cl ac cl.length cc rfl (by omega) w) ?_
        refine SL.pure rfl rfl rfl (PureOp.not rfl) ?_
        refine SL.nil_then ?_
        refine WC.cond rfl (fun h7 => ?_) (fun h7 => ?_)
        · try simp only [Bool.and_eq_true, Bool.or_eq_true, Bool.not_eq_true', Bool.not_eq_false', Bool.and_eq_false_iff, Bool.or_eq_false_iff, decide_eq_true_eq, decide_eq_false_iff_not, Int.not_lt, Int.not_le, ne_eq, Decidable.not_not] at h7
          refine WC.region ?_
          refine SL.pure rfl rfl rfl (PureOp.move rfl) ?_
          refine SL.pure rfl rfl rfl (PureOp.move rfl) ?_
          refine SL.pure rfl rfl rfl (PureOp.build bld54 rfl rfl) ?_
          refine SL.buildSlice rfl rfl Try.underlying40 elem54 rfl rfl rfl rfl (fun b8 hb8 => ?_)
          refine SL.append 1 rfl rfl Try.underlying40 elem54 rfl rfl rfl rfl (SrcIs.own 3 rfl) (by rfl) (by omega) (by omega) (fun ao9_ cap9_ => ?_)
          refine SL.itemxs 1 rfl (show _ = cellsOf enc54 (fs ++ [(2, (placeS p ⟨#[99, 97, 98, 105, 110]⟩ ((0 : Nat) : Int)))]) from by rw [cellsOf_append (l := fs), cellsOf_one]; rfl) ?_
          refine SL.pure rfl rfl rfl (PureOp.assign rfl) ?_
          refine SL.nil_then ?_
          refine WC.seq ?_
          refine WC.seq ?_
          refine WC.region ?_
          refine SL.pure rfl rfl rfl (PureOp.fieldAddrT 3 Try.underlying24 rfl sz22 rfl rfl) ?_
          refine SL.pure rfl rfl rfl (PureOp.load (v := .slice ac cl.length cc) Try.underlying22 rfl rfl (fun _ => (CellIs.cells 2 rfl rfl))) ?_
          refine SL.pure rfl rfl rfl (PureOp.len rfl Try.underlying22) ?_
          refine SL.pure rfl rfl rfl (PureOp.lss rfl rfl) ?_
          refine SL.pure rfl rfl rfl (PureOp.move rfl) ?_
          refine SL.newg 70 false rfl ?_
          refine SL.gpure (c := 1) rfl rfl rfl rfl rfl rfl rfl (PureOp.fieldAddrT 3 Try.underlying24 rfl sz22 rfl rfl) ?_
          refine SL.gpure (c := 1) rfl rfl rfl rfl rfl rfl rfl (PureOp.load (v := .slice ac cl.length cc) Try.underlying22 rfl rfl (fun _ => (CellIs.cells 2 rfl rfl))) ?_
          refine SL.gpure (c := 1) rfl rfl rfl rfl rfl rfl rfl (PureOp.len rfl Try.underlying22) ?_
          refine SL.gpure (c := 1) rfl rfl rfl rfl rfl rfl rfl (PureOp.gtr rfl rfl) ?_
          refine SL.pure rfl rfl rfl (PureOp.or_ rfl rfl rfl rfl) ?_
          refine SL.nil_then ?_
          refine WC.cond rfl (fun h8 => ?_) (fun h8 => ?_)
          · try simp only [Bool.and_eq_true, Bool.or_eq_true, Bool.not_eq_true', Bool.not_eq_false', Bool.and_eq_false_iff, Bool.or_eq_false_iff, decide_eq_true_eq, decide_eq_false_iff_not, Int.not_lt, Int.not_le, ne_eq, Decidable.not_not] at h8
            refine WC.region ?_
            refine SL.pure rfl rfl rfl (PureOp.move rfl) ?_
            refine SL.pure rfl rfl rfl (PureOp.move rfl) ?_
            refine SL.pure rfl rfl rfl (PureOp.build bld54 rfl rfl) ?_
            refine SL.buildSlice rfl rfl Try.underlying40 elem54 rfl rfl rfl rfl (fun b9 hb9 => ?_)
            refine SL.append 1 rfl rfl Try.underlying40 elem54 rfl rfl rfl rfl (SrcIs.own 4 rfl) (by rfl) (by omega) (by omega) (fun ao10_ cap10_ => ?_)
            refine SL.itemxs 1 rfl (show _ = cellsOf enc54 ((fs ++ [(2, (placeS p ⟨#[99, 97, 98, 105, 110]⟩ ((0 : Nat) : Int)))]) ++ [(4, (placeS p ⟨#[99, 97, 98, 105, 110]⟩ ((0 : Nat) : Int)))]) from by rw [cellsOf_append (l := (fs ++ [(2, (placeS p ⟨#[99, 97, 98, 105, 110]⟩ ((0 : Nat) : Int)))])), cellsOf_one]; rfl) ?_
            refine SL.pure rfl rfl rfl (PureOp.assign rfl) ?_
            refine SL.nil_then ?_
            refine WC.region ?_
            refine SL.pure rfl rfl rfl (PureOp.move rfl) ?_
            refine SL.pure rfl rfl rfl (PureOp.loads (vs := [.string eq, .slice az 1 cz]) Try.underlying44 rfl rfl (fun _ => (RowIs.cells 0 0 2 rfl rfl)) sz44) ?_
            refine SL.pure rfl rfl rfl (PureOp.move rfl) ?_
            refine SL.pure rfl rfl rfl (PureOp.move rfl) ?_
            refine SL.call (R := fun w v w' => ∃ fs a c, v = .slice a fs.length c ∧ w'.ownsRow w.heap.size 54 2 (.slice a fs.length c) fs.length (cellsOf enc54 fs) ∧ fs.length ≤ 90 ∧ (fs = [] → ∀ j, j < cl.length → (0 ≤ (nth cl j).2 ∧ (0 < j → (nth cl (j - 1)).2 ≤ (nth cl j).2) ∧ (inR se ov = true → (nth cl j).2 ≤ se + ov)))) rfl rfl rfl rfl rfl rfl callable42 (fun w hw => classes_ok nm eq se ov cl ac az cc cz hcb hnm hcs _ (by have q := placeS_size p ⟨#[99, 97, 98, 105, 110]⟩ ((0 : Nat) : Int); have e : (ByteArray.mk #[99, 97, 98, 105, 110]).size = 5 := rfl; omega) w (hz.below hw.below) (hc.below hw.below)) ?_
            rintro v w1 w2 hw1 hw2 hbw ⟨gs, ga, gc, rfl, hown, hgl, hgI⟩
            refine ⟨_, hw1.addslice hbw hown, ?_⟩
            refine SL.append 1 rfl rfl Try.underlying40 elem54 rfl rfl rfl rfl (SrcIs.own 5 rfl) (by exact all_one_cells (fun x => rfl) gs) (by omega) (by omega) (fun ao11_ cap11_ => ?_)
            refine SL.itemxs 1 rfl (show _ = cellsOf enc54 (((fs ++ [(2, (placeS p ⟨#[99, 97, 98, 105, 110]⟩ ((0 : Nat) : Int)))]) ++ [(4, (placeS p ⟨#[99, 97, 98, 105, 110]⟩ ((0 : Nat) : Int)))]) ++ gs) from (cellsOf_append enc54 ((fs ++ [(2, (placeS p ⟨#[99, 97, 98, 105, 110]⟩ ((0 : Nat) : Int)))]) ++ [(4, (placeS p ⟨#[99, 97, 98, 105, 110]⟩ ((0 : Nat) : Int)))]) gs).symm) ?_
            refine SL.pure rfl rfl rfl (PureOp.assign rfl) ?_
            refine SL.nil ?_
            refine QX.normal_in ?_
            refine QX.then_ ?_
            refine WC.region ?_
            refine SL.pure rfl rfl rfl (PureOp.move rfl) ?_
            refine SL.pure rfl rfl rfl (PureOp.add rfl rfl (fun _ => by omega)) ?_
            refine SL.pure rfl rfl rfl (PureOp.assign rfl) ?_
            refine SL.nil ?_
            refine QX.round (σ := Nat × Nat × Option Addr × Nat × List Flt) (Ef := fun q_ => [(0, 0, .agg #[.string eq, .slice az 1 cz]), (1, 0, .string p), (2, 0, .pointer (some ⟨b1, 0, none⟩)), (4, 0, .slice none 0 0), (6, 0, .int .i64 ((q_.1 : Nat) : Int)), (5, 0, .slice q_.2.2.1 q_.2.1 q_.2.2.2.1)]) (Hf := fun q_ => [Item.cells b1 [.string eq, .slice az 1 cz] 44, Item.own w0.heap.size q_.2.2.1 q_.2.1 q_.2.2.2.1 54 2 (cellsOf enc54 (q_.2.2.2.2))]) (I := fun q_ => q_.1 ≤ 1 ∧ q_.2.1 = q_.2.2.2.2.length ∧ q_.2.1 ≤ 100 * q_.1 ∧ (q_.2.2.2.2 = [] → 0 < q_.1 → (inR se ov = true ∧ 1 ≤ cl.length ∧ cl.length ≤ 26 ∧ (∀ j, j < cl.length → (0 ≤ (nth cl j).2 ∧ (0 < j → (nth cl (j - 1)).2 ≤ (nth cl j).2) ∧ (inR se ov = true → (nth cl j).2 ≤ se + ov)))))) (μ := fun q_ => 1 - q_.1) (s := (0, m, a, c, fs)) 2 ((0 + 1, ((m + 1) + 1) + gs.length, ao11_, cap11_, ((fs ++ [(2, (placeS p ⟨#[99, 97, 98, 105, 110]⟩ ((0 : Nat) : Int)))]) ++ [(4, (placeS p ⟨#[99, 97, 98, 105, 110]⟩ ((0 : Nat) : Int)))]) ++ gs)) ⟨⟨(by first | omega | (dsimp only; omega)), by show _ = (((fs ++ [(2, (placeS p ⟨#[99, 97, 98, 105, 110]⟩ ((0 : Nat) : Int)))]) ++ [(4, (placeS p ⟨#[99, 97, 98, 105, 110]⟩ ((0 : Nat) : Int)))]) ++ gs).length; simp only [List.length_append, List.length_cons, List.length_nil]; omega, (by first | omega | (dsimp only; omega)), fun he _ => absurd (show ((fs ++ [(2, (placeS p ⟨#[99, 97, 98, 105, 110]⟩ ((0 : Nat) : Int)))]) ++ [(4, (placeS p ⟨#[99, 97, 98, 105, 110]⟩ ((0 : Nat) : Int)))]) ++ gs = [] from he) (by simp)⟩, by first | omega | (dsimp only; omega)⟩ ⟨rfl, rfl, rfl, rfl, rfl, rfl, rfl, rfl, rfl, rfl, rfl, rfl, trivial⟩ rfl
          · try simp only [Bool.and_eq_true, Bool.or_eq_true, Bool.not_eq_true', Bool.not_eq_false', Bool.and_eq_false_iff, Bool.or_eq_false_iff, decide_eq_true_eq, decide_eq_false_iff_not, Int.not_lt, Int.not_le, ne_eq, Decidable.not_not] at h8
            refine WC.skip ?_
            refine QX.then_ ?_
            refine WC.region ?_
            refine SL.pure rfl rfl rfl (PureOp.move rfl) ?_
            refine SL.pure rfl rfl rfl (PureOp.loads (vs := [.string eq, .slice az 1 cz]) Try.underlying44 rfl rfl (fun _ => (RowIs.cells 0 0 2 rfl rfl)) sz44) ?_
            refine SL.pure rfl rfl rfl (PureOp.move rfl) ?_
            refine SL.pure rfl rfl rfl (PureOp.move rfl) ?_
            refine SL.call (R := fun w v w' => ∃ fs a c, v = .slice a fs.length c ∧ w'.ownsRow w.heap.size 54 2 (.slice a fs.length c) fs.length (cellsOf enc54 fs) ∧ fs.length ≤ 90 ∧ (fs = [] → ∀ j, j < cl.length → (0 ≤ (nth cl j).2 ∧ (0 < j → (nth cl (j - 1)).2 ≤ (nth cl j).2) ∧ (inR se ov = true → (nth cl j).2 ≤ se + ov)))) rfl rfl rfl rfl rfl rfl callable42 (fun w hw => classes_ok nm eq se ov cl ac az cc cz hcb hnm hcs _ (by have q := placeS_size p ⟨#[99, 97, 98, 105, 110]⟩ ((0 : Nat) : Int); have e : (ByteArray.mk #[99, 97, 98, 105, 110]).size = 5 := rfl; omega) w (hz.below hw.below) (hc.below hw.below)) ?_
            rintro v w1 w2 hw1 hw2 hbw ⟨gs, ga, gc, rfl, hown, hgl, hgI⟩
            refine ⟨_, hw1.addslice hbw hown, ?_⟩
            refine SL.append 1 rfl rfl Try.underlying40 elem54 rfl rfl rfl rfl (SrcIs.own 4 rfl) (by exact all_one_cells (fun x => rfl) gs) (by omega) (by omega) (fun ao12_ cap12_ => ?_)
            refine SL.itemxs 1 rfl (show _ = cellsOf enc54 ((fs ++ [(2, (placeS p ⟨#[99, 97, 98, 105, 110]⟩ ((0 : Nat) : Int)))]) ++ gs) from (cellsOf_append enc54 (fs ++ [(2, (placeS p ⟨#[99, 97, 98, 105, 110]⟩ ((0 : Nat) : Int)))]) gs).symm) ?_
            refine SL.pure rfl rfl rfl (PureOp.assign rfl) ?_
            refine SL.nil ?_
            refine QX.normal_in ?_
            refine QX.then_ ?_
            refine WC.region ?_
            refine SL.pure rfl rfl rfl (PureOp.move rfl) ?_
            refine SL.pure rfl rfl rfl (PureOp.add rfl rfl (fun _ => by omega)) ?_
            refine SL.pure rfl rfl rfl (PureOp.assign rfl) ?_
            refine SL.nil ?_
            refine QX.round (σ := Nat × Nat × Option Addr × Nat × List Flt) (Ef := fun q_ => [(0, 0, .agg #[.string eq, .slice az 1 cz]), (1, 0, .string p), (2, 0, .pointer (some ⟨b1, 0, none⟩)), (4, 0, .slice none 0 0), (6, 0, .int .i64 ((q_.1 : Nat) : Int)), (5, 0, .slice q_.2.2.1 q_.2.1 q_.2.2.2.1)]) (Hf := fun q_ => [Item.cells b1 [.string eq, .slice az 1 cz] 44, Item.own w0.heap.size q_.2.2.1 q_.2.1 q_.2.2.2.1 54 2 (cellsOf enc54 (q_.2.2.2.2))]) (I := fun q_ => q_.1 ≤ 1 ∧ q_.2.1 = q_.2.2.2.2.length ∧ q_.2.1 ≤ 100 * q_.1 ∧ (q_.2.2.2.2 = [] → 0 < q_.1 → (inR se ov = true ∧ 1 ≤ cl.length ∧ cl.length ≤ 26 ∧ (∀ j, j < cl.length → (0 ≤ (nth cl j).2 ∧ (0 < j → (nth cl (j - 1)).2 ≤ (nth cl j).2) ∧ (inR se ov = true → (nth cl j).2 ≤ se + ov)))))) (μ := fun q_ => 1 - q_.1) (s := (0, m, a, c, fs)) 2 ((0 + 1, (m + 1) + gs.length, ao12_, cap12_, (fs ++ [(2, (placeS p ⟨#[99, 97, 98, 105, 110]⟩ ((0 : Nat) : Int)))]) ++ gs)) ⟨⟨(by first | omega | (dsimp only; omega)), by show _ = ((fs ++ [(2, (placeS p ⟨#[99, 97, 98, 105, 110]⟩ ((0 : Nat) : Int)))]) ++ gs).length; simp only [List.length_append, List.length_cons, List.length_nil]; omega, (by first | omega | (dsimp only; omega)), fun he _ => absurd (show (fs ++ [(2, (placeS p ⟨#[99, 97, 98, 105, 110]⟩ ((0 : Nat) : Int)))]) ++ gs = [] from he) (by simp)⟩, by first | omega | (dsimp only; omega)⟩ ⟨rfl, rfl, rfl, rfl, rfl, rfl, rfl, rfl, rfl, rfl, rfl, rfl, trivial⟩ rfl
        · try simp only [Bool.and_eq_true, Bool.or_eq_true, Bool.not_eq_true', Bool.not_eq_false', Bool.and_eq_false_iff, Bool.or_eq_false_iff, decide_eq_true_eq, decide_eq_false_iff_not, Int.not_lt, Int.not_le, ne_eq, Decidable.not_not] at h7
          refine WC.skip ?_
          refine QX.then_ ?_
          refine WC.seq ?_
          refine WC.seq ?_
          refine WC.region ?_
          refine SL.pure rfl rfl rfl (PureOp.fieldAddrT 3 Try.underlying24 rfl sz22 rfl rfl) ?_
          refine SL.pure rfl rfl rfl (PureOp.load (v := .slice ac cl.length cc) Try.underlying22 rfl rfl (fun _ => (CellIs.cells 2 rfl rfl))) ?_
          refine SL.pure rfl rfl rfl (PureOp.len rfl Try.underlying22) ?_
          refine SL.pure rfl rfl rfl (PureOp.lss rfl rfl) ?_
          refine SL.pure rfl rfl rfl (PureOp.move rfl) ?_
          refine SL.newg 70 false rfl ?_
          refine SL.gpure (c := 1) rfl rfl rfl rfl rfl rfl rfl (PureOp.fieldAddrT 3 Try.underlying24 rfl sz22 rfl rfl) ?_
          refine SL.gpure (c := 1) rfl rfl rfl rfl rfl rfl rfl (PureOp.load (v := .slice ac cl.length cc) Try.underlying22 rfl rfl (fun _ => (CellIs.cells 2 rfl rfl))) ?_
          refine SL.gpure (c := 1) rfl rfl rfl rfl rfl rfl rfl (PureOp.len rfl Try.underlying22) ?_
          refine SL.gpure (c := 1) rfl rfl rfl rfl rfl rfl rfl (PureOp.gtr rfl rfl) ?_
          refine SL.pure rfl rfl rfl (PureOp.or_ rfl rfl rfl rfl) ?_
          refine SL.nil_then ?_
          refine WC.cond rfl (fun h9 => ?_) (fun h9 => ?_)
          · try simp only [Bool.and_eq_true, Bool.or_eq_true, Bool.not_eq_true', Bool.not_eq_false', Bool.and_eq_false_iff, Bool.or_eq_false_iff, decide_eq_true_eq, decide_eq_false_iff_not, Int.not_lt, Int.not_le, ne_eq, Decidable.not_not] at h9
            refine WC.region ?_
            refine SL.pure rfl rfl rfl (PureOp.move rfl) ?_
            refine SL.pure rfl rfl rfl (PureOp.move rfl) ?_
            refine SL.pure rfl rfl rfl (PureOp.build bld54 rfl rfl) ?_
            refine SL.buildSlice rfl rfl Try.underlying40 elem54 rfl rfl rfl rfl (fun b10 hb10 => ?_)
            refine SL.append 1 rfl rfl Try.underlying40 elem54 rfl rfl rfl rfl (SrcIs.own 3 rfl) (by rfl) (by omega) (by omega) (fun ao13_ cap13_ => ?_)
            refine SL.itemxs 1 rfl (show _ = cellsOf enc54 (fs ++ [(4, (placeS p ⟨#[99, 97, 98, 105, 110]⟩ ((0 : Nat) : Int)))]) from by rw [cellsOf_append (l := fs), cellsOf_one]; rfl) ?_
            refine SL.pure rfl rfl rfl (PureOp.assign rfl) ?_
            refine SL.nil_then ?_
            refine WC.region ?_
            refine SL.pure rfl rfl rfl (PureOp.move rfl) ?_
            refine SL.pure rfl rfl rfl (PureOp.loads (vs := [.string eq, .slice az 1 cz]) Try.underlying44 rfl rfl (fun _ => (RowIs.cells 0 0 2 rfl rfl)) sz44) ?_
            refine SL.pure rfl rfl rfl (PureOp.move rfl) ?_
            refine SL.pure rfl rfl rfl (PureOp.move rfl) ?_
            refine SL.call (R := fun w v w' => ∃ fs a c, v = .slice a fs.length c ∧ w'.ownsRow w.heap.size 54 2 (.slice a fs.length c) fs.length (cellsOf enc54 fs) ∧ fs.length ≤ 90 ∧ (fs = [] → ∀ j, j < cl.length → (0 ≤ (nth cl j).2 ∧ (0 < j → (nth cl (j - 1)).2 ≤ (nth cl j).2) ∧ (inR se ov = true → (nth cl j).2 ≤ se + ov)))) rfl rfl rfl rfl rfl rfl callable42 (fun w hw => classes_ok nm eq se ov cl ac az cc cz hcb hnm hcs _ (by have q := placeS_size p ⟨#[99, 97, 98, 105, 110]⟩ ((0 : Nat) : Int); have e : (ByteArray.mk #[99, 97, 98, 105, 110]).size = 5 := rfl; omega) w (hz.below hw.below) (hc.below hw.below)) ?_
            rintro v w1 w2 hw1 hw2 hbw ⟨gs, ga, gc, rfl, hown, hgl, hgI⟩
            refine ⟨_, hw1.addslice hbw hown, ?_⟩
            refine SL.append 1 rfl rfl Try.underlying40 elem54 rfl rfl rfl rfl (SrcIs.own 4 rfl) (by exact all_one_cells (fun x => rfl) gs) (by omega) (by omega) (fun ao14_ cap14_ => ?_)
            refine SL.itemxs 1 rfl (show _ = cellsOf enc54 ((fs ++ [(4, (placeS p ⟨#[99, 97, 98, 105, 110]⟩ ((0 : Nat) : Int)))]) ++ gs) from (cellsOf_append enc54 (fs ++ [(4, (placeS p ⟨#[99, 97, 98, 105, 110]⟩ ((0 : Nat) : Int)))]) gs).symm) ?_
            refine SL.pure rfl rfl rfl (PureOp.assign rfl) ?_
            refine SL.nil ?_
            refine QX.normal_in ?_
            refine QX.then_ ?_
            refine WC.region ?_
            refine SL.pure rfl rfl rfl (PureOp.move rfl) ?_
            refine SL.pure rfl rfl rfl (PureOp.add rfl rfl (fun _ => by omega)) ?_
            refine SL.pure rfl rfl rfl (PureOp.assign rfl) ?_
            refine SL.nil ?_
            refine QX.round (σ := Nat × Nat × Option Addr × Nat × List Flt) (Ef := fun q_ => [(0, 0, .agg #[.string eq, .slice az 1 cz]), (1, 0, .string p), (2, 0, .pointer (some ⟨b1, 0, none⟩)), (4, 0, .slice none 0 0), (6, 0, .int .i64 ((q_.1 : Nat) : Int)), (5, 0, .slice q_.2.2.1 q_.2.1 q_.2.2.2.1)]) (Hf := fun q_ => [Item.cells b1 [.string eq, .slice az 1 cz] 44, Item.own w0.heap.size q_.2.2.1 q_.2.1 q_.2.2.2.1 54 2 (cellsOf enc54 (q_.2.2.2.2))]) (I := fun q_ => q_.1 ≤ 1 ∧ q_.2.1 = q_.2.2.2.2.length ∧ q_.2.1 ≤ 100 * q_.1 ∧ (q_.2.2.2.2 = [] → 0 < q_.1 → (inR se ov = true ∧ 1 ≤ cl.length ∧ cl.length ≤ 26 ∧ (∀ j, j < cl.length → (0 ≤ (nth cl j).2 ∧ (0 < j → (nth cl (j - 1)).2 ≤ (nth cl j).2) ∧ (inR se ov = true → (nth cl j).2 ≤ se + ov)))))) (μ := fun q_ => 1 - q_.1) (s := (0, m, a, c, fs)) 2 ((0 + 1, (m + 1) + gs.length, ao14_, cap14_, (fs ++ [(4, (placeS p ⟨#[99, 97, 98, 105, 110]⟩ ((0 : Nat) : Int)))]) ++ gs)) ⟨⟨(by first | omega | (dsimp only; omega)), by show _ = ((fs ++ [(4, (placeS p ⟨#[99, 97, 98, 105, 110]⟩ ((0 : Nat) : Int)))]) ++ gs).length; simp only [List.length_append, List.length_cons, List.length_nil]; omega, (by first | omega | (dsimp only; omega)), fun he _ => absurd (show (fs ++ [(4, (placeS p ⟨#[99, 97, 98, 105, 110]⟩ ((0 : Nat) : Int)))]) ++ gs = [] from he) (by simp)⟩, by first | omega | (dsimp only; omega)⟩ ⟨rfl, rfl, rfl, rfl, rfl, rfl, rfl, rfl, rfl, rfl, rfl, rfl, trivial⟩ rfl
          · try simp only [Bool.and_eq_true, Bool.or_eq_true, Bool.not_eq_true', Bool.not_eq_false', Bool.and_eq_false_iff, Bool.or_eq_false_iff, decide_eq_true_eq, decide_eq_false_iff_not, Int.not_lt, Int.not_le, ne_eq, Decidable.not_not] at h9
            refine WC.skip ?_
            refine QX.then_ ?_
            refine WC.region ?_
            refine SL.pure rfl rfl rfl (PureOp.move rfl) ?_
            refine SL.pure rfl rfl rfl (PureOp.loads (vs := [.string eq, .slice az 1 cz]) Try.underlying44 rfl rfl (fun _ => (RowIs.cells 0 0 2 rfl rfl)) sz44) ?_
            refine SL.pure rfl rfl rfl (PureOp.move rfl) ?_
            refine SL.pure rfl rfl rfl (PureOp.move rfl) ?_
            refine SL.call (R := fun w v w' => ∃ fs a c, v = .slice a fs.length c ∧ w'.ownsRow w.heap.size 54 2 (.slice a fs.length c) fs.length (cellsOf enc54 fs) ∧ fs.length ≤ 90 ∧ (fs = [] → ∀ j, j < cl.length → (0 ≤ (nth cl j).2 ∧ (0 < j → (nth cl (j - 1)).2 ≤ (nth cl j).2) ∧ (inR se ov = true → (nth cl j).2 ≤ se + ov)))) rfl rfl rfl rfl rfl rfl callable42 (fun w hw => classes_ok nm eq se ov cl ac az cc cz hcb hnm hcs _ (by have q := placeS_size p ⟨#[99, 97, 98, 105, 110]⟩ ((0 : Nat) : Int); have e : (ByteArray.mk #[99, 97, 98, 105, 110]).size = 5 := rfl; omega) w (hz.below hw.below) (hc.below hw.below)) ?_
            rintro v w1 w2 hw1 hw2 hbw ⟨gs, ga, gc, rfl, hown, hgl, hgI⟩
            refine ⟨_, hw1.addslice hbw hown, ?_⟩
            refine SL.append 1 rfl rfl Try.underlying40 elem54 rfl rfl rfl rfl (SrcIs.own 3 rfl) (by exact all_one_cells (fun x => rfl) gs) (by omega) (by omega) (fun ao15_ cap15_ => ?_)
            refine SL.itemxs 1 rfl (show _ = cellsOf enc54 (fs ++ gs) from (cellsOf_append enc54 (fs) gs).symm) ?_
            refine SL.pure rfl rfl rfl (PureOp.assign rfl) ?_
            refine SL.nil ?_
            refine QX.normal_in ?_
            refine QX.then_ ?_
            refine WC.region ?_
            refine SL.pure rfl rfl rfl (PureOp.move rfl) ?_
            refine SL.pure rfl rfl rfl (PureOp.add rfl rfl (fun _ => by omega)) ?_
            refine SL.pure rfl rfl rfl (PureOp.assign rfl) ?_
            refine SL.nil ?_
            refine QX.round (σ := Nat × Nat × Option Addr × Nat × List Flt) (Ef := fun q_ => [(0, 0, .agg #[.string eq, .slice az 1 cz]), (1, 0, .string p), (2, 0, .pointer (some ⟨b1, 0, none⟩)), (4, 0, .slice none 0 0), (6, 0, .int .i64 ((q_.1 : Nat) : Int)), (5, 0, .slice q_.2.2.1 q_.2.1 q_.2.2.2.1)]) (Hf := fun q_ => [Item.cells b1 [.string eq, .slice az 1 cz] 44, Item.own w0.heap.size q_.2.2.1 q_.2.1 q_.2.2.2.1 54 2 (cellsOf enc54 (q_.2.2.2.2))]) (I := fun q_ => q_.1 ≤ 1 ∧ q_.2.1 = q_.2.2.2.2.length ∧ q_.2.1 ≤ 100 * q_.1 ∧ (q_.2.2.2.2 = [] → 0 < q_.1 → (inR se ov = true ∧ 1 ≤ cl.length ∧ cl.length ≤ 26 ∧ (∀ j, j < cl.length → (0 ≤ (nth cl j).2 ∧ (0 < j → (nth cl (j - 1)).2 ≤ (nth cl j).2) ∧ (inR se ov = true → (nth cl j).2 ≤ se + ov)))))) (μ := fun q_ => 1 - q_.1) (s := (0, m, a, c, fs)) 2 ((0 + 1, m + gs.length, ao15_, cap15_, fs ++ gs)) ⟨⟨(by first | omega | (dsimp only; omega)), by show _ = (fs ++ gs).length; simp only [List.length_append, List.length_cons, List.length_nil]; omega, (by first | omega | (dsimp only; omega)), fun he _ => ⟨by assumption, by omega, by omega, hgI (List.append_eq_nil_iff.1 (show fs ++ gs = [] from he)).2⟩⟩, by first | omega | (dsimp only; omega)⟩ ⟨rfl, rfl, rfl, rfl, rfl, rfl, rfl, rfl, rfl, rfl, rfl, rfl, trivial⟩ rfl
  · try simp only [Bool.and_eq_true, Bool.or_eq_true, Bool.not_eq_true', Bool.not_eq_false', Bool.and_eq_false_iff, Bool.or_eq_false_iff, decide_eq_true_eq, decide_eq_false_iff_not, Int.not_lt, Int.not_le, ne_eq, Decidable.not_not] at h1
    refine WC.exit ?_
    refine QX.exit_then ?_
    refine QX.exit_then ?_
    refine QX.exit_hit ?_
    refine QX.then_ ?_
    refine WC.seq ?_
    refine WC.region ?_
    refine SL.pure rfl rfl rfl (PureOp.move rfl) ?_
    refine SL.pure rfl rfl rfl (PureOp.assign rfl) ?_
    refine SL.nil_then ?_
    refine WC.ret ?_
    refine QX.ret1 rfl rfl ?_
    intro w hw
    subst hm
    exact ⟨_, _, _, rfl, hw.mem (i := 1) rfl, by omega, fun he => hI he (by omega)⟩

end Go.Proofs.Ytblgllngkbjfgaa
