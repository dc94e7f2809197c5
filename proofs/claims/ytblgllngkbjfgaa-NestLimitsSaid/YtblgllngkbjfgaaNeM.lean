import Derived.Test.YtblgllngkbjfgaaNeL
namespace Go.Proofs.Ytblgllngkbjfgaa
open Go Go.RowKit Eng
set_option linter.unusedVariables false
set_option linter.unusedSimpArgs false

set_option maxHeartbeats 4000000 in
set_option maxRecDepth 100000 in
theorem rcheck_ok (nm eq : ByteArray) (se ov : Int) (cl : List Cl) (ac az : Option Addr) (cc cz : Nat) (hcb : cl.length ≤ 30) (hnm : nm.size ≤ maxLen) (hcs : ∀ i, i < cl.length → (nth cl i).1.size ≤ maxLen) (heq : eq = ⟨#[51, 50, 48]⟩) (al : Option Addr) (cl_ : Nat) (w0 : World) (hl : SliceIn w0 2 al 1 cl_ (rowsF enc44 [(eq, (⟨az, cz, [(nm, se, ov, (⟨ac, cc, cl⟩ : SliceV Cl))]⟩ : SliceV (ByteArray × Int × Int × SliceV Cl)))])) (hz : SliceIn w0 4 az 1 cz (rowsF enc24 [(nm, se, ov, (⟨ac, cc, cl⟩ : SliceV Cl))])) (hc : SliceIn w0 2 ac cl.length cc (rowsF enc47 cl)) : FnC Try.prog 22 [.slice al 1 cl_] w0 fun v w' => ∃ a m c, v = .slice a m c ∧ (m = 0 → Rt se ov cl) := by
  refine fnc (N := 83) Try.func22 rfl rfl rfl ?_
  refine WC.seq ?_
  refine WC.region ?_
  refine SL.pure rfl rfl rfl (PureOp.assign rfl) ?_
  refine SL.nil_then ?_
  refine WC.seq ?_
  refine WC.region ?_
  refine SL.addnil 54 2 ?_
  refine SL.pure rfl rfl rfl (PureOp.assign rfl) ?_
  refine SL.nil_then ?_
  refine WC.seq ?_
  refine WC.seq ?_
  refine WC.region ?_
  refine SL.pure rfl rfl rfl (PureOp.assign rfl) ?_
  refine SL.nil_then ?_
  refine WC.block ?_
  refine WC.loop (σ := Nat × Nat × Option Addr × Nat × List Flt) (fun q_ => [(0, 0, .slice al 1 cl_), (2, 0, .slice none 0 0), (4, 0, .int .i64 ((q_.1 : Nat) : Int)), (3, 0, .slice q_.2.2.1 q_.2.1 q_.2.2.2.1)]) (fun q_ => [Item.own w0.heap.size q_.2.2.1 q_.2.1 q_.2.2.2.1 54 2 (cellsOf enc54 (q_.2.2.2.2))]) (fun q_ => q_.1 ≤ 1 ∧ q_.2.1 = q_.2.2.2.2.length ∧ q_.2.1 ≤ 200 * q_.1 ∧ (q_.2.2.2.2 = [] → 0 < q_.1 → (inR se ov = true ∧ 1 ≤ cl.length ∧ cl.length ≤ 26 ∧ (∀ j, j < cl.length → (0 ≤ (nth cl j).2 ∧ (0 < j → (nth cl (j - 1)).2 ≤ (nth cl j).2) ∧ (inR se ov = true → (nth cl j).2 ≤ se + ov)))))) (fun q_ => 1 - q_.1) 1 ((0, 0, none, 0, [])) (⟨by decide, rfl, by decide, fun _ h => absurd h (by decide)⟩) ⟨rfl, rfl, rfl, rfl, rfl, rfl, rfl, rfl, trivial⟩ rfl ?_
  rintro ⟨ii, m, a, c, fs⟩ ⟨hk, hm, hm3, hI⟩
  try dsimp only at *
  refine WC.seq ?_
  refine WC.seq ?_
  refine WC.region ?_
  refine SL.pure rfl rfl rfl (PureOp.move rfl) ?_
  refine SL.pure rfl rfl rfl (PureOp.move rfl) ?_
  refine SL.pure rfl rfl rfl (PureOp.len rfl Try.underlying45) ?_
  refine SL.pure rfl rfl rfl (PureOp.lss rfl rfl) ?_
  refine SL.nil_then ?_
  refine WC.cond rfl (fun h1 => ?_) (fun h1 => ?_)
  · try simp only [Bool.and_eq_true, Bool.or_eq_true, Bool.not_eq_true', Bool.not_eq_false', Bool.and_eq_false_iff, Bool.or_eq_false_iff, decide_eq_true_eq, decide_eq_false_iff_not, Int.not_lt, Int.not_le, ne_eq, Decidable.not_not] at h1
    obtain rfl : ii = 0 := by omega
    refine WC.skip ?_
    refine QX.then_ ?_
    refine WC.seq ?_
    refine WC.block ?_
    refine WC.seq ?_
    refine WC.region ?_
    refine SL.pure rfl rfl rfl (PureOp.move rfl) ?_
    refine SL.calle rfl rfl rfl rfl rfl rfl callable30 (fun w hw => place_ok _ _ (by decide) (by decide) _ (by omega) w) ?_
    refine SL.pure rfl rfl rfl (PureOp.assign rfl) ?_
    refine SL.pure rfl rfl rfl (PureOp.assign rfl) ?_
    refine SL.nil_then ?_
    refine WC.seq ?_
    refine WC.seq ?_
    refine WC.region ?_
    refine SL.pure rfl rfl rfl (PureOp.assign rfl) ?_
    refine SL.nil_then ?_
    refine WC.block ?_
    refine WC.loop (σ := Nat) (fun q_ => [(0, 0, .slice al 1 cl_), (2, 0, .slice none 0 0), (3, 0, .slice a m c), (4, 0, .int .i64 0), (5, 0, .string (placeS (⟨#[]⟩) (⟨#[99, 111, 110, 102, 105, 103]⟩) (0 : Int))), (8, 0, .int .i64 0), (9, 0, .slice al 1 cl_), (10, 0, .int .i64 1), (11, 0, .bool (decide (((0 : Nat) : Int) < (1 : Int)))), (14, 0, .int .i64 0), (15, 0, .string (placeS (⟨#[]⟩) (⟨#[99, 111, 110, 102, 105, 103]⟩) (0 : Int))), (7, 0, .int .i64 ((q_ : Nat) : Int)), (6, 0, .bool false)]) (fun q_ => [Item.own w0.heap.size a m c 54 2 (cellsOf enc54 (fs))]) (fun q_ => q_ ≤ 0) (fun q_ => 0 - q_) 1 (0) (Nat.le_refl _) ⟨rfl, rfl, rfl, rfl, rfl, rfl, rfl, rfl, rfl, rfl, rfl, rfl, rfl, rfl, rfl, rfl, rfl, rfl, rfl, rfl, rfl, rfl, rfl, rfl, rfl, rfl, trivial⟩ rfl ?_
    rintro q hq
    refine WC.seq ?_
    refine WC.seq ?_
    refine WC.region ?_
    refine SL.pure rfl rfl rfl (PureOp.move rfl) ?_
    refine SL.pure rfl rfl rfl (PureOp.move rfl) ?_
    refine SL.pure rfl rfl rfl (PureOp.lss rfl rfl) ?_
    refine SL.nil_then ?_
    refine WC.cond rfl (fun h2 => ?_) (fun h2 => ?_)
    · try simp only [Bool.and_eq_true, Bool.or_eq_true, Bool.not_eq_true', Bool.not_eq_false', Bool.and_eq_false_iff, Bool.or_eq_false_iff, decide_eq_true_eq, decide_eq_false_iff_not, Int.not_lt, Int.not_le, ne_eq, Decidable.not_not] at h2
      exact absurd h2 (by omega)
    · try simp only [Bool.and_eq_true, Bool.or_eq_true, Bool.not_eq_true', Bool.not_eq_false', Bool.and_eq_false_iff, Bool.or_eq_false_iff, decide_eq_true_eq, decide_eq_false_iff_not, Int.not_lt, Int.not_le, ne_eq, Decidable.not_not] at h2
      refine WC.exit ?_
      refine QX.exit_then ?_
      refine QX.exit_then ?_
      refine QX.exit_hit ?_
      refine QX.then_ ?_
      refine WC.seq ?_
      refine WC.seq ?_
      refine WC.region ?_
      refine SL.pure rfl rfl rfl (PureOp.move rfl) ?_
      refine SL.pure rfl rfl rfl (PureOp.move rfl) ?_
      refine SL.pure rfl rfl rfl (PureOp.indexAddr Try.underlying45 sz44 rfl rfl (AoOk.in_ hl) (fun _ => by omega)) ?_
      refine SL.pure rfl rfl rfl (PureOp.fieldAddr 0 Try.underlying44 rfl rfl sz9 rfl) ?_
      refine SL.pure rfl rfl rfl (PureOp.load (v := .string eq) Try.underlying9 rfl rfl (fun _ => (CellIs.in_ hl (0 : Int).toNat 0 (by omega) (by omega)))) ?_
      refine SL.calle rfl rfl rfl rfl rfl rfl callable31 (fun w hw => code_ok eq (by subst heq; decide) 3 3 w) ?_
      refine SL.pure rfl rfl rfl (PureOp.not rfl) ?_
      refine SL.nil_then ?_
      refine WC.cond rfl (fun h3 => ?_) (fun h3 => ?_)
      · try simp only [Bool.and_eq_true, Bool.or_eq_true, Bool.not_eq_true', Bool.not_eq_false', Bool.and_eq_false_iff, Bool.or_eq_false_iff, decide_eq_true_eq, decide_eq_false_iff_not, Int.not_lt, Int.not_le, ne_eq, Decidable.not_not] at h3
        refine WC.region ?_
        refine SL.pure rfl rfl rfl (PureOp.move rfl) ?_
        refine SL.pure rfl rfl rfl (PureOp.move rfl) ?_
        refine SL.pure rfl rfl rfl (PureOp.build bld54 rfl rfl) ?_
        refine SL.buildSlice rfl rfl Try.underlying40 elem54 rfl rfl rfl rfl (fun b1 hb1 => ?_)
        refine SL.append 0 rfl rfl Try.underlying40 elem54 rfl rfl rfl rfl (SrcIs.own 1 rfl) (by rfl) (by omega) (by omega) (fun ao1_ cap1_ => ?_)
        refine SL.itemxs 0 rfl (show _ = cellsOf enc54 (fs ++ [(5, (placeS (⟨#[]⟩) (⟨#[99, 111, 110, 102, 105, 103]⟩) (0 : Int)))]) from by rw [cellsOf_append (l := fs), cellsOf_one]; rfl) ?_
        refine SL.pure rfl rfl rfl (PureOp.assign rfl) ?_
        refine SL.nil_then ?_
        refine WC.seq ?_
        refine WC.seq ?_
        refine WC.region ?_
        refine SL.pure rfl rfl rfl (PureOp.move rfl) ?_
        refine SL.nil_then ?_
        refine WC.condF rfl ?_
        refine WC.skip ?_
        refine QX.then_ ?_
        refine WC.seq ?_
        refine WC.seq ?_
        refine WC.region ?_
        refine SL.pure rfl rfl rfl (PureOp.move rfl) ?_
        refine SL.pure rfl rfl rfl (PureOp.move rfl) ?_
        refine SL.pure rfl rfl rfl (PureOp.indexAddr Try.underlying45 sz44 rfl rfl (AoOk.in_ hl) (fun _ => by omega)) ?_
        refine SL.pure rfl rfl rfl (PureOp.fieldAddr 1 Try.underlying44 rfl rfl sz42 rfl) ?_
        refine SL.pure rfl rfl rfl (PureOp.load (v := .slice az 1 cz) Try.underlying42 rfl rfl (fun _ => (CellIs.in_ hl (0 : Int).toNat 1 (by omega) (by omega)))) ?_
        refine SL.pure rfl rfl rfl (PureOp.len rfl Try.underlying42) ?_
        refine SL.pure rfl rfl rfl (PureOp.lss rfl rfl) ?_
        refine SL.pure rfl rfl rfl (PureOp.move rfl) ?_
        refine SL.newg 60 false rfl ?_
        refine SL.gpure (c := 1) rfl rfl rfl rfl rfl rfl rfl (PureOp.move rfl) ?_
        refine SL.gpure (c := 1) rfl rfl rfl rfl rfl rfl rfl (PureOp.move rfl) ?_
        refine SL.gpure (c := 1) rfl rfl rfl rfl rfl rfl rfl (PureOp.indexAddr Try.underlying45 sz44 rfl rfl (AoOk.in_ hl) (by intro hg; simp [gval] at hg; omega)) ?_
        refine SL.gpure (c := 1) rfl rfl rfl rfl rfl rfl rfl (PureOp.fieldAddr 1 Try.underlying44 rfl rfl sz42 rfl) ?_
        refine SL.gpure (c := 1) rfl rfl rfl rfl rfl rfl rfl (PureOp.load (v := .slice az 1 cz) Try.underlying42 rfl rfl (by intro hg; simp [gval] at hg; exact (CellIs.in_ hl (0 : Int).toNat 1 (by omega) (by omega)))) ?_
        refine SL.gpure (c := 1) rfl rfl rfl rfl rfl rfl rfl (PureOp.len rfl Try.underlying42) ?_
        refine SL.gpure (c := 1) rfl rfl rfl rfl rfl rfl rfl (PureOp.gtr rfl rfl) ?_
        refine SL.pure rfl rfl rfl (PureOp.or_ rfl rfl rfl rfl) ?_
        refine SL.nil_then ?_
        refine WC.cond rfl (fun h4 => ?_) (fun h4 => ?_)
        · try simp only [Bool.and_eq_true, Bool.or_eq_true, Bool.not_eq_true', Bool.not_eq_false', Bool.and_eq_false_iff, Bool.or_eq_false_iff, decide_eq_true_eq, decide_eq_false_iff_not, Int.not_lt, Int.not_le, ne_eq, Decidable.not_not] at h4
          refine WC.region ?_
          refine SL.pure rfl rfl rfl (PureOp.move rfl) ?_
          refine SL.pure rfl rfl rfl (PureOp.move rfl) ?_
          refine SL.pure rfl rfl rfl (PureOp.build bld54 rfl rfl) ?_
          refine SL.buildSlice rfl rfl Try.underlying40 elem54 rfl rfl rfl rfl (fun b2 hb2 => ?_)
          refine SL.append 0 rfl rfl Try.underlying40 elem54 rfl rfl rfl rfl (SrcIs.own 2 rfl) (by rfl) (by omega) (by omega) (fun ao2_ cap2_ => ?_)
          refine SL.itemxs 0 rfl (show _ = cellsOf enc54 ((fs ++ [(5, (placeS (⟨#[]⟩) (⟨#[99, 111, 110, 102, 105, 103]⟩) (0 : Int)))]) ++ [(4, (placeS (⟨#[]⟩) (⟨#[99, 111, 110, 102, 105, 103]⟩) (0 : Int)))]) from by rw [cellsOf_append (l := (fs ++ [(5, (placeS (⟨#[]⟩) (⟨#[99, 111, 110, 102, 105, 103]⟩) (0 : Int)))])), cellsOf_one]; rfl) ?_
          refine SL.pure rfl rfl rfl (PureOp.assign rfl) ?_
          refine SL.nil_then ?_
          refine WC.region ?_
          refine SL.pure rfl rfl rfl (PureOp.move rfl) ?_
          refine SL.pure rfl rfl rfl (PureOp.move rfl) ?_
          refine SL.pure rfl rfl rfl (PureOp.move rfl) ?_
          refine SL.pure rfl rfl rfl (PureOp.indexAddr Try.underlying45 sz44 rfl rfl (AoOk.in_ hl) (fun _ => by omega)) ?_
          refine SL.pure rfl rfl rfl (PureOp.loads (vs := [.string eq, .slice az 1 cz]) Try.underlying44 rfl rfl (fun _ => (RowIs.in_ hl (0 : Int).toNat 0 2 (by omega) (by omega))) sz44) ?_
          refine SL.pure rfl rfl rfl (PureOp.move rfl) ?_
          refine SL.call (R := fun w v w' => ∃ fs a c, v = .slice a fs.length c ∧ w'.ownsRow w.heap.size 54 2 (.slice a fs.length c) fs.length (cellsOf enc54 fs) ∧ fs.length ≤ 100 ∧ (fs = [] → (inR se ov = true ∧ 1 ≤ cl.length ∧ cl.length ≤ 26 ∧ (∀ j, j < cl.length → (0 ≤ (nth cl j).2 ∧ (0 < j → (nth cl (j - 1)).2 ≤ (nth cl j).2) ∧ (inR se ov = true → (nth cl j).2 ≤ se + ov)))))) rfl rfl rfl rfl rfl rfl callable32 (fun w hw => cabins_ok nm eq se ov cl ac az cc cz hcb hnm hcs _ (by decide) w (hz.below hw.below) (hc.below hw.below)) ?_
          rintro v w1 w2 hw1 hw2 hbw ⟨gs, ga, gc, rfl, hown, hgl, hgI⟩
          refine ⟨_, hw1.addslice hbw hown, ?_⟩
          refine SL.append 0 rfl rfl Try.underlying40 elem54 rfl rfl rfl rfl (SrcIs.own 3 rfl) (by exact all_one_cells (fun x => rfl) gs) (by omega) (by omega) (fun ao3_ cap3_ => ?_)
          refine SL.itemxs 0 rfl (show _ = cellsOf enc54 (((fs ++ [(5, (placeS (⟨#[]⟩) (⟨#[99, 111, 110, 102, 105, 103]⟩) (0 : Int)))]) ++ [(4, (placeS (⟨#[]⟩) (⟨#[99, 111, 110, 102, 105, 103]⟩) (0 : Int)))]) ++ gs) from (cellsOf_append enc54 ((fs ++ [(5, (placeS (⟨#[]⟩) (⟨#[99, 111, 110, 102, 105, 103]⟩) (0 : Int)))]) ++ [(4, (placeS (⟨#[]⟩) (⟨#[99, 111, 110, 102, 105, 103]⟩) (0 : Int)))]) gs).symm) ?_
          refine SL.pure rfl rfl rfl (PureOp.assign rfl) ?_
          refine SL.nil ?_
          refine QX.normal_in ?_
          refine QX.then_ ?_
          refine WC.region ?_
          refine SL.pure rfl rfl rfl (PureOp.move rfl) ?_
          refine SL.pure rfl rfl rfl (PureOp.add rfl rfl (fun _ => by omega)) ?_
          refine SL.pure rfl rfl rfl (PureOp.assign rfl) ?_
          refine SL.nil ?_
          refine QX.round (σ := Nat × Nat × Option Addr × Nat × List Flt) (Ef := fun q_ => [(0, 0, .slice al 1 cl_), (2, 0, .slice none 0 0), (4, 0, .int .i64 ((q_.1 : Nat) : Int)), (3, 0, .slice q_.2.2.1 q_.2.1 q_.2.2.2.1)]) (Hf := fun q_ => [Item.own w0.heap.size q_.2.2.1 q_.2.1 q_.2.2.2.1 54 2 (cellsOf enc54 (q_.2.2.2.2))]) (I := fun q_ => q_.1 ≤ 1 ∧ q_.2.1 = q_.2.2.2.2.length ∧ q_.2.1 ≤ 200 * q_.1 ∧ (q_.2.2.2.2 = [] → 0 < q_.1 → (inR se ov = true ∧ 1 ≤ cl.length ∧ cl.length ≤ 26 ∧ (∀ j, j < cl.length → (0 ≤ (nth cl j).2 ∧ (0 < j → (nth cl (j - 1)).2 ≤ (nth cl j).2) ∧ (inR se ov = true → (nth cl j).2 ≤ se + ov)))))) (μ := fun q_ => 1 - q_.1) (s := (0, m, a, c, fs)) 1 ((0 + 1, ((m + 1) + 1) + gs.length, ao3_, cap3_, ((fs ++ [(5, (placeS (⟨#[]⟩) (⟨#[99, 111, 110, 102, 105, 103]⟩) (0 : Int)))]) ++ [(4, (placeS (⟨#[]⟩) (⟨#[99, 111, 110, 102, 105, 103]⟩) (0 : Int)))]) ++ gs)) ⟨⟨(by first | omega | (dsimp only; omega)), by show _ = (((fs ++ [(5, (placeS (⟨#[]⟩) (⟨#[99, 111, 110, 102, 105, 103]⟩) (0 : Int)))]) ++ [(4, (placeS (⟨#[]⟩) (⟨#[99, 111, 110, 102, 105, 103]⟩) (0 : Int)))]) ++ gs).length; simp only [List.length_append, List.length_cons, List.length_nil]; omega, (by first | omega | (dsimp only; omega)), fun he _ => absurd (show ((fs ++ [(5, (placeS (⟨#[]⟩) (⟨#[99, 111, 110, 102, 105, 103]⟩) (0 : Int)))]) ++ [(4, (placeS (⟨#[]⟩) (⟨#[99, 111, 110, 102, 105, 103]⟩) (0 : Int)))]) ++ gs = [] from he) (by simp)⟩, by first | omega | (dsimp only; omega)⟩ ⟨rfl, rfl, rfl, rfl, rfl, rfl, rfl, rfl, trivial⟩ rfl
        · try simp only [Bool.and_eq_true, Bool.or_eq_true, Bool.not_eq_true', Bool.not_eq_false', Bool.and_eq_false_iff, Bool.or_eq_false_iff, decide_eq_true_eq, decide_eq_false_iff_not, Int.not_lt, Int.not_le, ne_eq, Decidable.not_not] at h4
          refine WC.skip ?_
          refine QX.then_ ?_
          refine WC.region ?_
          refine SL.pure rfl rfl rfl (PureOp.move rfl) ?_
          refine SL.pure rfl rfl rfl (PureOp.move rfl) ?_
          refine SL.pure rfl rfl rfl (PureOp.move rfl) ?_
          refine SL.pure rfl rfl rfl (PureOp.indexAddr Try.underlying45 sz44 rfl rfl (AoOk.in_ hl) (fun _ => by omega)) ?_
          refine SL.pure rfl rfl rfl (PureOp.loads (vs := [.string eq, .slice az 1 cz]) Try.underlying44 rfl rfl (fun _ => (RowIs.in_ hl (0 : Int).toNat 0 2 (by omega) (by omega))) sz44) ?_
          refine SL.pure rfl rfl rfl (PureOp.move rfl) ?_
          refine SL.call (R := fun w v w' => ∃ fs a c, v = .slice a fs.length c ∧ w'.ownsRow w.heap.size 54 2 (.slice a fs.length c) fs.length (cellsOf enc54 fs) ∧ fs.length ≤ 100 ∧ (fs = [] → (inR se ov = true ∧ 1 ≤ cl.length ∧ cl.length ≤ 26 ∧ (∀ j, j < cl.length → (0 ≤ (nth cl j).2 ∧ (0 < j → (nth cl (j - 1)).2 ≤ (nth cl j).2) ∧ (inR se ov = true → (nth cl j).2 ≤ se + ov)))))) rfl rfl rfl rfl rfl rfl callable32 (fun w hw => cabins_ok nm eq se ov cl ac az cc cz hcb hnm hcs _ (by decide) w (hz.below hw.below) (hc.below hw.below)) ?_
          rintro v w1 w2 hw1 hw2 hbw ⟨gs, ga, gc, rfl, hown, hgl, hgI⟩
          refine ⟨_, hw1.addslice hbw hown, ?_⟩
          refine SL.append 0 rfl rfl Try.underlying40 elem54 rfl rfl rfl rfl (SrcIs.own 2 rfl) (by exact all_one_cells (fun x => rfl) gs) (by omega) (by omega) (fun ao4_ cap4_ => ?_)
          refine SL.itemxs 0 rfl (show _ = cellsOf enc54 ((fs ++ [(5, (placeS (⟨#[]⟩) (⟨#[99, 111, 110, 102, 105, 103]⟩) (0 : Int)))]) ++ gs) from (cellsOf_append enc54 (fs ++ [(5, (placeS (⟨#[]⟩) (⟨#[99, 111, 110, 102, 105, 103]⟩) (0 : Int)))]) gs).symm) ?_
          refine SL.pure rfl rfl rfl (PureOp.assign rfl) ?_
          refine SL.nil ?_
          refine QX.normal_in ?_
          refine QX.then_ ?_
          refine WC.region ?_
          refine SL.pure rfl rfl rfl (PureOp.move rfl) ?_
          refine SL.pure rfl rfl rfl (PureOp.add rfl rfl (fun _ => by omega)) ?_
          refine SL.pure rfl rfl rfl (PureOp.assign rfl) ?_
          refine SL.nil ?_
          refine QX.round (σ := Nat × Nat × Option Addr × Nat × List Flt) (Ef := fun q_ => [(0, 0, .slice al 1 cl_), (2, 0, .slice none 0 0), (4, 0, .int .i64 ((q_.1 : Nat) : Int)), (3, 0, .slice q_.2.2.1 q_.2.1 q_.2.2.2.1)]) (Hf := fun q_ => [Item.own w0.heap.size q_.2.2.1 q_.2.1 q_.2.2.2.1 54 2 (cellsOf enc54 (q_.2.2.2.2))]) (I := fun q_ => q_.1 ≤ 1 ∧ q_.2.1 = q_.2.2.2.2.length ∧ q_.2.1 ≤ 200 * q_.1 ∧ (q_.2.2.2.2 = [] → 0 < q_.1 → (inR se ov = true ∧ 1 ≤ cl.length ∧ cl.length ≤ 26 ∧ (∀ j, j < cl.length → (0 ≤ (nth cl j).2 ∧ (0 < j → (nth cl (j - 1)).2 ≤ (nth cl j).2) ∧ (inR se ov = true → (nth cl j).2 ≤ se + ov)))))) (μ := fun q_ => 1 - q_.1) (s := (0, m, a, c, fs)) 1 ((0 + 1, (m + 1) + gs.length, ao4_, cap4_, (fs ++ [(5, (placeS (⟨#[]⟩) (⟨#[99, 111, 110, 102, 105, 103]⟩) (0 : Int)))]) ++ gs)) ⟨⟨(by first | omega | (dsimp only; omega)), by show _ = ((fs ++ [(5, (placeS (⟨#[]⟩) (⟨#[99, 111, 110, 102, 105, 103]⟩) (0 : Int)))]) ++ gs).length; simp only [List.length_append, List.length_cons, List.length_nil]; omega, (by first | omega | (dsimp only; omega)), fun he _ => absurd (show (fs ++ [(5, (placeS (⟨#[]⟩) (⟨#[99, 111, 110, 102, 105, 103]⟩) (0 : Int)))]) ++ gs = [] from he) (by simp)⟩, by first | omega | (dsimp only; omega)⟩ ⟨rfl, rfl, rfl, rfl, rfl, rfl, rfl, rfl, trivial⟩ rfl
      · try simp only [Bool.and_eq_true, Bool.or_eq_true, Bool.not_eq_true', Bool.not_eq_false', Bool.and_eq_false_iff, Bool.or_eq_false_iff, decide_eq_true_eq, decide_eq_false_iff_not, Int.not_lt, Int.not_le, ne_eq, Decidable.not_not] at h3
        refine WC.skip ?_
        refine QX.then_ ?_
        refine WC.seq ?_
        refine WC.seq ?_
        refine WC.region ?_
        refine SL.pure rfl rfl rfl (PureOp.move rfl) ?_
        refine SL.nil_then ?_
        refine WC.condF rfl ?_
        refine WC.skip ?_
        refine QX.then_ ?_
        refine WC.seq ?_
        refine WC.seq ?_
        refine WC.region ?_
        refine SL.pure rfl rfl rfl (PureOp.move rfl) ?_
        refine SL.pure rfl rfl rfl (PureOp.move rfl) ?_
        refine SL.pure rfl rfl rfl (PureOp.indexAddr Try.underlying45 sz44 rfl rfl (AoOk.in_ hl) (fun _ => by omega)) ?_
        refine SL.pure rfl rfl rfl (PureOp.fieldAddr 1 Try.underlying44 rfl rfl sz42 rfl) ?_
        refine SL.pure rfl rfl rfl (PureOp.load (v := .slice az 1 cz) Try.underlying42 rfl rfl (fun _ => (CellIs.in_ hl (0 : Int).toNat 1 (by omega) (by omega)))) ?_
        refine SL.pure rfl rfl rfl (PureOp.len rfl Try.underlying42) ?_
        refine SL.pure rfl rfl rfl (PureOp.lss rfl rfl) ?_
        refine SL.pure rfl rfl rfl (PureOp.move rfl) ?_
        refine SL.newg 60 false rfl ?_
        refine SL.gpure (c := 1) rfl rfl rfl rfl rfl rfl rfl (PureOp.move rfl) ?_
        refine SL.gpure (c := 1) rfl rfl rfl rfl rfl rfl rfl (PureOp.move rfl) ?_
        refine SL.gpure (c := 1) rfl rfl rfl rfl rfl rfl rfl (PureOp.indexAddr Try.underlying45 sz44 rfl rfl (AoOk.in_ hl) (by intro hg; simp [gval] at hg; omega)) ?_
        refine SL.gpure (c := 1) rfl rfl rfl rfl rfl rfl rfl (PureOp.fieldAddr 1 Try.underlying44 rfl rfl sz42 rfl) ?_
        refine SL.gpure (c := 1) rfl rfl rfl rfl rfl rfl rfl (PureOp.load (v := .slice az 1 cz) Try.underlying42 rfl rfl (by intro hg; simp [gval] at hg; exact (CellIs.in_ hl (0 : Int).toNat 1 (by omega) (by omega)))) ?_
        refine SL.gpure (c := 1) rfl rfl rfl rfl rfl rfl rfl (PureOp.len rfl Try.underlying42) ?_
        refine SL.gpure (c := 1) rfl rfl rfl rfl rfl rfl rfl (PureOp.gtr rfl rfl) ?_
        refine SL.pure rfl rfl rfl (PureOp.or_ rfl rfl rfl rfl) ?_
        refine SL.nil_then ?_
        refine WC.cond rfl (fun h5 => ?_) (fun h5 => ?_)
        · try simp only [Bool.and_eq_true, Bool.or_eq_true, Bool.not_eq_true', Bool.not_eq_false', Bool.and_eq_false_iff, Bool.or_eq_false_iff, decide_eq_true_eq, decide_eq_false_iff_not, Int.not_lt, Int.not_le, ne_eq, Decidable.not_not] at h5
          refine WC.region ?_
          refine SL.pure rfl rfl rfl (PureOp.move rfl) ?_
          refine SL.pure rfl rfl rfl (PureOp.move rfl) ?_
          refine SL.pure rfl rfl rfl (PureOp.build bld54 rfl rfl) ?_
          refine SL.buildSlice rfl rfl Try.underlying40 elem54 rfl rfl rfl rfl (fun b3 hb3 => ?_)
          refine SL.append 0 rfl rfl Try.underlying40 elem54 rfl rfl rfl rfl (SrcIs.own 1 rfl) (by rfl) (by omega) (by omega) (fun ao5_ cap5_ => ?_)
          refine SL.itemxs 0 rfl (show _ = cellsOf enc54 (fs ++ [(4, (placeS (⟨#[]⟩) (⟨#[99, 111, 110, 102, 105, 103]⟩) (0 : Int)))]) from by rw [cellsOf_append (l := fs), cellsOf_one]; rfl) ?_
          refine SL.pure rfl rfl rfl (PureOp.assign rfl) ?_
          refine SL.nil_then ?_
          refine WC.region ?_
          refine SL.pure rfl rfl rfl (PureOp.move rfl) ?_
          refine SL.pure rfl rfl rfl (PureOp.move rfl) ?_
          refine SL.pure rfl rfl rfl (PureOp.move rfl) ?_
          refine SL.pure rfl rfl rfl (PureOp.indexAddr Try.underlying45 sz44 rfl rfl (AoOk.in_ hl) (fun _ => by omega)) ?_
          refine SL.pure rfl rfl rfl (PureOp.loads (vs := [.string eq, .slice az 1 cz]) Try.underlying44 rfl rfl (fun _ => (RowIs.in_ hl (0 : Int).toNat 0 2 (by omega) (by omega))) sz44) ?_
          refine SL.pure rfl rfl rfl (PureOp.move rfl) ?_
          refine SL.call (R := fun w v w' => ∃ fs a c, v = .slice a fs.length c ∧ w'.ownsRow w.heap.size 54 2 (.slice a fs.length c) fs.length (cellsOf enc54 fs) ∧ fs.length ≤ 100 ∧ (fs = [] → (inR se ov = true ∧ 1 ≤ cl.length ∧ cl.length ≤ 26 ∧ (∀ j, j < cl.length → (0 ≤ (nth cl j).2 ∧ (0 < j → (nth cl (j - 1)).2 ≤ (nth cl j).2) ∧ (inR se ov = true → (nth cl j).2 ≤ se + ov)))))) rfl rfl rfl rfl rfl rfl callable32 (fun w hw => cabins_ok nm eq se ov cl ac az cc cz hcb hnm hcs _ (by decide) w (hz.below hw.below) (hc.below hw.below)) ?_
          rintro v w1 w2 hw1 hw2 hbw ⟨gs, ga, gc, rfl, hown, hgl, hgI⟩
          refine ⟨_, hw1.addslice hbw hown, ?_⟩
          refine SL.append 0 rfl rfl Try.underlying40 elem54 rfl rfl rfl rfl (SrcIs.own 2 rfl) (by exact all_one_cells (fun x => rfl) gs) (by omega) (by omega) (fun ao6_ cap6_ => ?_)
          refine SL.itemxs 0 rfl (show _ = cellsOf enc54 ((fs ++ [(4, (placeS (⟨#[]⟩) (⟨#[99, 111, 110, 102, 105, 103]⟩) (0 : Int)))]) ++ gs) from (cellsOf_append enc54 (fs ++ [(4, (placeS (⟨#[]⟩) (⟨#[99, 111, 110, 102, 105, 103]⟩) (0 : Int)))]) gs).symm) ?_
          refine SL.pure rfl rfl rfl (PureOp.assign rfl) ?_
          refine SL.nil ?_
          refine QX.normal_in ?_
          refine QX.then_ ?_
          refine WC.region ?_
          refine SL.pure rfl rfl rfl (PureOp.move rfl) ?_
          refine SL.pure rfl rfl rfl (PureOp.add rfl rfl (fun _ => by omega)) ?_
          refine SL.pure rfl rfl rfl (PureOp.assign rfl) ?_
          refine SL.nil ?_
          refine QX.round (σ := Nat × Nat × Option Addr × Nat × List Flt) (Ef := fun q_ => [(0, 0, .slice al 1 cl_), (2, 0, .slice none 0 0), (4, 0, .int .i64 ((q_.1 : Nat) : Int)), (3, 0, .slice q_.2.2.1 q_.2.1 q_.2.2.2.1)]) (Hf := fun q_ => [Item.own w0.heap.size q_.2.2.1 q_.2.1 q_.2.2.2.1 54 2 (cellsOf enc54 (q_.2.2.2.2))]) (I := fun q_ => q_.1 ≤ 1 ∧ q_.2.1 = q_.2.2.2.2.length ∧ q_.2.1 ≤ 200 * q_.1 ∧ (q_.2.2.2.2 = [] → 0 < q_.1 → (inR se ov = true ∧ 1 ≤ cl.length ∧ cl.length ≤ 26 ∧ (∀ j, j < cl.length → (0 ≤ (nth cl j).2 ∧ (0 < j → (nth cl (j - 1)).2 ≤ (nth cl j).2) ∧ (inR se ov = true → (nth cl j).2 ≤ se + ov)))))) (μ := fun q_ => 1 - q_.1) (s := (0, m, a, c, fs)) 1 ((0 + 1, (m + 1) + gs.length, ao6_, cap6_, (fs ++ [(4, (placeS (⟨#[]⟩) (⟨#[99, 111, 110, 102, 105, 103]⟩) (0 : Int)))]) ++ gs)) ⟨⟨(by first | omega | (dsimp only; omega)), by show _ = ((fs ++ [(4, (placeS (⟨#[]⟩) (⟨#[99, 111, 110, 102, 105, 103]⟩) (0 : Int)))]) ++ gs).length; simp only [List.length_append, List.length_cons, List.length_nil]; omega, (by first | omega | (dsimp only; omega)), fun he _ => absurd (show (fs ++ [(4, (placeS (⟨#[]⟩) (⟨#[99, 111, 110, 102, 105, 103]⟩) (0 : Int)))]) ++ gs = [] from he) (by simp)⟩, by first | omega | (dsimp only; omega)⟩ ⟨rfl, rfl, rfl, rfl, rfl, rfl, rfl, rfl, trivial⟩ rfl
        · try simp only [Bool.and_eq_true, Bool.or_eq_true, Bool.not_eq_true', Bool.not_eq_false', Bool.and_eq_false_iff, Bool.or_eq_false_iff, decide_eq_true_eq, decide_eq_false_iff_not, Int.not_lt, Int.not_le, ne_eq, Decidable.not_not] at h5
          refine WC.skip ?_
          refine QX.then_ ?_
          refine WC.region ?_
          refine SL.pure rfl rfl rfl (PureOp.move rfl) ?_
          refine SL.pure rfl rfl rfl (PureOp.move rfl) ?_
          refine SL.pure rfl rfl rfl (PureOp.move rfl) ?_
          refine SL.pure rfl rfl rfl (PureOp.indexAddr Try.underlying45 sz44 rfl rfl (AoOk.in_ hl) (fun _ => by omega)) ?_
          refine SL.pure rfl rfl rfl (PureOp.loads (vs := [.string eq, .slice az 1 cz]) Try.underlying44 rfl rfl (fun _ => (RowIs.in_ hl (0 : Int).toNat 0 2 (by omega) (by omega))) sz44) ?_
          refine SL.pure rfl rfl rfl (PureOp.move rfl) ?_
          refine SL.call (R := fun w v w' => ∃ fs a c, v = .slice a fs.length c ∧ w'.ownsRow w.heap.size 54 2 (.slice a fs.length c) fs.length (cellsOf enc54 fs) ∧ fs.length ≤ 100 ∧ (fs = [] → (inR se ov = true ∧ 1 ≤ cl.length ∧ cl.length ≤ 26 ∧ (∀ j, j < cl.length → (0 ≤ (nth cl j).2 ∧ (0 < j → (nth cl (j - 1)).2 ≤ (nth cl j).2) ∧ (inR se ov = true → (nth cl j).2 ≤ se + ov)))))) rfl rfl rfl rfl rfl rfl callable32 (fun w hw => cabins_ok nm eq se ov cl ac az cc cz hcb hnm hcs _ (by decide) w (hz.below hw.below) (hc.below hw.below)) ?_
          rintro v w1 w2 hw1 hw2 hbw ⟨gs, ga, gc, rfl, hown, hgl, hgI⟩
          refine ⟨_, hw1.addslice hbw hown, ?_⟩
          refine SL.append 0 rfl rfl Try.underlying40 elem54 rfl rfl rfl rfl (SrcIs.own 1 rfl) (by exact all_one_cells (fun x => rfl) gs) (by omega) (by omega) (fun ao7_ cap7_ => ?_)
          refine SL.itemxs 0 rfl (show _ = cellsOf enc54 (fs ++ gs) from (cellsOf_append enc54 (fs) gs).symm) ?_
          refine SL.pure rfl rfl rfl (PureOp.assign rfl) ?_
          refine SL.nil ?_
          refine QX.normal_in ?_
          refine QX.then_ ?_
          refine WC.region ?_
          refine SL.pure rfl rfl rfl (PureOp.move rfl) ?_
          refine SL.pure rfl rfl rfl (PureOp.add rfl rfl (fun _ => by omega)) ?_
          refine SL.pure rfl rfl rfl (PureOp.assign rfl) ?_
          refine SL.nil ?_
          refine QX.round (σ := Nat × Nat × Option Addr × Nat × List Flt) (Ef := fun q_ => [(0, 0, .slice al 1 cl_), (2, 0, .slice none 0 0), (4, 0, .int .i64 ((q_.1 : Nat) : Int)), (3, 0, .slice q_.2.2.1 q_.2.1 q_.2.2.2.1)]) (Hf := fun q_ => [Item.own w0.heap.size q_.2.2.1 q_.2.1 q_.2.2.2.1 54 2 (cellsOf enc54 (q_.2.2.2.2))]) (I := fun q_ => q_.1 ≤ 1 ∧ q_.2.1 = q_.2.2.2.2.length ∧ q_.2.1 ≤ 200 * q_.1 ∧ (q_.2.2.2.2 = [] → 0 < q_.1 → (inR se ov = true ∧ 1 ≤ cl.length ∧ cl.length ≤ 26 ∧ (∀ j, j < cl.length → (0 ≤ (nth cl j).2 ∧ (0 < j → (nth cl (j - 1)).2 ≤ (nth cl j).2) ∧ (inR se ov = true → (nth cl j).2 ≤ se + ov)))))) (μ := fun q_ => 1 - q_.1) (s := (0, m, a, c, fs)) 1 ((0 + 1, m + gs.length, ao7_, cap7_, fs ++ gs)) ⟨⟨(by first | omega | (dsimp only; omega)), by show _ = (fs ++ gs).length; simp only [List.length_append, List.length_cons, List.length_nil]; omega, (by first | omega | (dsimp only; omega)), fun he _ => hgI (List.append_eq_nil_iff.1 (show fs ++ gs = [] from he)).2⟩, by first | omega | (dsimp only; omega)⟩ ⟨rfl, rfl, rfl, rfl, rfl, rfl, rfl, rfl, trivial⟩ rfl
  · try simp only [Bool.and_eq_true, Bool.or_eq_true, Bool.not_eq_true', Bool.not_eq_false', Bool.and_eq_false_iff, Bool.or_eq_false_iff, decide_eq_true_eq, decide_eq_false_iff_not, Int.not_lt, Int.not_le, ne_eq, Decidable.not_not] at h1
    refine WC.exit ?_
    refine QX.exit_then ?_
    refine QX.exit_then ?_
    refine QX.exit_hit ?_
    refine QX.then_ ?_
    refine WC.seq ?_
    refine WC.region ?_
    refine SL.pure rfl rfl rfl (PureOp.move rfl) ?_
    refine SL.pure rfl rfl rfl (PureOp.assign rfl) ?_
    refine SL.nil_then ?_
    refine WC.ret ?_
    refine QX.ret1 rfl rfl ?_
    intro w hw
    refine ⟨_, _, _, rfl, fun he => ?_⟩
    subst hm
    obtain rfl : ii = 1 := by omega
    obtain ⟨q1, q2, q3, q4⟩ := hI (List.eq_nil_of_length_eq_zero he) (by decide)
    have qb := inR_bd q1
    exact ⟨⟨qb.1, qb.2.1⟩, ⟨qb.2.2.1, qb.2.2.2⟩, ⟨q2, q3⟩, fun i hi => ⟨(q4 i hi).1, (q4 i hi).2.2 q1⟩, fun i hi => by have q := (q4 (i + 1) hi).2.1 (by omega); rwa [show i + 1 - 1 = i from by omega] at q⟩

set_option maxHeartbeats 4000000 in
set_option maxRecDepth 100000 in
theorem lright_ok (nm : ByteArray) (se ov : Int) (cl : List Cl) (ac : Option Addr) (cc : Nat) (hnm : nm.size ≤ maxLen) (hcs : ∀ i, i < cl.length → (nth cl i).1.size ≤ maxLen) (l : List Int) (ao : Option Addr) (n cap : Nat) (w0 : World) (hc : SliceIn w0 2 ac cl.length cc (rowsF enc47 cl)) : FnC Try.prog 8 [.agg #[.string nm, .int .i64 se, .int .i64 ov, .slice ac cl.length cc], .slice ao n cap] w0 fun v w' => ∃ b, v = .bool b ∧ (b = true → cl.length ≤ 30 ∧ n ≤ 60 ∧ Rt se ov cl) := by
  refine fnc (N := 29) Try.func8 rfl rfl rfl ?_
  refine WC.seq ?_
  refine WC.region ?_
  refine SL.box rfl rfl rfl (fun b1 hb1 => ?_)
  refine SL.pure rfl rfl rfl (PureOp.assign rfl) ?_
  refine SL.nil_then ?_
  refine WC.seq ?_
  refine WC.region ?_
  refine SL.pure rfl rfl rfl (PureOp.fieldAddrT 3 Try.underlying24 rfl sz22 rfl rfl) ?_
  refine SL.pure rfl rfl rfl (PureOp.load (v := .slice ac cl.length cc) Try.underlying22 rfl rfl (fun _ => (CellIs.cells 0 rfl rfl))) ?_
  refine SL.pure rfl rfl rfl (PureOp.len rfl Try.underlying22) ?_
  refine SL.pure rfl rfl rfl (PureOp.leq rfl rfl) ?_
  refine SL.pure rfl rfl rfl (PureOp.move rfl) ?_
  refine SL.newg 9 true rfl ?_
  refine SL.gpure (c := 1) rfl rfl rfl rfl rfl rfl rfl (PureOp.move rfl) ?_
  refine SL.gpure (c := 1) rfl rfl rfl rfl rfl rfl rfl (PureOp.len rfl Try.underlying25) ?_
  refine SL.gpure (c := 1) rfl rfl rfl rfl rfl rfl rfl (PureOp.leq rfl rfl) ?_
  refine SL.pure rfl rfl rfl (PureOp.and_ rfl rfl rfl rfl) ?_
  refine SL.pure rfl rfl rfl (PureOp.move rfl) ?_
  refine SL.newg 14 true rfl ?_
  refine SL.gpure (c := 2) rfl rfl rfl rfl rfl rfl rfl (PureOp.fieldAddrT 0 Try.underlying24 rfl sz9 rfl rfl) ?_
  refine SL.gpure (c := 2) rfl rfl rfl rfl rfl rfl rfl (PureOp.load (v := .string nm) Try.underlying9 rfl rfl (fun _ => (CellIs.cells 0 rfl rfl))) ?_
  refine SL.gpure (c := 2) rfl rfl rfl rfl rfl rfl rfl (PureOp.lens rfl Try.underlying9) ?_
  refine SL.gpure (c := 2) rfl rfl rfl rfl rfl rfl rfl (PureOp.leq rfl rfl) ?_
  refine SL.pure rfl rfl rfl (PureOp.and_ rfl rfl rfl rfl) ?_
  refine SL.pure rfl rfl rfl (PureOp.move rfl) ?_
  refine SL.split 20 rfl (fun hs20 => ?_) (fun hs20 => ?_)
  · try simp only [Bool.and_eq_true, Bool.or_eq_true, Bool.not_eq_true', Bool.not_eq_false', Bool.and_eq_false_iff, Bool.or_eq_false_iff, decide_eq_true_eq, decide_eq_false_iff_not, Int.not_lt, Int.not_le, ne_eq, Decidable.not_not] at hs20
    refine SL.ung rfl rfl rfl rfl ?_
    refine SL.pure rfl rfl rfl (PureOp.loads (vs := [.string nm, .int .i64 se, .int .i64 ov, .slice ac cl.length cc]) Try.underlying24 rfl rfl (fun _ => (RowIs.cells 0 0 4 rfl rfl)) sz24) ?_
    refine SL.ung rfl rfl rfl rfl ?_
    refine SL.buildSlice rfl rfl Try.underlying42 elem24 rfl rfl rfl rfl (fun b2 hb2 => ?_)
    refine SL.ung rfl rfl rfl rfl ?_
    refine SL.pure rfl rfl rfl (PureOp.build bld44 rfl rfl) ?_
    refine SL.ung rfl rfl rfl rfl ?_
    refine SL.buildSlice rfl rfl Try.underlying45 elem44 rfl rfl rfl rfl (fun b3 hb3 => ?_)
    refine SL.ung rfl rfl rfl rfl ?_
    refine SL.callv rfl rfl rfl rfl rfl rfl callable22 (fun w hw => rcheck_ok nm ⟨#[51, 50, 48]⟩ se ov cl ac _ cc _ (by omega) hnm hcs rfl _ _ w (SliceIn.rows (enc := enc44) (hw.mem (i := 2) rfl) enc44_len (Nat.le_refl _)) (SliceIn.rows (enc := enc24) (hw.mem (i := 1) rfl) enc24_len (Nat.le_refl _)) (hc.below hw.below)) ?_
    rintro v ⟨ra, rm, rc, rfl, hrt⟩
    refine SL.ung rfl rfl rfl rfl ?_
    refine SL.pure rfl rfl rfl (PureOp.len rfl Try.underlying40) ?_
    refine SL.ung rfl rfl rfl rfl ?_
    refine SL.pure rfl rfl rfl (PureOp.eql rfl rfl) ?_
    refine SL.pure rfl rfl rfl (PureOp.pickT rfl rfl) ?_
    refine SL.pure rfl rfl rfl (PureOp.assign rfl) ?_
    refine SL.nil_then ?_
    refine WC.ret ?_
    refine QX.ret1 rfl rfl ?_
    intro w hw
    refine ⟨_, rfl, fun h => ?_⟩
    first | (cases h; done) | (refine ⟨by omega, by omega, hrt ?_⟩; simpa using h)
  · try simp only [Bool.and_eq_true, Bool.or_eq_true, Bool.not_eq_true', Bool.not_eq_false', Bool.and_eq_false_iff, Bool.or_eq_false_iff, decide_eq_true_eq, decide_eq_false_iff_not, Int.not_lt, Int.not_le, ne_eq, Decidable.not_not] at hs20
    refine SL.off rfl rfl rfl rfl rfl rfl ?_
    refine SL.off rfl rfl rfl rfl rfl rfl ?_
    refine SL.off rfl rfl rfl rfl rfl rfl ?_
    refine SL.off rfl rfl rfl rfl rfl rfl ?_
    refine SL.off rfl rfl rfl rfl rfl rfl ?_
    refine SL.off rfl rfl rfl rfl rfl rfl ?_
    refine SL.off rfl rfl rfl rfl rfl rfl ?_
    refine SL.pure rfl rfl rfl (PureOp.pickF rfl rfl) ?_
    refine SL.pure rfl rfl rfl (PureOp.assign rfl) ?_
    refine SL.nil_then ?_
    refine WC.ret ?_
    refine QX.ret1 rfl rfl ?_
    intro w hw
    refine ⟨_, rfl, fun h => ?_⟩
    first | (cases h; done) | (refine ⟨by omega, by omega, hrt ?_⟩; simpa using h)

end Go.Proofs.Ytblgllngkbjfgaa
