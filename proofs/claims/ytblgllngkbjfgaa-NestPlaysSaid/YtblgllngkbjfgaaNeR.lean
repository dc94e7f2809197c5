import Derived.Test.YtblgllngkbjfgaaNeP
namespace Go.Proofs.Ytblgllngkbjfgaa
open Go Go.RowKit Eng
set_option linter.unusedVariables false
set_option linter.unusedSimpArgs false

theorem play_sell {se ov : Int} {cl : List Cl} {l : List Int} {r x : Int} (h : Rt se ov cl) (hf : fits (se + ov) cl l = true) (hs : sellE (se + ov) cl l r x = 0) : fits (se + ov) cl (sellL (se + ov) cl l r x) = true := by
  obtain ⟨h1, h2, h3, h4, h5, h6⟩ := sell_ok hs
  rw [h6]
  exact sold_fits h hf (by omega) h2 h5
theorem play_canc {se ov : Int} {cl : List Cl} {l : List Int} {r x : Int} (hf : fits (se + ov) cl l = true) (hs : cancE cl l r x = 0) : fits (se + ov) cl (cancL cl l r x) = true := by
  obtain ⟨h1, h2, h3, h4, h5, h6⟩ := canc_ok hs
  rw [h6]
  exact canc_fits hf (by omega) h2 h5
set_option maxHeartbeats 4000000 in
set_option maxRecDepth 100000 in
theorem plays_law (nm : ByteArray) (se ov : Int) (cl : List Cl) (ac : Option Addr) (cc : Nat) (hnm : nm.size ≤ maxLen) (hcs : ∀ i, i < cl.length → (nth cl i).1.size ≤ maxLen) (ql : List (Int × Int)) (aq : Option Addr) (nq cq : Nat) (hnq : nq = ql.length) (hqb : ∀ i, In64 (nth ql i).1 ∧ In64 (nth ql i).2) (w0 : World) (hc : SliceIn w0 2 ac cl.length cc (rowsF enc47 cl)) (hq : SliceIn w0 2 aq nq cq (rowsF enc31 ql)) : FnC Try.prog 7 [.agg #[.string nm, .int .i64 se, .int .i64 ov, .slice ac cl.length cc], .slice aq nq cq] w0 fun v w' => v = .bool true := by
  refine fnc (N := 103) Try.func7 rfl rfl rfl ?_
  refine WC.seq ?_
  refine WC.region ?_
  refine SL.box rfl rfl rfl (fun b1 hb1 => ?_)
  refine SL.pure rfl rfl rfl (PureOp.assign rfl) ?_
  refine SL.nil_then ?_
  refine WC.seq ?_
  refine WC.seq ?_
  refine WC.region ?_
  refine SL.pure rfl rfl rfl (PureOp.loads (vs := [.string nm, .int .i64 se, .int .i64 ov, .slice ac cl.length cc]) Try.underlying24 rfl rfl (fun _ => (RowIs.cells 0 0 4 rfl rfl)) sz24) ?_
  refine SL.callv rfl rfl rfl rfl rfl rfl callable8 (fun w hw => lright_ok nm se ov cl ac cc hnm hcs [] none 0 0 w (hc.below hw.below)) ?_
  rintro v ⟨rb, rfl, hrb⟩
  refine SL.pure rfl rfl rfl (PureOp.not rfl) ?_
  refine SL.pure rfl rfl rfl (PureOp.move rfl) ?_
  refine SL.newg 14 false rfl ?_
  refine SL.gpure (c := 1) rfl rfl rfl rfl rfl rfl rfl (PureOp.move rfl) ?_
  refine SL.gpure (c := 1) rfl rfl rfl rfl rfl rfl rfl (PureOp.len rfl Try.underlying37) ?_
  refine SL.gpure (c := 1) rfl rfl rfl rfl rfl rfl rfl (PureOp.gtr rfl rfl) ?_
  refine SL.pure rfl rfl rfl (PureOp.or_ rfl rfl rfl rfl) ?_
  refine SL.nil_then ?_
  refine WC.cond rfl (fun h1 => ?_) (fun h1 => ?_)
  · try simp only [Bool.and_eq_true, Bool.or_eq_true, Bool.not_eq_true', Bool.not_eq_false', Bool.and_eq_false_iff, Bool.or_eq_false_iff, decide_eq_true_eq, decide_eq_false_iff_not, Int.not_lt, Int.not_le, ne_eq, Decidable.not_not] at h1
    refine WC.seq ?_
    refine WC.region ?_
    refine SL.calle rfl rfl rfl rfl rfl rfl callable9 (fun w hw => awake_ok w) ?_
    refine SL.pure rfl rfl rfl (PureOp.assign rfl) ?_
    refine SL.nil_then ?_
    refine WC.ret ?_
    refine QX.ret_then ?_
    refine QX.ret1 rfl rfl ?_
    intro w hw
    rfl
  · try simp only [Bool.and_eq_true, Bool.or_eq_true, Bool.not_eq_true', Bool.not_eq_false', Bool.and_eq_false_iff, Bool.or_eq_false_iff, decide_eq_true_eq, decide_eq_false_iff_not, Int.not_lt, Int.not_le, ne_eq, Decidable.not_not] at h1
    obtain ⟨hrb1, hnq40⟩ := h1
    obtain ⟨hcb, _, hR⟩ := hrb hrb1
    refine WC.skip ?_
    refine QX.then_ ?_
    refine WC.seq ?_
    refine WC.region ?_
    refine SL.pure rfl rfl rfl (PureOp.fieldAddrT 3 Try.underlying24 rfl sz22 rfl rfl) ?_
    refine SL.pure rfl rfl rfl (PureOp.load (v := .slice ac cl.length cc) Try.underlying22 rfl rfl (fun _ => (CellIs.cells 0 rfl rfl))) ?_
    refine SL.pure rfl rfl rfl (PureOp.len rfl Try.underlying22) ?_
    refine SL.make rfl rfl Try.underlying25 elem3 rfl rfl (by (first | omega | (have q := suf_bd hFr z (by omega); have q2 := hFr.all z (by omega); have q3 := suf_bd hFr 0 (by omega); rw [suf, List.drop_zero] at q3; omega))) (by (first | omega | (have q := suf_bd hFr z (by omega); have q2 := hFr.all z (by omega); have q3 := suf_bd hFr 0 (by omega); rw [suf, List.drop_zero] at q3; omega))) (fun b2 hb2 => ?_)
    refine SL.itemxs 1 rfl (show _ = cellsOf encI (tab cl.length fun _ => (0 : Int)) from by rw [rep_tab]) ?_
    refine SL.pure rfl rfl rfl (PureOp.assign rfl) ?_
    refine SL.nil_then ?_
    refine WC.seq ?_
    refine WC.seq ?_
    refine WC.region ?_
    refine SL.pure rfl rfl rfl (PureOp.assign rfl) ?_
    refine SL.nil_then ?_
    refine WC.block ?_
    refine WC.loop (σ := Nat × Nat × Option Addr × Nat × List Int) (fun q_ => [(0, 0, .agg #[.string nm, .int .i64 se, .int .i64 ov, .slice ac cl.length cc]), (1, 0, .slice aq nq cq), (2, 0, .pointer (some ⟨b1, 0, none⟩)), (11, 0, .agg #[.string nm, .int .i64 se, .int .i64 ov, .slice ac cl.length cc]), (12, 0, .bool rb), (13, 0, .bool (!rb)), (14, 0, .bool (!rb)), (18, 0, .bool ((!rb) || (decide (40 < ((nq : Nat) : Int))))), (20, 0, .pointer (some ⟨b1, 3, none⟩)), (21, 0, .slice ac cl.length cc), (22, 0, .int .i64 ((cl.length : Nat) : Int)), (23, 0, .slice (some ⟨b2, 0, none⟩) cl.length cl.length), (6, 0, .int .i64 ((q_.1 : Nat) : Int)), (5, 0, .slice q_.2.2.1 q_.2.1 q_.2.2.2.1)]) (fun q_ => [Item.cells b1 [.string nm, .int .i64 se, .int .i64 ov, .slice ac cl.length cc] 24, Item.own w0.heap.size q_.2.2.1 q_.2.1 q_.2.2.2.1 3 1 (cellsOf encI q_.2.2.2.2)]) (fun q_ => q_.1 ≤ nq ∧ fits (se + ov) cl q_.2.2.2.2 = true ∧ q_.2.1 = q_.2.2.2.2.length ∧ q_.2.2.2.2.length ≤ 60) (fun q_ => nq - q_.1) 2 ((0, cl.length, some ⟨b2, 0, none⟩, cl.length, tab cl.length fun _ => (0 : Int))) (⟨Nat.zero_le _, fits_zero hR, by show cl.length = (tab cl.length _).length; rw [tab_len], by show (tab cl.length _).length ≤ 60; rw [tab_len]; omega⟩) ⟨rfl, rfl, rfl, rfl, rfl, rfl, rfl, rfl, rfl, rfl, rfl, rfl, rfl, rfl, rfl, rfl, rfl, rfl, rfl, rfl, rfl, rfl, rfl, rfl, rfl, rfl, rfl, rfl, trivial⟩ rfl ?_
    rintro ⟨i, sn, sao, scap, S⟩ ⟨hi, hSf, hsn, hS60⟩
    try dsimp only at *
    refine WC.seq ?_
    refine WC.seq ?_
    refine WC.region ?_
    refine SL.pure rfl rfl rfl (PureOp.move rfl) ?_
    refine SL.pure rfl rfl rfl (PureOp.move rfl) ?_
    refine SL.pure rfl rfl rfl (PureOp.len rfl Try.underlying37) ?_
    refine SL.pure rfl rfl rfl (PureOp.lss rfl rfl) ?_
    refine SL.nil_then ?_
    refine WC.cond rfl (fun h2 => ?_) (fun h2 => ?_)
    · try simp only [Bool.and_eq_true, Bool.or_eq_true, Bool.not_eq_true', Bool.not_eq_false', Bool.and_eq_false_iff, Bool.or_eq_false_iff, decide_eq_true_eq, decide_eq_false_iff_not, Int.not_lt, Int.not_le, ne_eq, Decidable.not_not] at h2
      refine WC.skip ?_
      refine QX.then_ ?_
      refine WC.seq ?_
      refine WC.block ?_
      refine WC.seq ?_
      refine WC.drawH 18 [false, false, false, false, false, false, false, false, false, false, false, false, false, false, false, false, false, false] rfl rfl rfl ?_
      refine SD.take 0 [true, false, false, false, false, false, false, false, false, false, false, false, false, false, false, false, false, false] rfl (by kernel_rfl) rfl (fun _ h => h) rfl rfl rfl (PureOp.loads (vs := [.string nm, .int .i64 se, .int .i64 ov, .slice ac cl.length cc]) Try.underlying24 rfl rfl (fun _ => (RowIs.cells 0 0 4 rfl rfl)) sz24) ?_
      refine SD.take 1 [true, true, false, false, false, false, false, false, false, false, false, false, false, false, false, false, false, false] rfl (by kernel_rfl) rfl (fun _ h => h) rfl rfl rfl (PureOp.move rfl) ?_
      refine SD.take 2 [true, true, true, false, false, false, false, false, false, false, false, false, false, false, false, false, false, false] rfl (by kernel_rfl) rfl (fun _ h => h) rfl rfl rfl (PureOp.move rfl) ?_
      refine SD.take 3 [true, true, true, true, false, false, false, false, false, false, false, false, false, false, false, false, false, false] rfl (by kernel_rfl) rfl (fun _ h => h) rfl rfl rfl (PureOp.move rfl) ?_
      refine SD.take 4 [true, true, true, true, true, false, false, false, false, false, false, false, false, false, false, false, false, false] rfl (by kernel_rfl) rfl (fun _ h => h) rfl rfl rfl (PureOp.indexAddrN Try.underlying37 sz31 rfl rfl (AoOk.in_ hq) (fun _ => by (first | omega | (have q := suf_bd hFr z (by omega); have q2 := hFr.all z (by omega); have q3 := suf_bd hFr 0 (by omega); rw [suf, List.drop_zero] at q3; omega)))) ?_
      refine SD.take 5 [true, true, true, true, true, true, false, false, false, false, false, false, false, false, false, false, false, false] rfl (by kernel_rfl) rfl (fun _ h => h) rfl rfl rfl (PureOp.indexAddrA Try.underlying31 sz3 rfl rfl (fun _ => by decide)) ?_
      refine SD.take 6 [true, true, true, true, true, true, true, false, false, false, false, false, false, false, false, false, false, false] rfl (by kernel_rfl) rfl (fun _ h => h) rfl rfl rfl (PureOp.load (v := .int .i64 ((nth ql i).1)) Try.underlying3 rfl rfl (fun _ => (CellIs.in_ hq i 0 (by (first | omega | (have q := suf_bd hFr z (by omega); have q2 := hFr.all z (by omega); have q3 := suf_bd hFr 0 (by omega); rw [suf, List.drop_zero] at q3; omega))) (by omega)))) ?_
      refine SD.take 7 [true, true, true, true, true, true, true, true, false, false, false, false, false, false, false, false, false, false] rfl (by kernel_rfl) rfl (fun _ h => h) rfl rfl rfl (PureOp.move rfl) ?_
      refine SD.take 8 [true, true, true, true, true, true, true, true, true, false, false, false, false, false, false, false, false, false] rfl (by kernel_rfl) rfl (fun _ h => h) rfl rfl rfl (PureOp.move rfl) ?_
      refine SD.take 9 [true, true, true, true, true, true, true, true, true, true, false, false, false, false, false, false, false, false] rfl (by kernel_rfl) rfl (fun _ h => h) rfl rfl rfl (PureOp.indexAddrN Try.underlying37 sz31 rfl rfl (AoOk.in_ hq) (fun _ => by (first | omega | (have q := suf_bd hFr z (by omega); have q2 := hFr.all z (by omega); have q3 := suf_bd hFr 0 (by omega); rw [suf, List.drop_zero] at q3; omega)))) ?_
      refine SD.take 10 [true, true, true, true, true, true, true, true, true, true, true, false, false, false, false, false, false, false] rfl (by kernel_rfl) rfl (fun _ h => h) rfl rfl rfl (PureOp.indexAddrA Try.underlying31 sz3 rfl rfl (fun _ => by decide)) ?_
      refine SD.take 11 [true, true, true, true, true, true, true, true, true, true, true, true, false, false, false, false, false, false] rfl (by kernel_rfl) rfl (fun _ h => h) rfl rfl rfl (PureOp.load (v := .int .i64 ((nth ql i).2)) Try.underlying3 rfl rfl (fun _ => (CellIs.in_ hq i 1 (by (first | omega | (have q := suf_bd hFr z (by omega); have q2 := hFr.all z (by omega); have q3 := suf_bd hFr 0 (by omega); rw [suf, List.drop_zero] at q3; omega))) (by omega)))) ?_
      refine SD.one 12 [true, true, true, true, true, true, true, true, true, true, true, true, true, false, false, false, false, false] (by kernel_rfl) rfl rfl ?_
      refine SL.callo (fun sa sc => .tuple #[.slice sa ((sellL (se + ov) cl S (nth ql i).1 (nth ql i).2).length) sc, .int .i64 (sellE (se + ov) cl S (nth ql i).1 (nth ql i).2)]) rfl rfl rfl rfl rfl rfl callable17 (fun w hw => Sell_ok nm se ov cl ac cl.length cc rfl hcb S sao sn scap hsn (by omega) w (SliceIn.rows (enc := encI) (l := S) (hw.mem (i := 1) rfl) encI_len (by omega)) (hc.below hw.below) hR (nth ql i).1 (nth ql i).2 (by have q := hqb i; unfold In64 at q; omega)) (fun sa sc => ?_)
      refine SD.back (fun _ h => HeapOk.take h 2) ?_
      refine SD.take 13 [true, true, true, true, true, true, true, true, true, true, true, true, true, true, false, false, false, false] rfl (by kernel_rfl) rfl (fun _ h => HeapOk.take h 2) rfl rfl rfl (PureOp.move rfl) ?_
      refine SD.take 14 [true, true, true, true, true, true, true, true, true, true, true, true, true, true, true, false, false, false] rfl (by kernel_rfl) rfl (fun _ h => HeapOk.take h 2) rfl rfl rfl (PureOp.extract rfl rfl) ?_
      refine SD.take 15 [true, true, true, true, true, true, true, true, true, true, true, true, true, true, true, true, false, false] rfl (by kernel_rfl) rfl (fun _ h => HeapOk.take h 2) rfl rfl rfl (PureOp.extract rfl rfl) ?_
      refine SD.take 16 [true, true, true, true, true, true, true, true, true, true, true, true, true, true, true, true, true, false] rfl (by kernel_rfl) rfl (fun _ h => HeapOk.take h 2) rfl rfl rfl (PureOp.assign rfl) ?_
      refine SD.take 17 [true, true, true, true, true, true, true, true, true, true, true, true, true, true, true, true, true, true] rfl (by kernel_rfl) rfl (fun _ h => HeapOk.take h 2) rfl rfl rfl (PureOp.assign rfl) ?_
      refine SD.done (by kernel_rfl) ?_
      refine QX.ofK ?_
      refine QX.then_ ?_
      refine WC.seq ?_
      refine WC.seq ?_
      refine WC.region ?_
      refine SL.pure rfl rfl rfl (PureOp.move rfl) ?_
      refine SL.pure rfl rfl rfl (PureOp.move rfl) ?_
      refine SL.pure rfl rfl rfl (PureOp.indexAddrN Try.underlying37 sz31 rfl rfl (AoOk.in_ hq) (fun _ => by (first | omega | (have q := suf_bd hFr z (by omega); have q2 := hFr.all z (by omega); have q3 := suf_bd hFr 0 (by omega); rw [suf, List.drop_zero] at q3; omega)))) ?_
      refine SL.pure rfl rfl rfl (PureOp.indexAddrA Try.underlying31 sz3 rfl rfl (fun _ => by decide)) ?_
      refine SL.pure rfl rfl rfl (PureOp.load (v := .int .i64 ((nth ql i).2)) Try.underlying3 rfl rfl (fun _ => (CellIs.in_ hq i 1 (by (first | omega | (have q := suf_bd hFr z (by omega); have q2 := hFr.all z (by omega); have q3 := suf_bd hFr 0 (by omega); rw [suf, List.drop_zero] at q3; omega))) (by omega)))) ?_
      refine SL.pure rfl rfl rfl (PureOp.lss rfl rfl) ?_
      refine SL.pure rfl rfl rfl (PureOp.move rfl) ?_
      refine SL.newg 52 true rfl ?_
      refine SL.gpure (c := 1) rfl rfl rfl rfl rfl rfl rfl (PureOp.move rfl) ?_
      refine SL.gpure (c := 1) rfl rfl rfl rfl rfl rfl rfl (PureOp.move rfl) ?_
      refine SL.gpure (c := 1) rfl rfl rfl rfl rfl rfl rfl (PureOp.indexAddrN Try.underlying37 sz31 rfl rfl (AoOk.in_ hq) (by intro hg; simp [gval] at hg; (first | omega | (have q := suf_bd hFr z (by omega); have q2 := hFr.all z (by omega); have q3 := suf_bd hFr 0 (by omega); rw [suf, List.drop_zero] at q3; omega)))) ?_
      refine SL.gpure (c := 1) rfl rfl rfl rfl rfl rfl rfl (PureOp.indexAddrA Try.underlying31 sz3 rfl rfl (fun _ => by decide)) ?_
      refine SL.gpure (c := 1) rfl rfl rfl rfl rfl rfl rfl (PureOp.load (v := .int .i64 ((nth ql i).2)) Try.underlying3 rfl rfl (by intro hg; simp [gval] at hg; exact (CellIs.in_ hq i 1 (by (first | omega | (have q := suf_bd hFr z (by omega); have q2 := hFr.all z (by omega); have q3 := suf_bd hFr 0 (by omega); rw [suf, List.drop_zero] at q3; omega))) (by omega)))) ?_
      refine SL.gpure (c := 1) rfl rfl rfl rfl rfl rfl rfl (PureOp.gtr rfl rfl) ?_
      refine SL.pure rfl rfl rfl (PureOp.and_ rfl rfl rfl rfl) ?_
      refine SL.nil_then ?_
      refine WC.cond rfl (fun h3 => ?_) (fun h3 => ?_)
      · try simp only [Bool.and_eq_true, Bool.or_eq_true, Bool.not_eq_true', Bool.not_eq_false', Bool.and_eq_false_iff, Bool.or_eq_false_iff, decide_eq_true_eq, decide_eq_false_iff_not, Int.not_lt, Int.not_le, ne_eq, Decidable.not_not] at h3
        refine WC.drawH 19 [false, false, false, false, false, false, false, false, false, false, false, false, false, false, false, false, false, false, false] rfl rfl rfl ?_
        refine SD.take 0 [true, false, false, false, false, false, false, false, false, false, false, false, false, false, false, false, false, false, false] rfl (by kernel_rfl) rfl (fun _ h => h) rfl rfl rfl (PureOp.loads (vs := [.string nm, .int .i64 se, .int .i64 ov, .slice ac cl.length cc]) Try.underlying24 rfl rfl (fun _ => (RowIs.cells 0 0 4 rfl rfl)) sz24) ?_
        refine SD.take 1 [true, true, false, false, false, false, false, false, false, false, false, false, false, false, false, false, false, false, false] rfl (by kernel_rfl) rfl (fun _ h => h) rfl rfl rfl (PureOp.move rfl) ?_
        refine SD.take 2 [true, true, true, false, false, false, false, false, false, false, false, false, false, false, false, false, false, false, false] rfl (by kernel_rfl) rfl (fun _ h => h) rfl rfl rfl (PureOp.move rfl) ?_
        refine SD.take 3 [true, true, true, true, false, false, false, false, false, false, false, false, false, false, false, false, false, false, false] rfl (by kernel_rfl) rfl (fun _ h => h) rfl rfl rfl (PureOp.move rfl) ?_
        refine SD.take 4 [true, true, true, true, true, false, false, false, false, false, false, false, false, false, false, false, false, false, false] rfl (by kernel_rfl) rfl (fun _ h => h) rfl rfl rfl (PureOp.indexAddrN Try.underlying37 sz31 rfl rfl (AoOk.in_ hq) (fun _ => by (first | omega | (have q := suf_bd hFr z (by omega); have q2 := hFr.all z (by omega); have q3 := suf_bd hFr 0 (by omega); rw [suf, List.drop_zero] at q3; omega)))) ?_
        refine SD.take 5 [true, true, true, true, true, true, false, false, false, false, false, false, false, false, false, false, false, false, false] rfl (by kernel_rfl) rfl (fun _ h => h) rfl rfl rfl (PureOp.indexAddrA Try.underlying31 sz3 rfl rfl (fun _ => by decide)) ?_
        refine SD.take 6 [true, true, true, true, true, true, true, false, false, false, false, false, false, false, false, false, false, false, false] rfl (by kernel_rfl) rfl (fun _ h => h) rfl rfl rfl (PureOp.load (v := .int .i64 ((nth ql i).1)) Try.underlying3 rfl rfl (fun _ => (CellIs.in_ hq i 0 (by (first | omega | (have q := suf_bd hFr z (by omega); have q2 := hFr.all z (by omega); have q3 := suf_bd hFr 0 (by omega); rw [suf, List.drop_zero] at q3; omega))) (by omega)))) ?_
        refine SD.take 7 [true, true, true, true, true, true, true, true, false, false, false, false, false, false, false, false, false, false, false] rfl (by kernel_rfl) rfl (fun _ h => h) rfl rfl rfl (PureOp.move rfl) ?_
        refine SD.take 8 [true, true, true, true, true, true, true, true, true, false, false, false, false, false, false, false, false, false, false] rfl (by kernel_rfl) rfl (fun _ h => h) rfl rfl rfl (PureOp.move rfl) ?_
        refine SD.take 9 [true, true, true, true, true, true, true, true, true, true, false, false, false, false, false, false, false, false, false] rfl (by kernel_rfl) rfl (fun _ h => h) rfl rfl rfl (PureOp.indexAddrN Try.underlying37 sz31 rfl rfl (AoOk.in_ hq) (fun _ => by (first | omega | (have q := suf_bd hFr z (by omega); have q2 := hFr.all z (by omega); have q3 := suf_bd hFr 0 (by omega); rw [suf, List.drop_zero] at q3; omega)))) ?_
        refine SD.take 10 [true, true, true, true, true, true, true, true, true, true, true, false, false, false, false, false, false, false, false] rfl (by kernel_rfl) rfl (fun _ h => h) rfl rfl rfl (PureOp.indexAddrA Try.underlying31 sz3 rfl rfl (fun _ => by decide)) ?_
        refine SD.take 11 [true, true, true, true, true, true, true, true, true, true, true, true, false, false, false, false, false, false, false] rfl (by kernel_rfl) rfl (fun _ h => h) rfl rfl rfl (PureOp.load (v := .int .i64 ((nth ql i).2)) Try.underlying3 rfl rfl (fun _ => (CellIs.in_ hq i 1 (by (first | omega | (have q := suf_bd hFr z (by omega); have q2 := hFr.all z (by omega); have q3 := suf_bd hFr 0 (by omega); rw [suf, List.drop_zero] at q3; omega))) (by omega)))) ?_
        refine SD.take 12 [true, true, true, true, true, true, true, true, true, true, true, true, true, false, false, false, false, false, false] rfl (by kernel_rfl) rfl (fun _ h => h) rfl rfl rfl (PureOp.neg rfl (fun _ => by (first | omega | (have q := suf_bd hFr z (by omega); have q2 := hFr.all z (by omega); have q3 := suf_bd hFr 0 (by omega); rw [suf, List.drop_zero] at q3; omega)))) ?_
        refine SD.one 13 [true, true, true, true, true, true, true, true, true, true, true, true, true, true, false, false, false, false, false] (by kernel_rfl) rfl rfl ?_
        refine SL.callo (fun ua uc => .tuple #[.slice ua ((cancL cl S (nth ql i).1 (-(nth ql i).2)).length) uc, .int .i64 (cancE cl S (nth ql i).1 (-(nth ql i).2))]) rfl rfl rfl rfl rfl rfl callable19 (fun w hw => Cancel_ok nm se ov cl ac cl.length cc rfl hcb S sao sn scap hsn (by omega) w (SliceIn.rows (enc := encI) (l := S) (hw.mem (i := 1) rfl) encI_len (by omega)) (hc.below hw.below) hR (nth ql i).1 (-(nth ql i).2) (by have q := hqb i; unfold In64 at q; omega)) (fun ua uc => ?_)
        refine SD.back (fun _ h => HeapOk.take h 3) ?_
        refine SD.take 14 [true, true, true, true, true, true, true, true, true, true, true, true, true, true, true, false, false, false, false] rfl (by kernel_rfl) rfl (fun _ h => HeapOk.take h 3) rfl rfl rfl (PureOp.move rfl) ?_
        refine SD.take 15 [true, true, true, true, true, true, true, true, true, true, true, true, true, true, true, true, false, false, false] rfl (by kernel_rfl) rfl (fun _ h => HeapOk.take h 3) rfl rfl rfl (PureOp.extract rfl rfl) ?_
        refine SD.take 16 [true, true, true, true, true, true, true, true, true, true, true, true, true, true, true, true, true, false, false] rfl (by kernel_rfl) rfl (fun _ h => HeapOk.take h 3) rfl rfl rfl (PureOp.extract rfl rfl) ?_
        refine SD.take 17 [true, true, true, true, true, true, true, true, true, true, true, true, true, true, true, true, true, true, false] rfl (by kernel_rfl) rfl (fun _ h => HeapOk.take h 3) rfl rfl rfl (PureOp.assign rfl) ?_
        refine SD.take 18 [true, true, true, true, true, true, true, true, true, true, true, true, true, true, true, true, true, true, true] rfl (by kernel_rfl) rfl (fun _ h => HeapOk.take h 3) rfl rfl rfl (PureOp.assign rfl) ?_
        refine SD.done (by kernel_rfl) ?_
        refine QX.ofK ?_
        refine QX.then_ ?_
        refine WC.seq ?_
        refine WC.seq ?_
        refine WC.region ?_
        refine SL.pure rfl rfl rfl (PureOp.move rfl) ?_
        refine SL.pure rfl rfl rfl (PureOp.eql rfl rfl) ?_
        refine SL.nil_then ?_
        refine WC.cond rfl (fun h4 => ?_) (fun h4 => ?_)
        · try simp only [Bool.and_eq_true, Bool.or_eq_true, Bool.not_eq_true', Bool.not_eq_false', Bool.and_eq_false_iff, Bool.or_eq_false_iff, decide_eq_true_eq, decide_eq_false_iff_not, Int.not_lt, Int.not_le, ne_eq, Decidable.not_not] at h4
          refine WC.region ?_
          refine SL.pure rfl rfl rfl (PureOp.move rfl) ?_
          refine SL.pure rfl rfl rfl (PureOp.assign rfl) ?_
          refine SL.nil_then ?_
          refine WC.seq ?_
          refine WC.region ?_
          refine SL.pure rfl rfl rfl (PureOp.assign rfl) ?_
          refine SL.nil_then ?_
          refine WC.seq ?_
          refine WC.seq ?_
          refine WC.region ?_
          refine SL.pure rfl rfl rfl (PureOp.assign rfl) ?_
          refine SL.nil_then ?_
          refine WC.block ?_
          refine WC.loop (σ := Nat × Int) (fun q_ => [(0, 0, .agg #[.string nm, .int .i64 se, .int .i64 ov, .slice ac cl.length cc]), (1, 0, .slice aq nq cq), (2, 0, .pointer (some ⟨b1, 0, none⟩)), (5, 0, .slice ua ((cancL cl S (nth ql i).1 (-(nth ql i).2)).length) uc), (6, 0, .int .i64 ((i : Nat) : Int)), (7, 0, .slice ua ((cancL cl S (nth ql i).1 (-(nth ql i).2)).length) uc), (8, 0, .int .i64 (cancE cl S (nth ql i).1 (-(nth ql i).2))), (11, 0, .agg #[.string nm, .int .i64 se, .int .i64 ov, .slice ac cl.length cc]), (12, 0, .bool rb), (13, 0, .bool (!rb)), (14, 0, .bool (!rb)), (18, 0, .bool ((!rb) || (decide (40 < ((nq : Nat) : Int))))), (20, 0, .pointer (some ⟨b1, 3, none⟩)), (21, 0, .slice ac cl.length cc), (22, 0, .int .i64 ((cl.length : Nat) : Int)), (23, 0, .slice (some ⟨b2, 0, none⟩) cl.length cl.length), (24, 0, .int .i64 ((i : Nat) : Int)), (25, 0, .slice aq nq cq), (26, 0, .int .i64 ((nq : Nat) : Int)), (27, 0, .bool (decide (((i : Nat) : Int) < ((nq : Nat) : Int)))), (30, 0, .tuple #[.slice sa ((sellL (se + ov) cl S (nth ql i).1 (nth ql i).2).length) sc, .int .i64 (sellE (se + ov) cl S (nth ql i).1 (nth ql i).2)]), (31, 0, .agg #[.string nm, .int .i64 se, .int .i64 ov, .slice ac cl.length cc]), (32, 0, .slice sao sn scap), (33, 0, .slice aq nq cq), (34, 0, .int .i64 ((i : Nat) : Int)), (35, 0, .pointer (some ⟨blk aq, off aq + i * 2, none⟩)), (36, 0, .pointer (some ⟨blk aq, off aq + i * 2, none⟩)), (37, 0, .int .i64 ((nth ql i).1)), (38, 0, .slice aq nq cq), (39, 0, .int .i64 ((i : Nat) : Int)), (40, 0, .pointer (some ⟨blk aq, off aq + i * 2, none⟩)), (41, 0, .pointer (some ⟨blk aq, off aq + i * 2 + 1, none⟩)), (42, 0, .int .i64 ((nth ql i).2)), (43, 0, .tuple #[.slice sa ((sellL (se + ov) cl S (nth ql i).1 (nth ql i).2).length) sc, .int .i64 (sellE (se + ov) cl S (nth ql i).1 (nth ql i).2)]), (44, 0, .slice sa ((sellL (se + ov) cl S (nth ql i).1 (nth ql i).2).length) sc), (45, 0, .int .i64 (sellE (se + ov) cl S (nth ql i).1 (nth ql i).2)), (46, 0, .slice aq nq cq), (47, 0, .int .i64 ((i : Nat) : Int)), (48, 0, .pointer (some ⟨blk aq, off aq + i * 2, none⟩)), (49, 0, .pointer (some ⟨blk aq, off aq + i * 2 + 1, none⟩)), (50, 0, .int .i64 ((nth ql i).2)), (51, 0, .bool (decide ((nth ql i).2 < 0))), (52, 0, .bool (decide ((nth ql i).2 < 0))), (59, 0, .bool ((decide ((nth ql i).2 < 0)) && (decide ((-10000) < (nth ql i).2)))), (60, 0, .tuple #[.slice ua ((cancL cl S (nth ql i).1 (-(nth ql i).2)).length) uc, .int .i64 (cancE cl S (nth ql i).1 (-(nth ql i).2))]), (61, 0, .agg #[.string nm, .int .i64 se, .int .i64 ov, .slice ac cl.length cc]), (62, 0, .slice sao sn scap), (63, 0, .slice aq nq cq), (64, 0, .int .i64 ((i : Nat) : Int)), (65, 0, .pointer (some ⟨blk aq, off aq + i * 2, none⟩)), (66, 0, .pointer (some ⟨blk aq, off aq + i * 2, none⟩)), (67, 0, .int .i64 ((nth ql i).1)), (68, 0, .slice aq nq cq), (69, 0, .int .i64 ((i : Nat) : Int)), (70, 0, .pointer (some ⟨blk aq, off aq + i * 2, none⟩)), (71, 0, .pointer (some ⟨blk aq, off aq + i * 2 + 1, none⟩)), (72, 0, .int .i64 ((nth ql i).2)), (73, 0, .int .i64 (-((nth ql i).2))), (74, 0, .tuple #[.slice ua ((cancL cl S (nth ql i).1 (-(nth ql i).2)).length) uc, .int .i64 (cancE cl S (nth ql i).1 (-(nth ql i).2))]), (75, 0, .slice ua ((cancL cl S (nth ql i).1 (-(nth ql i).2)).length) uc), (76, 0, .int .i64 (cancE cl S (nth ql i).1 (-(nth ql i).2))), (77, 0, .int .i64 (cancE cl S (nth ql i).1 (-(nth ql i).2))), (78, 0, .bool (decide (cancE cl S (nth ql i).1 (-(nth ql i).2) = 0))), (79, 0, .slice ua ((cancL cl S (nth ql i).1 (-(nth ql i).2)).length) uc), (10, 0, .int .i64 ((q_.1 : Nat) : Int)), (9, 0, .int .i64 q_.2)]) (fun q_ => [Item.cells b1 [.string nm, .int .i64 se, .int .i64 ov, .slice ac cl.length cc] 24, Item.own w0.heap.size sao sn scap 3 1 (cellsOf encI S), Item.own w0.heap.size sa ((sellL (se + ov) cl S (nth ql i).1 (nth ql i).2).length) sc 3 1 (cellsOf encI (sellL (se + ov) cl S (nth ql i).1 (nth ql i).2)), Item.own w0.heap.size ua ((cancL cl S (nth ql i).1 (-(nth ql i).2)).length) uc 3 1 (cellsOf encI (cancL cl S (nth ql i).1 (-(nth ql i).2)))]) (fun q_ => q_.1 ≤ (cancL cl S (nth ql i).1 (-(nth ql i).2)).length ∧ q_.2 = ((cancL cl S (nth ql i).1 (-(nth ql i).2))).sum - suf (cancL cl S (nth ql i).1 (-(nth ql i).2)) q_.1 ∧ fits (se + ov) cl (cancL cl S (nth ql i).1 (-(nth ql i).2)) = true ∧ (cancL cl S (nth ql i).1 (-(nth ql i).2)).length = ((cancL cl S (nth ql i).1 (-(nth ql i).2))).length ∧ ((cancL cl S (nth ql i).1 (-(nth ql i).2))).length ≤ 60) (fun q_ => (cancL cl S (nth ql i).1 (-(nth ql i).2)).length - q_.1) 4 ((0, 0)) (⟨Nat.zero_le _, by show (0 : Int) = ((cancL cl S (nth ql i).1 (-(nth ql i).2))).sum - suf (cancL cl S (nth ql i).1 (-(nth ql i).2)) 0; rw [suf, List.drop_zero]; omega, (play_canc hSf (by assumption)), by first | rfl | assumption, by have q1 := sellL_len (se := se) (ov := ov) (cl := cl) (l := S) (r := (nth ql i).1) (x := (nth ql i).2); have q2 := cancL_len (cl := cl) (l := S) (r := (nth ql i).1) (x := -(nth ql i).2); omega⟩) ⟨rfl, rfl, rfl, rfl, rfl, rfl, rfl, rfl, rfl, rfl, rfl, rfl, rfl, rfl, rfl, rfl, rfl, rfl, rfl, rfl, rfl, rfl, rfl, rfl, rfl, rfl, rfl, rfl, rfl, rfl, rfl, rfl, rfl, rfl, rfl, rfl, rfl, rfl, rfl, rfl, rfl, rfl, rfl, rfl, rfl, rfl, rfl, rfl, rfl, rfl, rfl, rfl, rfl, rfl, rfl, rfl, rfl, rfl, rfl, rfl, rfl, rfl, rfl, rfl, rfl, rfl, rfl, rfl, rfl, rfl, rfl, rfl, rfl, rfl, rfl, rfl, rfl, rfl, rfl, rfl, rfl, rfl, rfl, rfl, rfl, rfl, rfl, rfl, rfl, rfl, rfl, rfl, rfl, rfl, rfl, rfl, rfl, rfl, rfl, rfl, rfl, rfl, rfl, rfl, rfl, rfl, rfl, rfl, rfl, rfl, rfl, rfl, rfl, rfl, rfl, rfl, rfl, rfl, rfl, rfl, rfl, rfl, rfl, rfl, rfl, rfl, rfl, rfl, rfl, rfl, rfl, rfl, trivial⟩ rfl ?_
          rintro ⟨z, m⟩ ⟨hz, hm, hF, hln, hl60⟩
          try dsimp only at *
          have hFr := (fits_iff.1 hF).1
          refine WC.seq ?_
          refine WC.seq ?_
          refine WC.region ?_
          refine SL.pure rfl rfl rfl (PureOp.move rfl) ?_
          refine SL.pure rfl rfl rfl (PureOp.move rfl) ?_
          refine SL.pure rfl rfl rfl (PureOp.len rfl Try.underlying25) ?_
          refine SL.pure rfl rfl rfl (PureOp.lss rfl rfl) ?_
          refine SL.nil_then ?_
          refine WC.cond rfl (fun h5 => ?_) (fun h5 => ?_)
          · try simp only [Bool.and_eq_true, Bool.or_eq_true, Bool.not_eq_true', Bool.not_eq_false', Bool.and_eq_false_iff, Bool.or_eq_false_iff, decide_eq_true_eq, decide_eq_false_iff_not, Int.not_lt, Int.not_le, ne_eq, Decidable.not_not] at h5
            refine WC.skip ?_
            refine QX.then_ ?_
            refine WC.seq ?_
            refine WC.block ?_
            refine WC.region ?_
            refine SL.pure rfl rfl rfl (PureOp.move rfl) ?_
            refine SL.pure rfl rfl rfl (PureOp.move rfl) ?_
            refine SL.pure rfl rfl rfl (PureOp.move rfl) ?_
            refine SL.pure rfl rfl rfl (PureOp.indexAddrN Try.underlying25 sz3 rfl rfl (AoOk.own 3 rfl) (fun _ => by (first | omega | (have q := suf_bd hFr z (by omega); have q2 := hFr.all z (by omega); have q3 := suf_bd hFr 0 (by omega); rw [suf, List.drop_zero] at q3; omega)))) ?_
            refine SL.pure rfl rfl rfl (PureOp.load Try.underlying3 rfl rfl (fun _ => (CellIs.ownc 3 rfl z 0 (by exact encI_get (by omega))))) ?_
            refine SL.pure rfl rfl rfl (PureOp.add rfl rfl (fun _ => by (first | omega | (have q := suf_bd hFr z (by omega); have q2 := hFr.all z (by omega); have q3 := suf_bd hFr 0 (by omega); rw [suf, List.drop_zero] at q3; omega)))) ?_
            refine SL.pure rfl rfl rfl (PureOp.assign rfl) ?_
            refine SL.nil ?_
            refine QX.normal_in ?_
            refine QX.then_ ?_
            refine WC.region ?_
            refine SL.pure rfl rfl rfl (PureOp.move rfl) ?_
            refine SL.pure rfl rfl rfl (PureOp.addN (k := 1) rfl rfl (fun _ => by (first | omega | (have q := suf_bd hFr z (by omega); have q2 := hFr.all z (by omega); have q3 := suf_bd hFr 0 (by omega); rw [suf, List.drop_zero] at q3; omega)))) ?_
            refine SL.pure rfl rfl rfl (PureOp.assign rfl) ?_
            refine SL.nil ?_
            refine QX.round (σ := Nat × Int) (Ef := fun q_ => [(0, 0, .agg #[.string nm, .int .i64 se, .int .i64 ov, .slice ac cl.length cc]), (1, 0, .slice aq nq cq), (2, 0, .pointer (some ⟨b1, 0, none⟩)), (5, 0, .slice ua ((cancL cl S (nth ql i).1 (-(nth ql i).2)).length) uc), (6, 0, .int .i64 ((i : Nat) : Int)), (7, 0, .slice ua ((cancL cl S (nth ql i).1 (-(nth ql i).2)).length) uc), (8, 0, .int .i64 (cancE cl S (nth ql i).1 (-(nth ql i).2))), (11, 0, .agg #[.string nm, .int .i64 se, .int .i64 ov, .slice ac cl.length cc]), (12, 0, .bool rb), (13, 0, .bool (!rb)), (14, 0, .bool (!rb)), (18, 0, .bool ((!rb) || (decide (40 < ((nq : Nat) : Int))))), (20, 0, .pointer (some ⟨b1, 3, none⟩)), (21, 0, .slice ac cl.length cc), (22, 0, .int .i64 ((cl.length : Nat) : Int)), (23, 0, .slice (some ⟨b2, 0, none⟩) cl.length cl.length), (24, 0, .int .i64 ((i : Nat) : Int)), (25, 0, .slice aq nq cq), (26, 0, .int .i64 ((nq : Nat) : Int)), (27, 0, .bool (decide (((i : Nat) : Int) < ((nq : Nat) : Int)))), (30, 0, .tuple #[.slice sa ((sellL (se + ov) cl S (nth ql i).1 (nth ql i).2).length) sc, .int .i64 (sellE (se + ov) cl S (nth ql i).1 (nth ql i).2)]), (31, 0, .agg #[.string nm, .int .i64 se, .int .i64 ov, .slice ac cl.length cc]), (32, 0, .slice sao sn scap), (33, 0, .slice aq nq cq), (34, 0, .int .i64 ((i : Nat) : Int)), (35, 0, .pointer (some ⟨blk aq, off aq + i * 2, none⟩)), (36, 0, .pointer (some ⟨blk aq, off aq + i * 2, none⟩)), (37, 0, .int .i64 ((nth ql i).1)), (38, 0, .slice aq nq cq), (39, 0, .int .i64 ((i : Nat) : Int)), (40, 0, .pointer (some ⟨blk aq, off aq + i * 2, none⟩)), (41, 0, .pointer (some ⟨blk aq, off aq + i * 2 + 1, none⟩)), (42, 0, .int .i64 ((nth ql i).2)), (43, 0, .tuple #[.slice sa ((sellL (se + ov) cl S (nth ql i).1 (nth ql i).2).length) sc, .int .i64 (sellE (se + ov) cl S (nth ql i).1 (nth ql i).2)]), (44, 0, .slice sa ((sellL (se + ov) cl S (nth ql i).1 (nth ql i).2).length) sc), (45, 0, .int .i64 (sellE (se + ov) cl S (nth ql i).1 (nth ql i).2)), (46, 0, .slice aq nq cq), (47, 0, .int .i64 ((i : Nat) : Int)), (48, 0, .pointer (some ⟨blk aq, off aq + i * 2, none⟩)), (49, 0, .pointer (some ⟨blk aq, off aq + i * 2 + 1, none⟩)), (50, 0, .int .i64 ((nth ql i).2)), (51, 0, .bool (decide ((nth ql i).2 < 0))), (52, 0, .bool (decide ((nth ql i).2 < 0))), (59, 0, .bool ((decide ((nth ql i).2 < 0)) && (decide ((-10000) < (nth ql i).2)))), (60, 0, .tuple #[.slice ua ((cancL cl S (nth ql i).1 (-(nth ql i).2)).length) uc, .int .i64 (cancE cl S (nth ql i).1 (-(nth ql i).2))]), (61, 0, .agg #[.string nm, .int .i64 se, .int .i64 ov, .slice ac cl.length cc]), (62, 0, .slice sao sn scap), (63, 0, .slice aq nq cq), (64, 0, .int .i64 ((i : Nat) : Int)), (65, 0, .pointer (some ⟨blk aq, off aq + i * 2, none⟩)), (66, 0, .pointer (some ⟨blk aq, off aq + i * 2, none⟩)), (67, 0, .int .i64 ((nth ql i).1)), (68, 0, .slice aq nq cq), (69, 0, .int .i64 ((i : Nat) : Int)), (70, 0, .pointer (some ⟨blk aq, off aq + i * 2, none⟩)), (71, 0, .pointer (some ⟨blk aq, off aq + i * 2 + 1, none⟩)), (72, 0, .int .i64 ((nth ql i).2)), (73, 0, .int .i64 (-((nth ql i).2))), (74, 0, .tuple #[.slice ua ((cancL cl S (nth ql i).1 (-(nth ql i).2)).length) uc, .int .i64 (cancE cl S (nth ql i).1 (-(nth ql i).2))]), (75, 0, .slice ua ((cancL cl S (nth ql i).1 (-(nth ql i).2)).length) uc), (76, 0, .int .i64 (cancE cl S (nth ql i).1 (-(nth ql i).2))), (77, 0, .int .i64 (cancE cl S (nth ql i).1 (-(nth ql i).2))), (78, 0, .bool (decide (cancE cl S (nth ql i).1 (-(nth ql i).2) = 0))), (79, 0, .slice ua ((cancL cl S (nth ql i).1 (-(nth ql i).2)).length) uc), (10, 0, .int .i64 ((q_.1 : Nat) : Int)), (9, 0, .int .i64 q_.2)]) (Hf := fun q_ => [Item.cells b1 [.string nm, .int .i64 se, .int .i64 ov, .slice ac cl.length cc] 24, Item.own w0.heap.size sao sn scap 3 1 (cellsOf encI S), Item.own w0.heap.size sa ((sellL (se + ov) cl S (nth ql i).1 (nth ql i).2).length) sc 3 1 (cellsOf encI (sellL (se + ov) cl S (nth ql i).1 (nth ql i).2)), Item.own w0.heap.size ua ((cancL cl S (nth ql i).1 (-(nth ql i).2)).length) uc 3 1 (cellsOf encI (cancL cl S (nth ql i).1 (-(nth ql i).2)))]) (I := fun q_ => q_.1 ≤ (cancL cl S (nth ql i).1 (-(nth ql i).2)).length ∧ q_.2 = ((cancL cl S (nth ql i).1 (-(nth ql i).2))).sum - suf (cancL cl S (nth ql i).1 (-(nth ql i).2)) q_.1 ∧ fits (se + ov) cl (cancL cl S (nth ql i).1 (-(nth ql i).2)) = true ∧ (cancL cl S (nth ql i).1 (-(nth ql i).2)).length = ((cancL cl S (nth ql i).1 (-(nth ql i).2))).length ∧ ((cancL cl S (nth ql i).1 (-(nth ql i).2))).length ≤ 60) (μ := fun q_ => (cancL cl S (nth ql i).1 (-(nth ql i).2)).length - q_.1) (s := (z, m)) 4 ((z + 1, m + nth (cancL cl S (nth ql i).1 (-(nth ql i).2)) z)) ⟨⟨(by first | omega | (dsimp only; omega)), by show m + nth (cancL cl S (nth ql i).1 (-(nth ql i).2)) z = _ - suf (cancL cl S (nth ql i).1 (-(nth ql i).2)) (z + 1); have e := suf_succ (l := (cancL cl S (nth ql i).1 (-(nth ql i).2))) (i := z) (by omega); omega, hF, hln, hl60⟩, by first | omega | (dsimp only; omega)⟩ ⟨rfl, rfl, rfl, rfl, rfl, rfl, rfl, rfl, rfl, rfl, rfl, rfl, rfl, rfl, rfl, rfl, rfl, rfl, rfl, rfl, rfl, rfl, rfl, rfl, rfl, rfl, rfl, rfl, rfl, rfl, rfl, rfl, rfl, rfl, rfl, rfl, rfl, rfl, rfl, rfl, rfl, rfl, rfl, rfl, rfl, rfl, rfl, rfl, rfl, rfl, rfl, rfl, rfl, rfl, rfl, rfl, rfl, rfl, rfl, rfl, rfl, rfl, rfl, rfl, rfl, rfl, rfl, rfl, rfl, rfl, rfl, rfl, rfl, rfl, rfl, rfl, rfl, rfl, rfl, rfl, rfl, rfl, rfl, rfl, rfl, rfl, rfl, rfl, rfl, rfl, rfl, rfl, rfl, rfl, rfl, rfl, rfl, rfl, rfl, rfl, rfl, rfl, rfl, rfl, rfl, rfl, rfl, rfl, rfl, rfl, rfl, rfl, rfl, rfl, rfl, rfl, rfl, rfl, rfl, rfl, rfl, rfl, rfl, rfl, rfl, rfl, rfl, rfl, rfl, rfl, rfl, rfl, trivial⟩ rfl
          · try simp only [Bool.and_eq_true, Bool.or_eq_true, Bool.not_eq_true', Bool.not_eq_false', Bool.and_eq_false_iff, Bool.or_eq_false_iff, decide_eq_true_eq, decide_eq_false_iff_not, Int.not_lt, Int.not_le, ne_eq, Decidable.not_not] at h5
            refine WC.exit ?_
            refine QX.exit_then ?_
            refine QX.exit_then ?_
            refine QX.exit_hit ?_
            refine QX.then_ ?_
            refine WC.seq ?_
            refine WC.region ?_
            refine SL.pure rfl rfl rfl (PureOp.loads (vs := [.string nm, .int .i64 se, .int .i64 ov, .slice ac cl.length cc]) Try.underlying24 rfl rfl (fun _ => (RowIs.cells 0 0 4 rfl rfl)) sz24) ?_
            refine SL.pure rfl rfl rfl (PureOp.move rfl) ?_
            refine SL.calle rfl rfl rfl rfl rfl rfl callable13 (fun w hw => fits_ok nm se ov cl ac cl.length cc rfl hcb (cancL cl S (nth ql i).1 (-(nth ql i).2)) _ (cancL cl S (nth ql i).1 (-(nth ql i).2)).length _ (by first | rfl | assumption) (by have q1 := sellL_len (se := se) (ov := ov) (cl := cl) (l := S) (r := (nth ql i).1) (x := (nth ql i).2); have q2 := cancL_len (cl := cl) (l := S) (r := (nth ql i).1) (x := -(nth ql i).2); omega) w (SliceIn.rows (hw.mem (i := 3) rfl) encI_len (by first | exact Nat.le_refl _ | omega)) (hc.below hw.below) hR) ?_
            refine SL.pure rfl rfl rfl (PureOp.not rfl) ?_
            refine SL.lit 95 false rfl (by rw [hF]; rfl) ?_
            refine SL.pure rfl rfl rfl (PureOp.move rfl) ?_
            refine SL.ung rfl rfl rfl rfl ?_
            refine SL.pure rfl rfl rfl (PureOp.move rfl) ?_
            refine SL.ung rfl rfl rfl rfl ?_
            refine SL.pure rfl rfl rfl (PureOp.loads (vs := [.string nm, .int .i64 se, .int .i64 ov, .slice ac cl.length cc]) Try.underlying24 rfl rfl (fun _ => (RowIs.cells 0 0 4 rfl rfl)) sz24) ?_
            refine SL.ung rfl rfl rfl rfl ?_
            refine SL.calle rfl rfl rfl rfl rfl rfl callable21 (fun w hw => rauth_ok nm se ov cl ac cl.length cc rfl hcb w hR) ?_
            refine SL.ung rfl rfl rfl rfl ?_
            refine SL.pure rfl rfl rfl (PureOp.gtr rfl rfl) ?_
            refine SL.lit 100 false rfl (by have q := fits_sum hR hF; rw [suf_end (by omega)] at hm; simp; omega) ?_
            refine SL.pure rfl rfl rfl (PureOp.pickF rfl rfl) ?_
            refine SL.nil_then ?_
            refine WC.condF rfl ?_
            refine WC.skip ?_
            refine QX.normal_in ?_
            refine QX.then_ ?_
            refine WC.region ?_
            refine SL.pure rfl rfl rfl (PureOp.move rfl) ?_
            refine SL.pure rfl rfl rfl (PureOp.addN (k := 1) rfl rfl (fun _ => by (first | omega | (have q := suf_bd hFr z (by omega); have q2 := hFr.all z (by omega); have q3 := suf_bd hFr 0 (by omega); rw [suf, List.drop_zero] at q3; omega)))) ?_
            refine SL.pure rfl rfl rfl (PureOp.assign rfl) ?_
            refine SL.nil ?_
            refine QX.heap (fun w h => HeapOk.pick [0, 3] (by decide) h) ?_
            refine QX.round (σ := Nat × Nat × Option Addr × Nat × List Int) (Ef := fun q_ => [(0, 0, .agg #[.string nm, .int .i64 se, .int .i64 ov, .slice ac cl.length cc]), (1, 0, .slice aq nq cq), (2, 0, .pointer (some ⟨b1, 0, none⟩)), (11, 0, .agg #[.string nm, .int .i64 se, .int .i64 ov, .slice ac cl.length cc]), (12, 0, .bool rb), (13, 0, .bool (!rb)), (14, 0, .bool (!rb)), (18, 0, .bool ((!rb) || (decide (40 < ((nq : Nat) : Int))))), (20, 0, .pointer (some ⟨b1, 3, none⟩)), (21, 0, .slice ac cl.length cc), (22, 0, .int .i64 ((cl.length : Nat) : Int)), (23, 0, .slice (some ⟨b2, 0, none⟩) cl.length cl.length), (6, 0, .int .i64 ((q_.1 : Nat) : Int)), (5, 0, .slice q_.2.2.1 q_.2.1 q_.2.2.2.1)]) (Hf := fun q_ => [Item.cells b1 [.string nm, .int .i64 se, .int .i64 ov, .slice ac cl.length cc] 24, Item.own w0.heap.size q_.2.2.1 q_.2.1 q_.2.2.2.1 3 1 (cellsOf encI q_.2.2.2.2)]) (I := fun q_ => q_.1 ≤ nq ∧ fits (se + ov) cl q_.2.2.2.2 = true ∧ q_.2.1 = q_.2.2.2.2.length ∧ q_.2.2.2.2.length ≤ 60) (μ := fun q_ => nq - q_.1) (s := (i, sn, sao, scap, S)) 2 ((i + 1, (cancL cl S (nth ql i).1 (-(nth ql i).2)).length, ua, uc, (cancL cl S (nth ql i).1 (-(nth ql i).2)))) ⟨⟨(by first | omega | (dsimp only; omega)), hF, hln, hl60⟩, by first | omega | (dsimp only; omega)⟩ ⟨rfl, rfl, rfl, rfl, rfl, rfl, rfl, rfl, rfl, rfl, rfl, rfl, rfl, rfl, rfl, rfl, rfl, rfl, rfl, rfl, rfl, rfl, rfl, rfl, rfl, rfl, rfl, rfl, trivial⟩ rfl
        · try simp only [Bool.and_eq_true, Bool.or_eq_true, Bool.not_eq_true', Bool.not_eq_false', Bool.and_eq_false_iff, Bool.or_eq_false_iff, decide_eq_true_eq, decide_eq_false_iff_not, Int.not_lt, Int.not_le, ne_eq, Decidable.not_not] at h4
          refine WC.skip ?_
          refine QX.then_ ?_
          refine WC.seq ?_
          refine WC.region ?_
          refine SL.pure rfl rfl rfl (PureOp.assign rfl) ?_
          refine SL.nil_then ?_
          refine WC.seq ?_
          refine WC.seq ?_
          refine WC.region ?_
          refine SL.pure rfl rfl rfl (PureOp.assign rfl) ?_
          refine SL.nil_then ?_
          refine WC.block ?_
          refine WC.loop (σ := Nat × Int) (fun q_ => [(0, 0, .agg #[.string nm, .int .i64 se, .int .i64 ov, .slice ac cl.length cc]), (1, 0, .slice aq nq cq), (2, 0, .pointer (some ⟨b1, 0, none⟩)), (5, 0, .slice sao sn scap), (6, 0, .int .i64 ((i : Nat) : Int)), (7, 0, .slice ua ((cancL cl S (nth ql i).1 (-(nth ql i).2)).length) uc), (8, 0, .int .i64 (cancE cl S (nth ql i).1 (-(nth ql i).2))), (11, 0, .agg #[.string nm, .int .i64 se, .int .i64 ov, .slice ac cl.length cc]), (12, 0, .bool rb), (13, 0, .bool (!rb)), (14, 0, .bool (!rb)), (18, 0, .bool ((!rb) || (decide (40 < ((nq : Nat) : Int))))), (20, 0, .pointer (some ⟨b1, 3, none⟩)), (21, 0, .slice ac cl.length cc), (22, 0, .int .i64 ((cl.length : Nat) : Int)), (23, 0, .slice (some ⟨b2, 0, none⟩) cl.length cl.length), (24, 0, .int .i64 ((i : Nat) : Int)), (25, 0, .slice aq nq cq), (26, 0, .int .i64 ((nq : Nat) : Int)), (27, 0, .bool (decide (((i : Nat) : Int) < ((nq : Nat) : Int)))), (30, 0, .tuple #[.slice sa ((sellL (se + ov) cl S (nth ql i).1 (nth ql i).2).length) sc, .int .i64 (sellE (se + ov) cl S (nth ql i).1 (nth ql i).2)]), (31, 0, .agg #[.string nm, .int .i64 se, .int .i64 ov, .slice ac cl.length cc]), (32, 0, .slice sao sn scap), (33, 0, .slice aq nq cq), (34, 0, .int .i64 ((i : Nat) : Int)), (35, 0, .pointer (some ⟨blk aq, off aq + i * 2, none⟩)), (36, 0, .pointer (some ⟨blk aq, off aq + i * 2, none⟩)), (37, 0, .int .i64 ((nth ql i).1)), (38, 0, .slice aq nq cq), (39, 0, .int .i64 ((i : Nat) : Int)), (40, 0, .pointer (some ⟨blk aq, off aq + i * 2, none⟩)), (41, 0, .pointer (some ⟨blk aq, off aq + i * 2 + 1, none⟩)), (42, 0, .int .i64 ((nth ql i).2)), (43, 0, .tuple #[.slice sa ((sellL (se + ov) cl S (nth ql i).1 (nth ql i).2).length) sc, .int .i64 (sellE (se + ov) cl S (nth ql i).1 (nth ql i).2)]), (44, 0, .slice sa ((sellL (se + ov) cl S (nth ql i).1 (nth ql i).2).length) sc), (45, 0, .int .i64 (sellE (se + ov) cl S (nth ql i).1 (nth ql i).2)), (46, 0, .slice aq nq cq), (47, 0, .int .i64 ((i : Nat) : Int)), (48, 0, .pointer (some ⟨blk aq, off aq + i * 2, none⟩)), (49, 0, .pointer (some ⟨blk aq, off aq + i * 2 + 1, none⟩)), (50, 0, .int .i64 ((nth ql i).2)), (51, 0, .bool (decide ((nth ql i).2 < 0))), (52, 0, .bool (decide ((nth ql i).2 < 0))), (59, 0, .bool ((decide ((nth ql i).2 < 0)) && (decide ((-10000) < (nth ql i).2)))), (60, 0, .tuple #[.slice ua ((cancL cl S (nth ql i).1 (-(nth ql i).2)).length) uc, .int .i64 (cancE cl S (nth ql i).1 (-(nth ql i).2))]), (61, 0, .agg #[.string nm, .int .i64 se, .int .i64 ov, .slice ac cl.length cc]), (62, 0, .slice sao sn scap), (63, 0, .slice aq nq cq), (64, 0, .int .i64 ((i : Nat) : Int)), (65, 0, .pointer (some ⟨blk aq, off aq + i * 2, none⟩)), (66, 0, .pointer (some ⟨blk aq, off aq + i * 2, none⟩)), (67, 0, .int .i64 ((nth ql i).1)), (68, 0, .slice aq nq cq), (69, 0, .int .i64 ((i : Nat) : Int)), (70, 0, .pointer (some ⟨blk aq, off aq + i * 2, none⟩)), (71, 0, .pointer (some ⟨blk aq, off aq + i * 2 + 1, none⟩)), (72, 0, .int .i64 ((nth ql i).2)), (73, 0, .int .i64 (-((nth ql i).2))), (74, 0, .tuple #[.slice ua ((cancL cl S (nth ql i).1 (-(nth ql i).2)).length) uc, .int .i64 (cancE cl S (nth ql i).1 (-(nth ql i).2))]), (75, 0, .slice ua ((cancL cl S (nth ql i).1 (-(nth ql i).2)).length) uc), (76, 0, .int .i64 (cancE cl S (nth ql i).1 (-(nth ql i).2))), (77, 0, .int .i64 (cancE cl S (nth ql i).1 (-(nth ql i).2))), (78, 0, .bool (decide (cancE cl S (nth ql i).1 (-(nth ql i).2) = 0))), (10, 0, .int .i64 ((q_.1 : Nat) : Int)), (9, 0, .int .i64 q_.2)]) (fun q_ => [Item.cells b1 [.string nm, .int .i64 se, .int .i64 ov, .slice ac cl.length cc] 24, Item.own w0.heap.size sao sn scap 3 1 (cellsOf encI S), Item.own w0.heap.size sa ((sellL (se + ov) cl S (nth ql i).1 (nth ql i).2).length) sc 3 1 (cellsOf encI (sellL (se + ov) cl S (nth ql i).1 (nth ql i).2)), Item.own w0.heap.size ua ((cancL cl S (nth ql i).1 (-(nth ql i).2)).length) uc 3 1 (cellsOf encI (cancL cl S (nth ql i).1 (-(nth ql i).2)))]) (fun q_ => q_.1 ≤ sn ∧ q_.2 = (S).sum - suf S q_.1 ∧ fits (se + ov) cl S = true ∧ sn = (S).length ∧ (S).length ≤ 60) (fun q_ => sn - q_.1) 4 ((0, 0)) (⟨Nat.zero_le _, by show (0 : Int) = (S).sum - suf S 0; rw [suf, List.drop_zero]; omega, hSf, by first | rfl | assumption, by have q1 := sellL_len (se := se) (ov := ov) (cl := cl) (l := S) (r := (nth ql i).1) (x := (nth ql i).2); have q2 := cancL_len (cl := cl) (l := S) (r := (nth ql i).1) (x := -(nth ql i).2); omega⟩) ⟨rfl, rfl, rfl, rfl, rfl, rfl, rfl, rfl, rfl, rfl, rfl, rfl, rfl, rfl, rfl, rfl, rfl, rfl, rfl, rfl, rfl, rfl, rfl, rfl, rfl, rfl, rfl, rfl, rfl, rfl, rfl, rfl, rfl, rfl, rfl, rfl, rfl, rfl, rfl, rfl, rfl, rfl, rfl, rfl, rfl, rfl, rfl, rfl, rfl, rfl, rfl, rfl, rfl, rfl, rfl, rfl, rfl, rfl, rfl, rfl, rfl, rfl, rfl, rfl, rfl, rfl, rfl, rfl, rfl, rfl, rfl, rfl, rfl, rfl, rfl, rfl, rfl, rfl, rfl, rfl, rfl, rfl, rfl, rfl, rfl, rfl, rfl, rfl, rfl, rfl, rfl, rfl, rfl, rfl, rfl, rfl, rfl, rfl, rfl, rfl, rfl, rfl, rfl, rfl, rfl, rfl, rfl, rfl, rfl, rfl, rfl, rfl, rfl, rfl, rfl, rfl, rfl, rfl, rfl, rfl, rfl, rfl, rfl, rfl, rfl, rfl, rfl, rfl, rfl, rfl, trivial⟩ rfl ?_
          rintro ⟨z, m⟩ ⟨hz, hm, hF, hln, hl60⟩
          try dsimp only at *
          have hFr := (fits_iff.1 hF).1
          refine WC.seq ?_
          refine WC.seq ?_
          refine WC.region ?_
          refine SL.pure rfl rfl rfl (PureOp.move rfl) ?_
          refine SL.pure rfl rfl rfl (PureOp.move rfl) ?_
          refine SL.pure rfl rfl rfl (PureOp.len rfl Try.underlying25) ?_
          refine SL.pure rfl rfl rfl (PureOp.lss rfl rfl) ?_
          refine SL.nil_then ?_
          refine WC.cond rfl (fun h6 => ?_) (fun h6 => ?_)
          · try simp only [Bool.and_eq_true, Bool.or_eq_true, Bool.not_eq_true', Bool.not_eq_false', Bool.and_eq_false_iff, Bool.or_eq_false_iff, decide_eq_true_eq, decide_eq_false_iff_not, Int.not_lt, Int.not_le, ne_eq, Decidable.not_not] at h6
            refine WC.skip ?_
            refine QX.then_ ?_
            refine WC.seq ?_
            refine WC.block ?_
            refine WC.region ?_
            refine SL.pure rfl rfl rfl (PureOp.move rfl) ?_
            refine SL.pure rfl rfl rfl (PureOp.move rfl) ?_
            refine SL.pure rfl rfl rfl (PureOp.move rfl) ?_
            refine SL.pure rfl rfl rfl (PureOp.indexAddrN Try.underlying25 sz3 rfl rfl (AoOk.own 1 rfl) (fun _ => by (first | omega | (have q := suf_bd hFr z (by omega); have q2 := hFr.all z (by omega); have q3 := suf_bd hFr 0 (by omega); rw [suf, List.drop_zero] at q3; omega)))) ?_
            refine SL.pure rfl rfl rfl (PureOp.load Try.underlying3 rfl rfl (fun _ => (CellIs.ownc 1 rfl z 0 (by exact encI_get (by omega))))) ?_
            refine SL.pure rfl rfl rfl (PureOp.add rfl rfl (fun _ => by (first | omega | (have q := suf_bd hFr z (by omega); have q2 := hFr.all z (by omega); have q3 := suf_bd hFr 0 (by omega); rw [suf, List.drop_zero] at q3; omega)))) ?_
            refine SL.pure rfl rfl rfl (PureOp.assign rfl) ?_
            refine SL.nil ?_
            refine QX.normal_in ?_
            refine QX.then_ ?_
            refine WC.region ?_
            refine SL.pure rfl rfl rfl (PureOp.move rfl) ?_
            refine SL.pure rfl rfl rfl (PureOp.addN (k := 1) rfl rfl (fun _ => by (first | omega | (have q := suf_bd hFr z (by omega); have q2 := hFr.all z (by omega); have q3 := suf_bd hFr 0 (by omega); rw [suf, List.drop_zero] at q3; omega)))) ?_
            refine SL.pure rfl rfl rfl (PureOp.assign rfl) ?_
            refine SL.nil ?_
            refine QX.round (σ := Nat × Int) (Ef := fun q_ => [(0, 0, .agg #[.string nm, .int .i64 se, .int .i64 ov, .slice ac cl.length cc]), (1, 0, .slice aq nq cq), (2, 0, .pointer (some ⟨b1, 0, none⟩)), (5, 0, .slice sao sn scap), (6, 0, .int .i64 ((i : Nat) : Int)), (7, 0, .slice ua ((cancL cl S (nth ql i).1 (-(nth ql i).2)).length) uc), (8, 0, .int .i64 (cancE cl S (nth ql i).1 (-(nth ql i).2))), (11, 0, .agg #[.string nm, .int .i64 se, .int .i64 ov, .slice ac cl.length cc]), (12, 0, .bool rb), (13, 0, .bool (!rb)), (14, 0, .bool (!rb)), (18, 0, .bool ((!rb) || (decide (40 < ((nq : Nat) : Int))))), (20, 0, .pointer (some ⟨b1, 3, none⟩)), (21, 0, .slice ac cl.length cc), (22, 0, .int .i64 ((cl.length : Nat) : Int)), (23, 0, .slice (some ⟨b2, 0, none⟩) cl.length cl.length), (24, 0, .int .i64 ((i : Nat) : Int)), (25, 0, .slice aq nq cq), (26, 0, .int .i64 ((nq : Nat) : Int)), (27, 0, .bool (decide (((i : Nat) : Int) < ((nq : Nat) : Int)))), (30, 0, .tuple #[.slice sa ((sellL (se + ov) cl S (nth ql i).1 (nth ql i).2).length) sc, .int .i64 (sellE (se + ov) cl S (nth ql i).1 (nth ql i).2)]), (31, 0, .agg #[.string nm, .int .i64 se, .int .i64 ov, .slice ac cl.length cc]), (32, 0, .slice sao sn scap), (33, 0, .slice aq nq cq), (34, 0, .int .i64 ((i : Nat) : Int)), (35, 0, .pointer (some ⟨blk aq, off aq + i * 2, none⟩)), (36, 0, .pointer (some ⟨blk aq, off aq + i * 2, none⟩)), (37, 0, .int .i64 ((nth ql i).1)), (38, 0, .slice aq nq cq), (39, 0, .int .i64 ((i : Nat) : Int)), (40, 0, .pointer (some ⟨blk aq, off aq + i * 2, none⟩)), (41, 0, .pointer (some ⟨blk aq, off aq + i * 2 + 1, none⟩)), (42, 0, .int .i64 ((nth ql i).2)), (43, 0, .tuple #[.slice sa ((sellL (se + ov) cl S (nth ql i).1 (nth ql i).2).length) sc, .int .i64 (sellE (se + ov) cl S (nth ql i).1 (nth ql i).2)]), (44, 0, .slice sa ((sellL (se + ov) cl S (nth ql i).1 (nth ql i).2).length) sc), (45, 0, .int .i64 (sellE (se + ov) cl S (nth ql i).1 (nth ql i).2)), (46, 0, .slice aq nq cq), (47, 0, .int .i64 ((i : Nat) : Int)), (48, 0, .pointer (some ⟨blk aq, off aq + i * 2, none⟩)), (49, 0, .pointer (some ⟨blk aq, off aq + i * 2 + 1, none⟩)), (50, 0, .int .i64 ((nth ql i).2)), (51, 0, .bool (decide ((nth ql i).2 < 0))), (52, 0, .bool (decide ((nth ql i).2 < 0))), (59, 0, .bool ((decide ((nth ql i).2 < 0)) && (decide ((-10000) < (nth ql i).2)))), (60, 0, .tuple #[.slice ua ((cancL cl S (nth ql i).1 (-(nth ql i).2)).length) uc, .int .i64 (cancE cl S (nth ql i).1 (-(nth ql i).2))]), (61, 0, .agg #[.string nm, .int .i64 se, .int .i64 ov, .slice ac cl.length cc]), (62, 0, .slice sao sn scap), (63, 0, .slice aq nq cq), (64, 0, .int .i64 ((i : Nat) : Int)), (65, 0, .pointer (some ⟨blk aq, off aq + i * 2, none⟩)), (66, 0, .pointer (some ⟨blk aq, off aq + i * 2, none⟩)), (67, 0, .int .i64 ((nth ql i).1)), (68, 0, .slice aq nq cq), (69, 0, .int .i64 ((i : Nat) : Int)), (70, 0, .pointer (some ⟨blk aq, off aq + i * 2, none⟩)), (71, 0, .pointer (some ⟨blk aq, off aq + i * 2 + 1, none⟩)), (72, 0, .int .i64 ((nth ql i).2)), (73, 0, .int .i64 (-((nth ql i).2))), (74, 0, .tuple #[.slice ua ((cancL cl S (nth ql i).1 (-(nth ql i).2)).length) uc, .int .i64 (cancE cl S (nth ql i).1 (-(nth ql i).2))]), (75, 0, .slice ua ((cancL cl S (nth ql i).1 (-(nth ql i).2)).length) uc), (76, 0, .int .i64 (cancE cl S (nth ql i).1 (-(nth ql i).2))), (77, 0, .int .i64 (cancE cl S (nth ql i).1 (-(nth ql i).2))), (78, 0, .bool (decide (cancE cl S (nth ql i).1 (-(nth ql i).2) = 0))), (10, 0, .int .i64 ((q_.1 : Nat) : Int)), (9, 0, .int .i64 q_.2)]) (Hf := fun q_ => [Item.cells b1 [.string nm, .int .i64 se, .int .i64 ov, .slice ac cl.length cc] 24, Item.own w0.heap.size sao sn scap 3 1 (cellsOf encI S), Item.own w0.heap.size sa ((sellL (se + ov) cl S (nth ql i).1 (nth ql i).2).length) sc 3 1 (cellsOf encI (sellL (se + ov) cl S (nth ql i).1 (nth ql i).2)), Item.own w0.heap.size ua ((cancL cl S (nth ql i).1 (-(nth ql i).2)).length) uc 3 1 (cellsOf encI (cancL cl S (nth ql i).1 (-(nth ql i).2)))]) (I := fun q_ => q_.1 ≤ sn ∧ q_.2 = (S).sum - suf S q_.1 ∧ fits (se + ov) cl S = true ∧ sn = (S).length ∧ (S).length ≤ 60) (μ := fun q_ => sn - q_.1) (s := (z, m)) 4 ((z + 1, m + nth S z)) ⟨⟨(by first | omega | (dsimp only; omega)), by show m + nth S z = _ - suf S (z + 1); have e := suf_succ (l := S) (i := z) (by omega); omega, hF, hln, hl60⟩, by first | omega | (dsimp only; omega)⟩ ⟨rfl, rfl, rfl, rfl, rfl, rfl, rfl, rfl, rfl, rfl, rfl, rfl, rfl, rfl, rfl, rfl, rfl, rfl, rfl, rfl, rfl, rfl, rfl, rfl, rfl, rfl, rfl, rfl, rfl, rfl, rfl, rfl, rfl, rfl, rfl, rfl, rfl, rfl, rfl, rfl, rfl, rfl, rfl, rfl, rfl, rfl, rfl, rfl, rfl, rfl, rfl, rfl, rfl, rfl, rfl, rfl, rfl, rfl, rfl, rfl, rfl, rfl, rfl, rfl, rfl, rfl, rfl, rfl, rfl, rfl, rfl, rfl, rfl, rfl, rfl, rfl, rfl, rfl, rfl, rfl, rfl, rfl, rfl, rfl, rfl, rfl, rfl, rfl, rfl, rfl, rfl, rfl, rfl, rfl, rfl, rfl, rfl, rfl, rfl, rfl, rfl, rfl, rfl, rfl, rfl, rfl, rfl, rfl, rfl, rfl, rfl, rfl, rfl, rfl, rfl, rfl, rfl, rfl, rfl, rfl, rfl, rfl, rfl, rfl, rfl, rfl, rfl, rfl, rfl, rfl, trivial⟩ rfl
          · try simp only [Bool.and_eq_true, Bool.or_eq_true, Bool.not_eq_true', Bool.not_eq_false', Bool.and_eq_false_iff, Bool.or_eq_false_iff, decide_eq_true_eq, decide_eq_false_iff_not, Int.not_lt, Int.not_le, ne_eq, Decidable.not_not] at h6
            refine WC.exit ?_
            refine QX.exit_then ?_
            refine QX.exit_then ?_
            refine QX.exit_hit ?_
            refine QX.then_ ?_
            refine WC.seq ?_
            refine WC.region ?_
            refine SL.pure rfl rfl rfl (PureOp.loads (vs := [.string nm, .int .i64 se, .int .i64 ov, .slice ac cl.length cc]) Try.underlying24 rfl rfl (fun _ => (RowIs.cells 0 0 4 rfl rfl)) sz24) ?_
            refine SL.pure rfl rfl rfl (PureOp.move rfl) ?_
            refine SL.calle rfl rfl rfl rfl rfl rfl callable13 (fun w hw => fits_ok nm se ov cl ac cl.length cc rfl hcb S _ sn _ (by first | rfl | assumption) (by have q1 := sellL_len (se := se) (ov := ov) (cl := cl) (l := S) (r := (nth ql i).1) (x := (nth ql i).2); have q2 := cancL_len (cl := cl) (l := S) (r := (nth ql i).1) (x := -(nth ql i).2); omega) w (SliceIn.rows (hw.mem (i := 1) rfl) encI_len (by first | exact Nat.le_refl _ | omega)) (hc.below hw.below) hR) ?_
            refine SL.pure rfl rfl rfl (PureOp.not rfl) ?_
            refine SL.lit 95 false rfl (by rw [hF]; rfl) ?_
            refine SL.pure rfl rfl rfl (PureOp.move rfl) ?_
            refine SL.ung rfl rfl rfl rfl ?_
            refine SL.pure rfl rfl rfl (PureOp.move rfl) ?_
            refine SL.ung rfl rfl rfl rfl ?_
            refine SL.pure rfl rfl rfl (PureOp.loads (vs := [.string nm, .int .i64 se, .int .i64 ov, .slice ac cl.length cc]) Try.underlying24 rfl rfl (fun _ => (RowIs.cells 0 0 4 rfl rfl)) sz24) ?_
            refine SL.ung rfl rfl rfl rfl ?_
            refine SL.calle rfl rfl rfl rfl rfl rfl callable21 (fun w hw => rauth_ok nm se ov cl ac cl.length cc rfl hcb w hR) ?_
            refine SL.ung rfl rfl rfl rfl ?_
            refine SL.pure rfl rfl rfl (PureOp.gtr rfl rfl) ?_
            refine SL.lit 100 false rfl (by have q := fits_sum hR hF; rw [suf_end (by omega)] at hm; simp; omega) ?_
            refine SL.pure rfl rfl rfl (PureOp.pickF rfl rfl) ?_
            refine SL.nil_then ?_
            refine WC.condF rfl ?_
            refine WC.skip ?_
            refine QX.normal_in ?_
            refine QX.then_ ?_
            refine WC.region ?_
            refine SL.pure rfl rfl rfl (PureOp.move rfl) ?_
            refine SL.pure rfl rfl rfl (PureOp.addN (k := 1) rfl rfl (fun _ => by (first | omega | (have q := suf_bd hFr z (by omega); have q2 := hFr.all z (by omega); have q3 := suf_bd hFr 0 (by omega); rw [suf, List.drop_zero] at q3; omega)))) ?_
            refine SL.pure rfl rfl rfl (PureOp.assign rfl) ?_
            refine SL.nil ?_
            refine QX.round (σ := Nat × Nat × Option Addr × Nat × List Int) (Ef := fun q_ => [(0, 0, .agg #[.string nm, .int .i64 se, .int .i64 ov, .slice ac cl.length cc]), (1, 0, .slice aq nq cq), (2, 0, .pointer (some ⟨b1, 0, none⟩)), (11, 0, .agg #[.string nm, .int .i64 se, .int .i64 ov, .slice ac cl.length cc]), (12, 0, .bool rb), (13, 0, .bool (!rb)), (14, 0, .bool (!rb)), (18, 0, .bool ((!rb) || (decide (40 < ((nq : Nat) : Int))))), (20, 0, .pointer (some ⟨b1, 3, none⟩)), (21, 0, .slice ac cl.length cc), (22, 0, .int .i64 ((cl.length : Nat) : Int)), (23, 0, .slice (some ⟨b2, 0, none⟩) cl.length cl.length), (6, 0, .int .i64 ((q_.1 : Nat) : Int)), (5, 0, .slice q_.2.2.1 q_.2.1 q_.2.2.2.1)]) (Hf := fun q_ => [Item.cells b1 [.string nm, .int .i64 se, .int .i64 ov, .slice ac cl.length cc] 24, Item.own w0.heap.size q_.2.2.1 q_.2.1 q_.2.2.2.1 3 1 (cellsOf encI q_.2.2.2.2)]) (I := fun q_ => q_.1 ≤ nq ∧ fits (se + ov) cl q_.2.2.2.2 = true ∧ q_.2.1 = q_.2.2.2.2.length ∧ q_.2.2.2.2.length ≤ 60) (μ := fun q_ => nq - q_.1) (s := (i, sn, sao, scap, S)) 2 ((i + 1, sn, sao, scap, S)) ⟨⟨(by first | omega | (dsimp only; omega)), hF, hln, hl60⟩, by first | omega | (dsimp only; omega)⟩ ⟨rfl, rfl, rfl, rfl, rfl, rfl, rfl, rfl, rfl, rfl, rfl, rfl, rfl, rfl, rfl, rfl, rfl, rfl, rfl, rfl, rfl, rfl, rfl, rfl, rfl, rfl, rfl, rfl, trivial⟩ rfl
      · try simp only [Bool.and_eq_true, Bool.or_eq_true, Bool.not_eq_true', Bool.not_eq_false', Bool.and_eq_false_iff, Bool.or_eq_false_iff, decide_eq_true_eq, decide_eq_false_iff_not, Int.not_lt, Int.not_le, ne_eq, Decidable.not_not] at h3
        refine WC.skip ?_
        refine QX.then_ ?_
        refine WC.seq ?_
        refine WC.seq ?_
        refine WC.region ?_
        refine SL.pure rfl rfl rfl (PureOp.move rfl) ?_
        refine SL.pure rfl rfl rfl (PureOp.eql rfl rfl) ?_
        refine SL.nil_then ?_
        refine WC.cond rfl (fun h7 => ?_) (fun h7 => ?_)
        · try simp only [Bool.and_eq_true, Bool.or_eq_true, Bool.not_eq_true', Bool.not_eq_false', Bool.and_eq_false_iff, Bool.or_eq_false_iff, decide_eq_true_eq, decide_eq_false_iff_not, Int.not_lt, Int.not_le, ne_eq, Decidable.not_not] at h7
          refine WC.region ?_
          refine SL.pure rfl rfl rfl (PureOp.move rfl) ?_
          refine SL.pure rfl rfl rfl (PureOp.assign rfl) ?_
          refine SL.nil_then ?_
          refine WC.seq ?_
          refine WC.region ?_
          refine SL.pure rfl rfl rfl (PureOp.assign rfl) ?_
          refine SL.nil_then ?_
          refine WC.seq ?_
          refine WC.seq ?_
          refine WC.region ?_
          refine SL.pure rfl rfl rfl (PureOp.assign rfl) ?_
          refine SL.nil_then ?_
          refine WC.block ?_
          refine WC.loop (σ := Nat × Int) (fun q_ => [(0, 0, .agg #[.string nm, .int .i64 se, .int .i64 ov, .slice ac cl.length cc]), (1, 0, .slice aq nq cq), (2, 0, .pointer (some ⟨b1, 0, none⟩)), (5, 0, .slice sa ((sellL (se + ov) cl S (nth ql i).1 (nth ql i).2).length) sc), (6, 0, .int .i64 ((i : Nat) : Int)), (7, 0, .slice sa ((sellL (se + ov) cl S (nth ql i).1 (nth ql i).2).length) sc), (8, 0, .int .i64 (sellE (se + ov) cl S (nth ql i).1 (nth ql i).2)), (11, 0, .agg #[.string nm, .int .i64 se, .int .i64 ov, .slice ac cl.length cc]), (12, 0, .bool rb), (13, 0, .bool (!rb)), (14, 0, .bool (!rb)), (18, 0, .bool ((!rb) || (decide (40 < ((nq : Nat) : Int))))), (20, 0, .pointer (some ⟨b1, 3, none⟩)), (21, 0, .slice ac cl.length cc), (22, 0, .int .i64 ((cl.length : Nat) : Int)), (23, 0, .slice (some ⟨b2, 0, none⟩) cl.length cl.length), (24, 0, .int .i64 ((i : Nat) : Int)), (25, 0, .slice aq nq cq), (26, 0, .int .i64 ((nq : Nat) : Int)), (27, 0, .bool (decide (((i : Nat) : Int) < ((nq : Nat) : Int)))), (30, 0, .tuple #[.slice sa ((sellL (se + ov) cl S (nth ql i).1 (nth ql i).2).length) sc, .int .i64 (sellE (se + ov) cl S (nth ql i).1 (nth ql i).2)]), (31, 0, .agg #[.string nm, .int .i64 se, .int .i64 ov, .slice ac cl.length cc]), (32, 0, .slice sao sn scap), (33, 0, .slice aq nq cq), (34, 0, .int .i64 ((i : Nat) : Int)), (35, 0, .pointer (some ⟨blk aq, off aq + i * 2, none⟩)), (36, 0, .pointer (some ⟨blk aq, off aq + i * 2, none⟩)), (37, 0, .int .i64 ((nth ql i).1)), (38, 0, .slice aq nq cq), (39, 0, .int .i64 ((i : Nat) : Int)), (40, 0, .pointer (some ⟨blk aq, off aq + i * 2, none⟩)), (41, 0, .pointer (some ⟨blk aq, off aq + i * 2 + 1, none⟩)), (42, 0, .int .i64 ((nth ql i).2)), (43, 0, .tuple #[.slice sa ((sellL (se + ov) cl S (nth ql i).1 (nth ql i).2).length) sc, .int .i64 (sellE (se + ov) cl S (nth ql i).1 (nth ql i).2)]), (44, 0, .slice sa ((sellL (se + ov) cl S (nth ql i).1 (nth ql i).2).length) sc), (45, 0, .int .i64 (sellE (se + ov) cl S (nth ql i).1 (nth ql i).2)), (46, 0, .slice aq nq cq), (47, 0, .int .i64 ((i : Nat) : Int)), (48, 0, .pointer (some ⟨blk aq, off aq + i * 2, none⟩)), (49, 0, .pointer (some ⟨blk aq, off aq + i * 2 + 1, none⟩)), (50, 0, .int .i64 ((nth ql i).2)), (51, 0, .bool (decide ((nth ql i).2 < 0))), (52, 0, .bool (decide ((nth ql i).2 < 0))), (59, 0, .bool ((decide ((nth ql i).2 < 0)) && (decide ((-10000) < (nth ql i).2)))), (77, 0, .int .i64 (sellE (se + ov) cl S (nth ql i).1 (nth ql i).2)), (78, 0, .bool (decide (sellE (se + ov) cl S (nth ql i).1 (nth ql i).2 = 0))), (79, 0, .slice sa ((sellL (se + ov) cl S (nth ql i).1 (nth ql i).2).length) sc), (10, 0, .int .i64 ((q_.1 : Nat) : Int)), (9, 0, .int .i64 q_.2)]) (fun q_ => [Item.cells b1 [.string nm, .int .i64 se, .int .i64 ov, .slice ac cl.length cc] 24, Item.own w0.heap.size sao sn scap 3 1 (cellsOf encI S), Item.own w0.heap.size sa ((sellL (se + ov) cl S (nth ql i).1 (nth ql i).2).length) sc 3 1 (cellsOf encI (sellL (se + ov) cl S (nth ql i).1 (nth ql i).2))]) (fun q_ => q_.1 ≤ (sellL (se + ov) cl S (nth ql i).1 (nth ql i).2).length ∧ q_.2 = ((sellL (se + ov) cl S (nth ql i).1 (nth ql i).2)).sum - suf (sellL (se + ov) cl S (nth ql i).1 (nth ql i).2) q_.1 ∧ fits (se + ov) cl (sellL (se + ov) cl S (nth ql i).1 (nth ql i).2) = true ∧ (sellL (se + ov) cl S (nth ql i).1 (nth ql i).2).length = ((sellL (se + ov) cl S (nth ql i).1 (nth ql i).2)).length ∧ ((sellL (se + ov) cl S (nth ql i).1 (nth ql i).2)).length ≤ 60) (fun q_ => (sellL (se + ov) cl S (nth ql i).1 (nth ql i).2).length - q_.1) 3 ((0, 0)) (⟨Nat.zero_le _, by show (0 : Int) = ((sellL (se + ov) cl S (nth ql i).1 (nth ql i).2)).sum - suf (sellL (se + ov) cl S (nth ql i).1 (nth ql i).2) 0; rw [suf, List.drop_zero]; omega, (play_sell hR hSf (by assumption)), by first | rfl | assumption, by have q1 := sellL_len (se := se) (ov := ov) (cl := cl) (l := S) (r := (nth ql i).1) (x := (nth ql i).2); have q2 := cancL_len (cl := cl) (l := S) (r := (nth ql i).1) (x := -(nth ql i).2); omega⟩) ⟨rfl, rfl, rfl, rfl, rfl, rfl, rfl, rfl, rfl, rfl, rfl, rfl, rfl, rfl, rfl, rfl, rfl, rfl, rfl, rfl, rfl, rfl, rfl, rfl, rfl, rfl, rfl, rfl, rfl, rfl, rfl, rfl, rfl, rfl, rfl, rfl, rfl, rfl, rfl, rfl, rfl, rfl, rfl, rfl, rfl, rfl, rfl, rfl, rfl, rfl, rfl, rfl, rfl, rfl, rfl, rfl, rfl, rfl, rfl, rfl, rfl, rfl, rfl, rfl, rfl, rfl, rfl, rfl, rfl, rfl, rfl, rfl, rfl, rfl, rfl, rfl, rfl, rfl, rfl, rfl, rfl, rfl, rfl, rfl, rfl, rfl, rfl, rfl, rfl, rfl, rfl, rfl, rfl, rfl, rfl, rfl, rfl, rfl, trivial⟩ rfl ?_
          rintro ⟨z, m⟩ ⟨hz, hm, hF, hln, hl60⟩
          try dsimp only at *
          have hFr := (fits_iff.1 hF).1
          refine WC.seq ?_
          refine WC.seq ?_
          refine WC.region ?_
          refine SL.pure rfl rfl rfl (PureOp.move rfl) ?_
          refine SL.pure rfl rfl rfl (PureOp.move rfl) ?_
          refine SL.pure rfl rfl rfl (PureOp.len rfl Try.underlying25) ?_
          refine SL.pure rfl rfl rfl (PureOp.lss rfl rfl) ?_
          refine SL.nil_then ?_
          refine WC.cond rfl (fun h8 => ?_) (fun h8 => ?_)
          · try simp only [Bool.and_eq_true, Bool.or_eq_true, Bool.not_eq_true', Bool.not_eq_false', Bool.and_eq_false_iff, Bool.or_eq_false_iff, decide_eq_true_eq, decide_eq_false_iff_not, Int.not_lt, Int.not_le, ne_eq, Decidable.not_not] at h8
            refine WC.skip ?_
            refine QX.then_ ?_
            refine WC.seq ?_
            refine WC.block ?_
            refine WC.region ?_
            refine SL.pure rfl rfl rfl (PureOp.move rfl) ?_
            refine SL.pure rfl rfl rfl (PureOp.move rfl) ?_
            refine SL.pure rfl rfl rfl (PureOp.move rfl) ?_
            refine SL.pure rfl rfl rfl (PureOp.indexAddrN Try.underlying25 sz3 rfl rfl (AoOk.own 2 rfl) (fun _ => by (first | omega | (have q := suf_bd hFr z (by omega); have q2 := hFr.all z (by omega); have q3 := suf_bd hFr 0 (by omega); rw [suf, List.drop_zero] at q3; omega)))) ?_
            refine SL.pure rfl rfl rfl (PureOp.load Try.underlying3 rfl rfl (fun _ => (CellIs.ownc 2 rfl z 0 (by exact encI_get (by omega))))) ?_
            refine SL.pure rfl rfl rfl (PureOp.add rfl rfl (fun _ => by (first | omega | (have q := suf_bd hFr z (by omega); have q2 := hFr.all z (by omega); have q3 := suf_bd hFr 0 (by omega); rw [suf, List.drop_zero] at q3; omega)))) ?_
            refine SL.pure rfl rfl rfl (PureOp.assign rfl) ?_
            refine SL.nil ?_
            refine QX.normal_in ?_
            refine QX.then_ ?_
            refine WC.region ?_
            refine SL.pure rfl rfl rfl (PureOp.move rfl) ?_
            refine SL.pure rfl rfl rfl (PureOp.addN (k := 1) rfl rfl (fun _ => by (first | omega | (have q := suf_bd hFr z (by omega); have q2 := hFr.all z (by omega); have q3 := suf_bd hFr 0 (by omega); rw [suf, List.drop_zero] at q3; omega)))) ?_
            refine SL.pure rfl rfl rfl (PureOp.assign rfl) ?_
            refine SL.nil ?_
            refine QX.round (σ := Nat × Int) (Ef := fun q_ => [(0, 0, .agg #[.string nm, .int .i64 se, .int .i64 ov, .slice ac cl.length cc]), (1, 0, .slice aq nq cq), (2, 0, .pointer (some ⟨b1, 0, none⟩)), (5, 0, .slice sa ((sellL (se + ov) cl S (nth ql i).1 (nth ql i).2).length) sc), (6, 0, .int .i64 ((i : Nat) : Int)), (7, 0, .slice sa ((sellL (se + ov) cl S (nth ql i).1 (nth ql i).2).length) sc), (8, 0, .int .i64 (sellE (se + ov) cl S (nth ql i).1 (nth ql i).2)), (11, 0, .agg #[.string nm, .int .i64 se, .int .i64 ov, .slice ac cl.length cc]), (12, 0, .bool rb), (13, 0, .bool (!rb)), (14, 0, .bool (!rb)), (18, 0, .bool ((!rb) || (decide (40 < ((nq : Nat) : Int))))), (20, 0, .pointer (some ⟨b1, 3, none⟩)), (21, 0, .slice ac cl.length cc), (22, 0, .int .i64 ((cl.length : Nat) : Int)), (23, 0, .slice (some ⟨b2, 0, none⟩) cl.length cl.length), (24, 0, .int .i64 ((i : Nat) : Int)), (25, 0, .slice aq nq cq), (26, 0, .int .i64 ((nq : Nat) : Int)), (27, 0, .bool (decide (((i : Nat) : Int) < ((nq : Nat) : Int)))), (30, 0, .tuple #[.slice sa ((sellL (se + ov) cl S (nth ql i).1 (nth ql i).2).length) sc, .int .i64 (sellE (se + ov) cl S (nth ql i).1 (nth ql i).2)]), (31, 0, .agg #[.string nm, .int .i64 se, .int .i64 ov, .slice ac cl.length cc]), (32, 0, .slice sao sn scap), (33, 0, .slice aq nq cq), (34, 0, .int .i64 ((i : Nat) : Int)), (35, 0, .pointer (some ⟨blk aq, off aq + i * 2, none⟩)), (36, 0, .pointer (some ⟨blk aq, off aq + i * 2, none⟩)), (37, 0, .int .i64 ((nth ql i).1)), (38, 0, .slice aq nq cq), (39, 0, .int .i64 ((i : Nat) : Int)), (40, 0, .pointer (some ⟨blk aq, off aq + i * 2, none⟩)), (41, 0, .pointer (some ⟨blk aq, off aq + i * 2 + 1, none⟩)), (42, 0, .int .i64 ((nth ql i).2)), (43, 0, .tuple #[.slice sa ((sellL (se + ov) cl S (nth ql i).1 (nth ql i).2).length) sc, .int .i64 (sellE (se + ov) cl S (nth ql i).1 (nth ql i).2)]), (44, 0, .slice sa ((sellL (se + ov) cl S (nth ql i).1 (nth ql i).2).length) sc), (45, 0, .int .i64 (sellE (se + ov) cl S (nth ql i).1 (nth ql i).2)), (46, 0, .slice aq nq cq), (47, 0, .int .i64 ((i : Nat) : Int)), (48, 0, .pointer (some ⟨blk aq, off aq + i * 2, none⟩)), (49, 0, .pointer (some ⟨blk aq, off aq + i * 2 + 1, none⟩)), (50, 0, .int .i64 ((nth ql i).2)), (51, 0, .bool (decide ((nth ql i).2 < 0))), (52, 0, .bool (decide ((nth ql i).2 < 0))), (59, 0, .bool ((decide ((nth ql i).2 < 0)) && (decide ((-10000) < (nth ql i).2)))), (77, 0, .int .i64 (sellE (se + ov) cl S (nth ql i).1 (nth ql i).2)), (78, 0, .bool (decide (sellE (se + ov) cl S (nth ql i).1 (nth ql i).2 = 0))), (79, 0, .slice sa ((sellL (se + ov) cl S (nth ql i).1 (nth ql i).2).length) sc), (10, 0, .int .i64 ((q_.1 : Nat) : Int)), (9, 0, .int .i64 q_.2)]) (Hf := fun q_ => [Item.cells b1 [.string nm, .int .i64 se, .int .i64 ov, .slice ac cl.length cc] 24, Item.own w0.heap.size sao sn scap 3 1 (cellsOf encI S), Item.own w0.heap.size sa ((sellL (se + ov) cl S (nth ql i).1 (nth ql i).2).length) sc 3 1 (cellsOf encI (sellL (se + ov) cl S (nth ql i).1 (nth ql i).2))]) (I := fun q_ => q_.1 ≤ (sellL (se + ov) cl S (nth ql i).1 (nth ql i).2).length ∧ q_.2 = ((sellL (se + ov) cl S (nth ql i).1 (nth ql i).2)).sum - suf (sellL (se + ov) cl S (nth ql i).1 (nth ql i).2) q_.1 ∧ fits (se + ov) cl (sellL (se + ov) cl S (nth ql i).1 (nth ql i).2) = true ∧ (sellL (se + ov) cl S (nth ql i).1 (nth ql i).2).length = ((sellL (se + ov) cl S (nth ql i).1 (nth ql i).2)).length ∧ ((sellL (se + ov) cl S (nth ql i).1 (nth ql i).2)).length ≤ 60) (μ := fun q_ => (sellL (se + ov) cl S (nth ql i).1 (nth ql i).2).length - q_.1) (s := (z, m)) 3 ((z + 1, m + nth (sellL (se + ov) cl S (nth ql i).1 (nth ql i).2) z)) ⟨⟨(by first | omega | (dsimp only; omega)), by show m + nth (sellL (se + ov) cl S (nth ql i).1 (nth ql i).2) z = _ - suf (sellL (se + ov) cl S (nth ql i).1 (nth ql i).2) (z + 1); have e := suf_succ (l := (sellL (se + ov) cl S (nth ql i).1 (nth ql i).2)) (i := z) (by omega); omega, hF, hln, hl60⟩, by first | omega | (dsimp only; omega)⟩ ⟨rfl, rfl, rfl, rfl, rfl, rfl, rfl, rfl, rfl, rfl, rfl, rfl, rfl, rfl, rfl, rfl, rfl, rfl, rfl, rfl, rfl, rfl, rfl, rfl, rfl, rfl, rfl, rfl, rfl, rfl, rfl, rfl, rfl, rfl, rfl, rfl, rfl, rfl, rfl, rfl, rfl, rfl, rfl, rfl, rfl, rfl, rfl, rfl, rfl, rfl, rfl, rfl, rfl, rfl, rfl, rfl, rfl, rfl, rfl, rfl, rfl, rfl, rfl, rfl, rfl, rfl, rfl, rfl, rfl, rfl, rfl, rfl, rfl, rfl, rfl, rfl, rfl, rfl, rfl, rfl, rfl, rfl, rfl, rfl, rfl, rfl, rfl, rfl, rfl, rfl, rfl, rfl, rfl, rfl, rfl, rfl, rfl, rfl, trivial⟩ rfl
          · try simp only [Bool.and_eq_true, Bool.or_eq_true, Bool.not_eq_true', Bool.not_eq_false', Bool.and_eq_false_iff, Bool.or_eq_false_iff, decide_eq_true_eq, decide_eq_false_iff_not, Int.not_lt, Int.not_le, ne_eq, Decidable.not_not] at h8
            refine WC.exit ?_
            refine QX.exit_then ?_
            refine QX.exit_then ?_
            refine QX.exit_hit ?_
            refine QX.then_ ?_
            refine WC.seq ?_
            refine WC.region ?_
            refine SL.pure rfl rfl rfl (PureOp.loads (vs := [.string nm, .int .i64 se, .int .i64 ov, .slice ac cl.length cc]) Try.underlying24 rfl rfl (fun _ => (RowIs.cells 0 0 4 rfl rfl)) sz24) ?_
            refine SL.pure rfl rfl rfl (PureOp.move rfl) ?_
            refine SL.calle rfl rfl rfl rfl rfl rfl callable13 (fun w hw => fits_ok nm se ov cl ac cl.length cc rfl hcb (sellL (se + ov) cl S (nth ql i).1 (nth ql i).2) _ (sellL (se + ov) cl S (nth ql i).1 (nth ql i).2).length _ (by first | rfl | assumption) (by have q1 := sellL_len (se := se) (ov := ov) (cl := cl) (l := S) (r := (nth ql i).1) (x := (nth ql i).2); have q2 := cancL_len (cl := cl) (l := S) (r := (nth ql i).1) (x := -(nth ql i).2); omega) w (SliceIn.rows (hw.mem (i := 2) rfl) encI_len (by first | exact Nat.le_refl _ | omega)) (hc.below hw.below) hR) ?_
            refine SL.pure rfl rfl rfl (PureOp.not rfl) ?_
            refine SL.lit 95 false rfl (by rw [hF]; rfl) ?_
            refine SL.pure rfl rfl rfl (PureOp.move rfl) ?_
            refine SL.ung rfl rfl rfl rfl ?_
            refine SL.pure rfl rfl rfl (PureOp.move rfl) ?_
            refine SL.ung rfl rfl rfl rfl ?_
            refine SL.pure rfl rfl rfl (PureOp.loads (vs := [.string nm, .int .i64 se, .int .i64 ov, .slice ac cl.length cc]) Try.underlying24 rfl rfl (fun _ => (RowIs.cells 0 0 4 rfl rfl)) sz24) ?_
            refine SL.ung rfl rfl rfl rfl ?_
            refine SL.calle rfl rfl rfl rfl rfl rfl callable21 (fun w hw => rauth_ok nm se ov cl ac cl.length cc rfl hcb w hR) ?_
            refine SL.ung rfl rfl rfl rfl ?_
            refine SL.pure rfl rfl rfl (PureOp.gtr rfl rfl) ?_
            refine SL.lit 100 false rfl (by have q := fits_sum hR hF; rw [suf_end (by omega)] at hm; simp; omega) ?_
            refine SL.pure rfl rfl rfl (PureOp.pickF rfl rfl) ?_
            refine SL.nil_then ?_
            refine WC.condF rfl ?_
            refine WC.skip ?_
            refine QX.normal_in ?_
            refine QX.then_ ?_
            refine WC.region ?_
            refine SL.pure rfl rfl rfl (PureOp.move rfl) ?_
            refine SL.pure rfl rfl rfl (PureOp.addN (k := 1) rfl rfl (fun _ => by (first | omega | (have q := suf_bd hFr z (by omega); have q2 := hFr.all z (by omega); have q3 := suf_bd hFr 0 (by omega); rw [suf, List.drop_zero] at q3; omega)))) ?_
            refine SL.pure rfl rfl rfl (PureOp.assign rfl) ?_
            refine SL.nil ?_
            refine QX.heap (fun w h => HeapOk.pick [0, 2] (by decide) h) ?_
            refine QX.round (σ := Nat × Nat × Option Addr × Nat × List Int) (Ef := fun q_ => [(0, 0, .agg #[.string nm, .int .i64 se, .int .i64 ov, .slice ac cl.length cc]), (1, 0, .slice aq nq cq), (2, 0, .pointer (some ⟨b1, 0, none⟩)), (11, 0, .agg #[.string nm, .int .i64 se, .int .i64 ov, .slice ac cl.length cc]), (12, 0, .bool rb), (13, 0, .bool (!rb)), (14, 0, .bool (!rb)), (18, 0, .bool ((!rb) || (decide (40 < ((nq : Nat) : Int))))), (20, 0, .pointer (some ⟨b1, 3, none⟩)), (21, 0, .slice ac cl.length cc), (22, 0, .int .i64 ((cl.length : Nat) : Int)), (23, 0, .slice (some ⟨b2, 0, none⟩) cl.length cl.length), (6, 0, .int .i64 ((q_.1 : Nat) : Int)), (5, 0, .slice q_.2.2.1 q_.2.1 q_.2.2.2.1)]) (Hf := fun q_ => [Item.cells b1 [.string nm, .int .i64 se, .int .i64 ov, .slice ac cl.length cc] 24, Item.own w0.heap.size q_.2.2.1 q_.2.1 q_.2.2.2.1 3 1 (cellsOf encI q_.2.2.2.2)]) (I := fun q_ => q_.1 ≤ nq ∧ fits (se + ov) cl q_.2.2.2.2 = true ∧ q_.2.1 = q_.2.2.2.2.length ∧ q_.2.2.2.2.length ≤ 60) (μ := fun q_ => nq - q_.1) (s := (i, sn, sao, scap, S)) 2 ((i + 1, (sellL (se + ov) cl S (nth ql i).1 (nth ql i).2).length, sa, sc, (sellL (se + ov) cl S (nth ql i).1 (nth ql i).2))) ⟨⟨(by first | omega | (dsimp only; omega)), hF, hln, hl60⟩, by first | omega | (dsimp only; omega)⟩ ⟨rfl, rfl, rfl, rfl, rfl, rfl, rfl, rfl, rfl, rfl, rfl, rfl, rfl, rfl, rfl, rfl, rfl, rfl, rfl, rfl, rfl, rfl, rfl, rfl, rfl, rfl, rfl, rfl, trivial⟩ rfl
        · try simp only [Bool.and_eq_true, Bool.or_eq_true, Bool.not_eq_true', Bool.not_eq_false', Bool.and_eq_false_iff, Bool.or_eq_false_iff, decide_eq_true_eq, decide_eq_false_iff_not, Int.not_lt, Int.not_le, ne_eq, Decidable.not_not] at h7
          refine WC.skip ?_
          refine QX.then_ ?_
          refine WC.seq ?_
          refine WC.region ?_
          refine SL.pure rfl rfl rfl (PureOp.assign rfl) ?_
          refine SL.nil_then ?_
          refine WC.seq ?_
          refine WC.seq ?_
          refine WC.region ?_
          refine SL.pure rfl rfl rfl (PureOp.assign rfl) ?_
          refine SL.nil_then ?_
          refine WC.block ?_
          refine WC.loop (σ := Nat × Int) (fun q_ => [(0, 0, .agg #[.string nm, .int .i64 se, .int .i64 ov, .slice ac cl.length cc]), (1, 0, .slice aq nq cq), (2, 0, .pointer (some ⟨b1, 0, none⟩)), (5, 0, .slice sao sn scap), (6, 0, .int .i64 ((i : Nat) : Int)), (7, 0, .slice sa ((sellL (se + ov) cl S (nth ql i).1 (nth ql i).2).length) sc), (8, 0, .int .i64 (sellE (se + ov) cl S (nth ql i).1 (nth ql i).2)), (11, 0, .agg #[.string nm, .int .i64 se, .int .i64 ov, .slice ac cl.length cc]), (12, 0, .bool rb), (13, 0, .bool (!rb)), (14, 0, .bool (!rb)), (18, 0, .bool ((!rb) || (decide (40 < ((nq : Nat) : Int))))), (20, 0, .pointer (some ⟨b1, 3, none⟩)), (21, 0, .slice ac cl.length cc), (22, 0, .int .i64 ((cl.length : Nat) : Int)), (23, 0, .slice (some ⟨b2, 0, none⟩) cl.length cl.length), (24, 0, .int .i64 ((i : Nat) : Int)), (25, 0, .slice aq nq cq), (26, 0, .int .i64 ((nq : Nat) : Int)), (27, 0, .bool (decide (((i : Nat) : Int) < ((nq : Nat) : Int)))), (30, 0, .tuple #[.slice sa ((sellL (se + ov) cl S (nth ql i).1 (nth ql i).2).length) sc, .int .i64 (sellE (se + ov) cl S (nth ql i).1 (nth ql i).2)]), (31, 0, .agg #[.string nm, .int .i64 se, .int .i64 ov, .slice ac cl.length cc]), (32, 0, .slice sao sn scap), (33, 0, .slice aq nq cq), (34, 0, .int .i64 ((i : Nat) : Int)), (35, 0, .pointer (some ⟨blk aq, off aq + i * 2, none⟩)), (36, 0, .pointer (some ⟨blk aq, off aq + i * 2, none⟩)), (37, 0, .int .i64 ((nth ql i).1)), (38, 0, .slice aq nq cq), (39, 0, .int .i64 ((i : Nat) : Int)), (40, 0, .pointer (some ⟨blk aq, off aq + i * 2, none⟩)), (41, 0, .pointer (some ⟨blk aq, off aq + i * 2 + 1, none⟩)), (42, 0, .int .i64 ((nth ql i).2)), (43, 0, .tuple #[.slice sa ((sellL (se + ov) cl S (nth ql i).1 (nth ql i).2).length) sc, .int .i64 (sellE (se + ov) cl S (nth ql i).1 (nth ql i).2)]), (44, 0, .slice sa ((sellL (se + ov) cl S (nth ql i).1 (nth ql i).2).length) sc), (45, 0, .int .i64 (sellE (se + ov) cl S (nth ql i).1 (nth ql i).2)), (46, 0, .slice aq nq cq), (47, 0, .int .i64 ((i : Nat) : Int)), (48, 0, .pointer (some ⟨blk aq, off aq + i * 2, none⟩)), (49, 0, .pointer (some ⟨blk aq, off aq + i * 2 + 1, none⟩)), (50, 0, .int .i64 ((nth ql i).2)), (51, 0, .bool (decide ((nth ql i).2 < 0))), (52, 0, .bool (decide ((nth ql i).2 < 0))), (59, 0, .bool ((decide ((nth ql i).2 < 0)) && (decide ((-10000) < (nth ql i).2)))), (77, 0, .int .i64 (sellE (se + ov) cl S (nth ql i).1 (nth ql i).2)), (78, 0, .bool (decide (sellE (se + ov) cl S (nth ql i).1 (nth ql i).2 = 0))), (10, 0, .int .i64 ((q_.1 : Nat) : Int)), (9, 0, .int .i64 q_.2)]) (fun q_ => [Item.cells b1 [.string nm, .int .i64 se, .int .i64 ov, .slice ac cl.length cc] 24, Item.own w0.heap.size sao sn scap 3 1 (cellsOf encI S), Item.own w0.heap.size sa ((sellL (se + ov) cl S (nth ql i).1 (nth ql i).2).length) sc 3 1 (cellsOf encI (sellL (se + ov) cl S (nth ql i).1 (nth ql i).2))]) (fun q_ => q_.1 ≤ sn ∧ q_.2 = (S).sum - suf S q_.1 ∧ fits (se + ov) cl S = true ∧ sn = (S).length ∧ (S).length ≤ 60) (fun q_ => sn - q_.1) 3 ((0, 0)) (⟨Nat.zero_le _, by show (0 : Int) = (S).sum - suf S 0; rw [suf, List.drop_zero]; omega, hSf, by first | rfl | assumption, by have q1 := sellL_len (se := se) (ov := ov) (cl := cl) (l := S) (r := (nth ql i).1) (x := (nth ql i).2); have q2 := cancL_len (cl := cl) (l := S) (r := (nth ql i).1) (x := -(nth ql i).2); omega⟩) ⟨rfl, rfl, rfl, rfl, rfl, rfl, rfl, rfl, rfl, rfl, rfl, rfl, rfl, rfl, rfl, rfl, rfl, rfl, rfl, rfl, rfl, rfl, rfl, rfl, rfl, rfl, rfl, rfl, rfl, rfl, rfl, rfl, rfl, rfl, rfl, rfl, rfl, rfl, rfl, rfl, rfl, rfl, rfl, rfl, rfl, rfl, rfl, rfl, rfl, rfl, rfl, rfl, rfl, rfl, rfl, rfl, rfl, rfl, rfl, rfl, rfl, rfl, rfl, rfl, rfl, rfl, rfl, rfl, rfl, rfl, rfl, rfl, rfl, rfl, rfl, rfl, rfl, rfl, rfl, rfl, rfl, rfl, rfl, rfl, rfl, rfl, rfl, rfl, rfl, rfl, rfl, rfl, rfl, rfl, rfl, rfl, trivial⟩ rfl ?_
          rintro ⟨z, m⟩ ⟨hz, hm, hF, hln, hl60⟩
          try dsimp only at *
          have hFr := (fits_iff.1 hF).1
          refine WC.seq ?_
          refine WC.seq ?_
          refine WC.region ?_
          refine SL.pure rfl rfl rfl (PureOp.move rfl) ?_
          refine SL.pure rfl rfl rfl (PureOp.move rfl) ?_
          refine SL.pure rfl rfl rfl (PureOp.len rfl Try.underlying25) ?_
          refine SL.pure rfl rfl rfl (PureOp.lss rfl rfl) ?_
          refine SL.nil_then ?_
          refine WC.cond rfl (fun h9 => ?_) (fun h9 => ?_)
          · try simp only [Bool.and_eq_true, Bool.or_eq_true, Bool.not_eq_true', Bool.not_eq_false', Bool.and_eq_false_iff, Bool.or_eq_false_iff, decide_eq_true_eq, decide_eq_false_iff_not, Int.not_lt, Int.not_le, ne_eq, Decidable.not_not] at h9
            refine WC.skip ?_
            refine QX.then_ ?_
            refine WC.seq ?_
            refine WC.block ?_
            refine WC.region ?_
            refine SL.pure rfl rfl rfl (PureOp.move rfl) ?_
            refine SL.pure rfl rfl rfl (PureOp.move rfl) ?_
            refine SL.pure rfl rfl rfl (PureOp.move rfl) ?_
            refine SL.pure rfl rfl rfl (PureOp.indexAddrN Try.underlying25 sz3 rfl rfl (AoOk.own 1 rfl) (fun _ => by (first | omega | (have q := suf_bd hFr z (by omega); have q2 := hFr.all z (by omega); have q3 := suf_bd hFr 0 (by omega); rw [suf, List.drop_zero] at q3; omega)))) ?_
            refine SL.pure rfl rfl rfl (PureOp.load Try.underlying3 rfl rfl (fun _ => (CellIs.ownc 1 rfl z 0 (by exact encI_get (by omega))))) ?_
            refine SL.pure rfl rfl rfl (PureOp.add rfl rfl (fun _ => by (first | omega | (have q := suf_bd hFr z (by omega); have q2 := hFr.all z (by omega); have q3 := suf_bd hFr 0 (by omega); rw [suf, List.drop_zero] at q3; omega)))) ?_
            refine SL.pure rfl rfl rfl (PureOp.assign rfl) ?_
            refine SL.nil ?_
            refine QX.normal_in ?_
            refine QX.then_ ?_
            refine WC.region ?_
            refine SL.pure rfl rfl rfl (PureOp.move rfl) ?_
            refine SL.pure rfl rfl rfl (PureOp.addN (k := 1) rfl rfl (fun _ => by (first | omega | (have q := suf_bd hFr z (by omega); have q2 := hFr.all z (by omega); have q3 := suf_bd hFr 0 (by omega); rw [suf, List.drop_zero] at q3; omega)))) ?_
            refine SL.pure rfl rfl rfl (PureOp.assign rfl) ?_
            refine SL.nil ?_
            refine QX.round (σ := Nat × Int) (Ef := fun q_ => [(0, 0, .agg #[.string nm, .int .i64 se, .int .i64 ov, .slice ac cl.length cc]), (1, 0, .slice aq nq cq), (2, 0, .pointer (some ⟨b1, 0, none⟩)), (5, 0, .slice sao sn scap), (6, 0, .int .i64 ((i : Nat) : Int)), (7, 0, .slice sa ((sellL (se + ov) cl S (nth ql i).1 (nth ql i).2).length) sc), (8, 0, .int .i64 (sellE (se + ov) cl S (nth ql i).1 (nth ql i).2)), (11, 0, .agg #[.string nm, .int .i64 se, .int .i64 ov, .slice ac cl.length cc]), (12, 0, .bool rb), (13, 0, .bool (!rb)), (14, 0, .bool (!rb)), (18, 0, .bool ((!rb) || (decide (40 < ((nq : Nat) : Int))))), (20, 0, .pointer (some ⟨b1, 3, none⟩)), (21, 0, .slice ac cl.length cc), (22, 0, .int .i64 ((cl.length : Nat) : Int)), (23, 0, .slice (some ⟨b2, 0, none⟩) cl.length cl.length), (24, 0, .int .i64 ((i : Nat) : Int)), (25, 0, .slice aq nq cq), (26, 0, .int .i64 ((nq : Nat) : Int)), (27, 0, .bool (decide (((i : Nat) : Int) < ((nq : Nat) : Int)))), (30, 0, .tuple #[.slice sa ((sellL (se + ov) cl S (nth ql i).1 (nth ql i).2).length) sc, .int .i64 (sellE (se + ov) cl S (nth ql i).1 (nth ql i).2)]), (31, 0, .agg #[.string nm, .int .i64 se, .int .i64 ov, .slice ac cl.length cc]), (32, 0, .slice sao sn scap), (33, 0, .slice aq nq cq), (34, 0, .int .i64 ((i : Nat) : Int)), (35, 0, .pointer (some ⟨blk aq, off aq + i * 2, none⟩)), (36, 0, .pointer (some ⟨blk aq, off aq + i * 2, none⟩)), (37, 0, .int .i64 ((nth ql i).1)), (38, 0, .slice aq nq cq), (39, 0, .int .i64 ((i : Nat) : Int)), (40, 0, .pointer (some ⟨blk aq, off aq + i * 2, none⟩)), (41, 0, .pointer (some ⟨blk aq, off aq + i * 2 + 1, none⟩)), (42, 0, .int .i64 ((nth ql i).2)), (43, 0, .tuple #[.slice sa ((sellL (se + ov) cl S (nth ql i).1 (nth ql i).2).length) sc, .int .i64 (sellE (se + ov) cl S (nth ql i).1 (nth ql i).2)]), (44, 0, .slice sa ((sellL (se + ov) cl S (nth ql i).1 (nth ql i).2).length) sc), (45, 0, .int .i64 (sellE (se + ov) cl S (nth ql i).1 (nth ql i).2)), (46, 0, .slice aq nq cq), (47, 0, .int .i64 ((i : Nat) : Int)), (48, 0, .pointer (some ⟨blk aq, off aq + i * 2, none⟩)), (49, 0, .pointer (some ⟨blk aq, off aq + i * 2 + 1, none⟩)), (50, 0, .int .i64 ((nth ql i).2)), (51, 0, .bool (decide ((nth ql i).2 < 0))), (52, 0, .bool (decide ((nth ql i).2 < 0))), (59, 0, .bool ((decide ((nth ql i).2 < 0)) && (decide ((-10000) < (nth ql i).2)))), (77, 0, .int .i64 (sellE (se + ov) cl S (nth ql i).1 (nth ql i).2)), (78, 0, .bool (decide (sellE (se + ov) cl S (nth ql i).1 (nth ql i).2 = 0))), (10, 0, .int .i64 ((q_.1 : Nat) : Int)), (9, 0, .int .i64 q_.2)]) (Hf := fun q_ => [Item.cells b1 [.string nm, .int .i64 se, .int .i64 ov, .slice ac cl.length cc] 24, Item.own w0.heap.size sao sn scap 3 1 (cellsOf encI S), Item.own w0.heap.size sa ((sellL (se + ov) cl S (nth ql i).1 (nth ql i).2).length) sc 3 1 (cellsOf encI (sellL (se + ov) cl S (nth ql i).1 (nth ql i).2))]) (I := fun q_ => q_.1 ≤ sn ∧ q_.2 = (S).sum - suf S q_.1 ∧ fits (se + ov) cl S = true ∧ sn = (S).length ∧ (S).length ≤ 60) (μ := fun q_ => sn - q_.1) (s := (z, m)) 3 ((z + 1, m + nth S z)) ⟨⟨(by first | omega | (dsimp only; omega)), by show m + nth S z = _ - suf S (z + 1); have e := suf_succ (l := S) (i := z) (by omega); omega, hF, hln, hl60⟩, by first | omega | (dsimp only; omega)⟩ ⟨rfl, rfl, rfl, rfl, rfl, rfl, rfl, rfl, rfl, rfl, rfl, rfl, rfl, rfl, rfl, rfl, rfl, rfl, rfl, rfl, rfl, rfl, rfl, rfl, rfl, rfl, rfl, rfl, rfl, rfl, rfl, rfl, rfl, rfl, rfl, rfl, rfl, rfl, rfl, rfl, rfl, rfl, rfl, rfl, rfl, rfl, rfl, rfl, rfl, rfl, rfl, rfl, rfl, rfl, rfl, rfl, rfl, rfl, rfl, rfl, rfl, rfl, rfl, rfl, rfl, rfl, rfl, rfl, rfl, rfl, rfl, rfl, rfl, rfl, rfl, rfl, rfl, rfl, rfl, rfl, rfl, rfl, rfl, rfl, rfl, rfl, rfl, rfl, rfl, rfl, rfl, rfl, rfl, rfl, rfl, rfl, trivial⟩ rfl
          · try simp only [Bool.and_eq_true, Bool.or_eq_true, Bool.not_eq_true', Bool.not_eq_false', Bool.and_eq_false_iff, Bool.or_eq_false_iff, decide_eq_true_eq, decide_eq_false_iff_not, Int.not_lt, Int.not_le, ne_eq, Decidable.not_not] at h9
            refine WC.exit ?_
            refine QX.exit_then ?_
            refine QX.exit_then ?_
            refine QX.exit_hit ?_
            refine QX.then_ ?_
            refine WC.seq ?_
            refine WC.region ?_
            refine SL.pure rfl rfl rfl (PureOp.loads (vs := [.string nm, .int .i64 se, .int .i64 ov, .slice ac cl.length cc]) Try.underlying24 rfl rfl (fun _ => (RowIs.cells 0 0 4 rfl rfl)) sz24) ?_
            refine SL.pure rfl rfl rfl (PureOp.move rfl) ?_
            refine SL.calle rfl rfl rfl rfl rfl rfl callable13 (fun w hw => fits_ok nm se ov cl ac cl.length cc rfl hcb S _ sn _ (by first | rfl | assumption) (by have q1 := sellL_len (se := se) (ov := ov) (cl := cl) (l := S) (r := (nth ql i).1) (x := (nth ql i).2); have q2 := cancL_len (cl := cl) (l := S) (r := (nth ql i).1) (x := -(nth ql i).2); omega) w (SliceIn.rows (hw.mem (i := 1) rfl) encI_len (by first | exact Nat.le_refl _ | omega)) (hc.below hw.below) hR) ?_
            refine SL.pure rfl rfl rfl (PureOp.not rfl) ?_
            refine SL.lit 95 false rfl (by rw [hF]; rfl) ?_
            refine SL.pure rfl rfl rfl (PureOp.move rfl) ?_
            refine SL.ung rfl rfl rfl rfl ?_
            refine SL.pure rfl rfl rfl (PureOp.move rfl) ?_
            refine SL.ung rfl rfl rfl rfl ?_
            refine SL.pure rfl rfl rfl (PureOp.loads (vs := [.string nm, .int .i64 se, .int .i64 ov, .slice ac cl.length cc]) Try.underlying24 rfl rfl (fun _ => (RowIs.cells 0 0 4 rfl rfl)) sz24) ?_
            refine SL.ung rfl rfl rfl rfl ?_
            refine SL.calle rfl rfl rfl rfl rfl rfl callable21 (fun w hw => rauth_ok nm se ov cl ac cl.length cc rfl hcb w hR) ?_
            refine SL.ung rfl rfl rfl rfl ?_
            refine SL.pure rfl rfl rfl (PureOp.gtr rfl rfl) ?_
            refine SL.lit 100 false rfl (by have q := fits_sum hR hF; rw [suf_end (by omega)] at hm; simp; omega) ?_
            refine SL.pure rfl rfl rfl (PureOp.pickF rfl rfl) ?_
            refine SL.nil_then ?_
            refine WC.condF rfl ?_
            refine WC.skip ?_
            refine QX.normal_in ?_
            refine QX.then_ ?_
            refine WC.region ?_
            refine SL.pure rfl rfl rfl (PureOp.move rfl) ?_
            refine SL.pure rfl rfl rfl (PureOp.addN (k := 1) rfl rfl (fun _ => by (first | omega | (have q := suf_bd hFr z (by omega); have q2 := hFr.all z (by omega); have q3 := suf_bd hFr 0 (by omega); rw [suf, List.drop_zero] at q3; omega)))) ?_
            refine SL.pure rfl rfl rfl (PureOp.assign rfl) ?_
            refine SL.nil ?_
            refine QX.round (σ := Nat × Nat × Option Addr × Nat × List Int) (Ef := fun q_ => [(0, 0, .agg #[.string nm, .int .i64 se, .int .i64 ov, .slice ac cl.length cc]), (1, 0, .slice aq nq cq), (2, 0, .pointer (some ⟨b1, 0, none⟩)), (11, 0, .agg #[.string nm, .int .i64 se, .int .i64 ov, .slice ac cl.length cc]), (12, 0, .bool rb), (13, 0, .bool (!rb)), (14, 0, .bool (!rb)), (18, 0, .bool ((!rb) || (decide (40 < ((nq : Nat) : Int))))), (20, 0, .pointer (some ⟨b1, 3, none⟩)), (21, 0, .slice ac cl.length cc), (22, 0, .int .i64 ((cl.length : Nat) : Int)), (23, 0, .slice (some ⟨b2, 0, none⟩) cl.length cl.length), (6, 0, .int .i64 ((q_.1 : Nat) : Int)), (5, 0, .slice q_.2.2.1 q_.2.1 q_.2.2.2.1)]) (Hf := fun q_ => [Item.cells b1 [.string nm, .int .i64 se, .int .i64 ov, .slice ac cl.length cc] 24, Item.own w0.heap.size q_.2.2.1 q_.2.1 q_.2.2.2.1 3 1 (cellsOf encI q_.2.2.2.2)]) (I := fun q_ => q_.1 ≤ nq ∧ fits (se + ov) cl q_.2.2.2.2 = true ∧ q_.2.1 = q_.2.2.2.2.length ∧ q_.2.2.2.2.length ≤ 60) (μ := fun q_ => nq - q_.1) (s := (i, sn, sao, scap, S)) 2 ((i + 1, sn, sao, scap, S)) ⟨⟨(by first | omega | (dsimp only; omega)), hF, hln, hl60⟩, by first | omega | (dsimp only; omega)⟩ ⟨rfl, rfl, rfl, rfl, rfl, rfl, rfl, rfl, rfl, rfl, rfl, rfl, rfl, rfl, rfl, rfl, rfl, rfl, rfl, rfl, rfl, rfl, rfl, rfl, rfl, rfl, rfl, rfl, trivial⟩ rfl
    · try simp only [Bool.and_eq_true, Bool.or_eq_true, Bool.not_eq_true', Bool.not_eq_false', Bool.and_eq_false_iff, Bool.or_eq_false_iff, decide_eq_true_eq, decide_eq_false_iff_not, Int.not_lt, Int.not_le, ne_eq, Decidable.not_not] at h2
      refine WC.exit ?_
      refine QX.exit_then ?_
      refine QX.exit_then ?_
      refine QX.exit_hit ?_
      refine QX.then_ ?_
      refine WC.seq ?_
      refine WC.region ?_
      refine SL.calle rfl rfl rfl rfl rfl rfl callable9 (fun w hw => awake_ok w) ?_
      refine SL.pure rfl rfl rfl (PureOp.assign rfl) ?_
      refine SL.nil_then ?_
      refine WC.ret ?_
      refine QX.ret1 rfl rfl ?_
      intro w hw
      rfl

end Go.Proofs.Ytblgllngkbjfgaa
