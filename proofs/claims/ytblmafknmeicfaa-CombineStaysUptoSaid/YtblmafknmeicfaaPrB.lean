import Derived.Test.YtblmafknmeicfaaPrA
namespace Go.Proofs.Ytblmafknmeicfaa
open Go Go.RowKit Eng
set_option linter.unusedVariables false
set_option linter.unusedSimpArgs false

theorem okK_no {rd : Nat → Bool} {mt : Nat → Nat → Bool} {pd : List Bool} {i k : Nat} (h : nth pd k = true ∨ (rd k && mt i k) = false) : okK rd mt pd i k = false := by
  rw [okK]; rcases h with h | h <;> rw [h] <;> simp
theorem okK_yes {rd : Nat → Bool} {mt : Nat → Nat → Bool} {pd : List Bool} {i k : Nat} (h : nth pd k = false) (h2 : (rd k && mt i k) = true) : okK rd mt pd i k = true := by rw [okK, h, h2]; rfl
theorem okB_no {fl : List Fa} {pl : List Pt} {i k : Nat} (h : (fareX fl pl k).2.2.2.2.2.1 = false ∨ backB (fareX fl pl i) (fareX fl pl k) = false) : (rdF fl pl k && mtF fl pl i k) = false := by
  rw [rdF, mtF]; rcases h with h | h <;> rw [h] <;> simp
theorem okB_yes {fl : List Fa} {pl : List Pt} {i k : Nat} (h : (fareX fl pl k).2.2.2.2.2.1 = true ∧ backB (fareX fl pl i) (fareX fl pl k) = true) : (rdF fl pl k && mtF fl pl i k) = true := by
  rw [rdF, mtF, h.1, h.2]; rfl
theorem okK_next {rd : Nat → Bool} {mt : Nat → Nat → Bool} {pd : List Bool} {i k : Nat} (h : ∀ j, i + 1 ≤ j → j < k → okK rd mt pd i j = false) (hk : okK rd mt pd i k = false) : ∀ j, i + 1 ≤ j → j < k + 1 → okK rd mt pd i j = false := fun j q1 q2 => by
  by_cases e : j = k
  · rw [e]; exact hk
  · exact h j q1 (by omega)
set_option maxHeartbeats 4000000 in
set_option maxRecDepth 100000 in
theorem pairs_ok (u1 u2 : SliceV Unit) (fl : List Fa) (rao : Option Addr) (rn rcap : Nat) (fao : Option Addr) (fn fcap : Nat) (hfn : fn = fl.length) (w0 : World) (hf : SliceIn w0 9 fao fn fcap (rowsF enc52 fl)) (hfb : fn ≤ 1000) (pl : List Pt) (pao : Option Addr) (pn pcap : Nat) (hpn : pn = pl.length) (hp : SliceIn w0 4 pao pn pcap (rowsF enc42 pl)) (hpb : pn ≤ 1000) : FnC Try.prog 8 [.agg #[.slice fao fn fcap, .slice rao rn rcap, .slice u1.ao u1.l.length u1.cap, .slice u2.ao u2.l.length u2.cap], .slice pao pn pcap] w0 fun v w' => ∃ a cap, v = .tuple #[.slice a (resP (allK (prF fn pl) pl.length) 19 23 pn (rdF fl pl) (mtF fl pl)).2.length cap, .int .i64 (resP (allK (prF fn pl) pl.length) 19 23 pn (rdF fl pl) (mtF fl pl)).1] ∧ w'.ownsRow w0.heap.size 50 2 (.slice a (resP (allK (prF fn pl) pl.length) 19 23 pn (rdF fl pl) (mtF fl pl)).2.length cap) (resP (allK (prF fn pl) pl.length) 19 23 pn (rdF fl pl) (mtF fl pl)).2.length (cellsOf encNN (resP (allK (prF fn pl) pl.length) 19 23 pn (rdF fl pl) (mtF fl pl)).2) := by
  refine fnc (N := 84) Try.func8 rfl rfl rfl ?_
  refine WC.seq ?_
  refine WC.region ?_
  refine SL.box rfl rfl rfl (fun b1 hb1 => ?_)
  refine SL.norm [_] rfl ?_
  refine SL.pure rfl rfl rfl (PureOp.assign rfl) ?_
  refine SL.pure rfl rfl rfl (PureOp.assign rfl) ?_
  refine SL.nil_then ?_
  refine WC.seq ?_
  refine WC.seq ?_
  refine WC.region ?_
  refine SL.pure rfl rfl rfl (PureOp.loads (vs := [.slice fao fn fcap, .slice rao rn rcap, .slice u1.ao u1.l.length u1.cap, .slice u2.ao u2.l.length u2.cap]) Try.underlying27 rfl rfl (fun _ => (RowIs.cells 0 0 4 rfl rfl)) sz27) ?_
  refine SL.pure rfl rfl rfl (PureOp.move rfl) ?_
  refine SL.calle rfl rfl rfl rfl rfl rfl callable19 (fun w hw => priced_ok u1 u2 fl rao rn rcap fao fn fcap hfn w (hf.below hw.below) hfb pl pao pn pcap hpn (hp.below hw.below) hpb) ?_
  refine SL.norm [_] rfl ?_
  refine SL.pure rfl rfl rfl (PureOp.not rfl) ?_
  refine SL.nil_then ?_
  refine WC.cond rfl (fun h1 => ?_) (fun h1 => ?_)
  · try simp only [Bool.and_eq_true, Bool.or_eq_true, Bool.not_eq_true', Bool.not_eq_false', Bool.and_eq_false_iff, Bool.or_eq_false_iff, decide_eq_true_eq, decide_eq_false_iff_not, Int.not_lt, Int.not_le, ne_eq, Decidable.not_not] at h1
    refine WC.seq ?_
    refine WC.region ?_
    refine SL.pure rfl rfl rfl (PureOp.assign rfl) ?_
    refine SL.pure rfl rfl rfl (PureOp.assign rfl) ?_
    refine SL.nil_then ?_
    refine WC.ret ?_
    refine QX.ret_then ?_
    refine QX.ret2 rfl rfl rfl ?_
    intro w hw
    rw [resP_no (by simpa using h1)]
    exact ⟨none, 0, rfl, ownsRow_nil⟩
  · try simp only [Bool.and_eq_true, Bool.or_eq_true, Bool.not_eq_true', Bool.not_eq_false', Bool.and_eq_false_iff, Bool.or_eq_false_iff, decide_eq_true_eq, decide_eq_false_iff_not, Int.not_lt, Int.not_le, ne_eq, Decidable.not_not] at h1
    have hfa : ∀ j, j < pn → 0 ≤ (nth pl j).2.2.1 ∧ (nth pl j).2.2.1 < fn := fun j hj => priced_at (by simpa using h1) (by omega)
    refine WC.skip ?_
    refine QX.then_ ?_
    refine WC.seq ?_
    refine WC.region ?_
    refine SL.addnil 50 2 ?_
    refine SL.pure rfl rfl rfl (PureOp.assign rfl) ?_
    refine SL.nil_then ?_
    refine WC.seq ?_
    refine WC.region ?_
    refine SL.pure rfl rfl rfl (PureOp.move rfl) ?_
    refine SL.pure rfl rfl rfl (PureOp.len rfl Try.underlying28) ?_
    refine SL.make rfl rfl Try.underlying55 elem4 rfl rfl (by first | omega | (have q := hfa k (by omega); omega)) (by first | omega | (have q := hfa k (by omega); omega)) (fun b2 hb2 => ?_)
    refine SL.itemxs 2 rfl (show _ = cellsOf encBo (List.replicate pn false) from by rw [rep_bo]) ?_
    refine SL.norm [_, _, _] rfl ?_
    refine SL.pure rfl rfl rfl (PureOp.assign rfl) ?_
    refine SL.nil_then ?_
    refine WC.seq ?_
    refine WC.seq ?_
    refine WC.region ?_
    refine SL.pure rfl rfl rfl (PureOp.move rfl) ?_
    refine SL.pure rfl rfl rfl (PureOp.len rfl Try.underlying28) ?_
    refine SL.pure rfl rfl rfl (PureOp.move rfl) ?_
    refine SL.nil_then ?_
    refine WC.block ?_
    refine WC.loop (σ := Nat × List Bool × List (Nat × Nat) × Option Addr × Nat × Nat) (fun q_ => [(0, 0, .agg #[.slice fao fn fcap, .slice rao rn rcap, .slice u1.ao u1.l.length u1.cap, .slice u2.ao u2.l.length u2.cap]), (1, 0, .slice pao pn pcap), (2, 0, .pointer (some ⟨b1, 0, none⟩)), (7, 0, .slice (some ⟨b2, 0, none⟩) pn pn), (12, 0, .agg #[.slice fao fn fcap, .slice rao rn rcap, .slice u1.ao u1.l.length u1.cap, .slice u2.ao u2.l.length u2.cap]), (13, 0, .slice pao pn pcap), (14, 0, .bool (allK (prF fn pl) pl.length)), (15, 0, .bool (!(allK (prF fn pl) pl.length))), (16, 0, .slice pao pn pcap), (17, 0, .int .i64 ((pn : Nat) : Int)), (18, 0, .slice (some ⟨b2, 0, none⟩) pn pn), (19, 0, .slice pao pn pcap), (20, 0, .int .i64 ((pn : Nat) : Int)), (21, 0, .int .i64 ((q_.1 : Nat) : Int)), (6, 0, .slice q_.2.2.2.1 q_.2.2.2.2.2 q_.2.2.2.2.1)]) (fun q_ => [Item.cells b1 [.slice fao fn fcap, .slice rao rn rcap, .slice u1.ao u1.l.length u1.cap, .slice u2.ao u2.l.length u2.cap] 27, Item.own w0.heap.size q_.2.2.2.1 q_.2.2.2.2.2 q_.2.2.2.2.1 50 2 (cellsOf encNN (q_.2.2.1)), Item.own w0.heap.size (some ⟨b2, 0, none⟩) pn pn 4 1 (cellsOf encBo (q_.2.1))]) (fun q_ => q_.1 ≤ pn ∧ runP pn (rdF fl pl) (mtF fl pl) q_.1 = some (q_.2.1, q_.2.2.1) ∧ q_.2.2.2.2.2 = (q_.2.2.1).length) (fun q_ => pn - q_.1) 3 ((0, List.replicate pn false, [], none, 0, 0)) (⟨Nat.zero_le _, rfl, rfl⟩) ⟨rfl, rfl, rfl, rfl, rfl, rfl, rfl, rfl, rfl, rfl, rfl, rfl, rfl, rfl, rfl, rfl, rfl, rfl, rfl, rfl, rfl, rfl, rfl, rfl, rfl, rfl, rfl, rfl, rfl, rfl, trivial⟩ rfl ?_
    rintro ⟨i, pd, out, oa, oc, on⟩ ⟨hi, hr, hon⟩
    try dsimp only at *
    refine WC.seq ?_
    refine WC.region ?_
    refine SL.pure rfl rfl rfl (PureOp.lss rfl rfl) ?_
    refine SL.nil_then ?_
    refine WC.seq ?_
    refine WC.cond rfl (fun h2 => ?_) (fun h2 => ?_)
    · try simp only [Bool.and_eq_true, Bool.or_eq_true, Bool.not_eq_true', Bool.not_eq_false', Bool.and_eq_false_iff, Bool.or_eq_false_iff, decide_eq_true_eq, decide_eq_false_iff_not, Int.not_lt, Int.not_le, ne_eq, Decidable.not_not] at h2
      have R := run_is (n := pn) i (by omega) pd out hr
      have hpl := R.len
      have hol := R.num
      have hfi := hfa i (by omega)
      refine WC.skip ?_
      refine QX.then_ ?_
      refine WC.seq ?_
      refine WC.block ?_
      refine WC.seq ?_
      refine WC.region ?_
      refine SL.pure rfl rfl rfl (PureOp.move rfl) ?_
      refine SL.pure rfl rfl rfl (PureOp.indexAddrN Try.underlying28 sz42 rfl rfl (AoOk.in_ hp) (fun _ => by first | omega | (have q := hfa k (by omega); omega))) ?_
      refine SL.pure rfl rfl rfl (PureOp.loads (vs := [.int .i64 ((nth pl i).1), .int .i64 ((nth pl i).2.1), .int .i64 ((nth pl i).2.2.1), .int .i64 ((nth pl i).2.2.2)]) Try.underlying42 rfl rfl (fun _ => (RowIs.in_ hp i 0 4 (by first | omega | (have q := hfa k (by omega); omega)) (by omega))) sz42) ?_
      refine SL.alloc rfl rfl zero42 (fun b3 hb3 => ?_)
      refine SL.norm [_, _, _, _] rfl ?_
      refine SL.pure rfl rfl rfl (PureOp.assign rfl) ?_
      refine SL.store 3 rfl rfl rfl rfl sz42 rfl rfl ?_
      refine SL.norm [_, _, _, _] rfl ?_
      refine SL.nil_then ?_
      refine WC.seq ?_
      refine WC.region ?_
      refine SL.pure rfl rfl rfl (PureOp.fieldAddrT 0 Try.underlying27 rfl sz22 rfl rfl) ?_
      refine SL.pure rfl rfl rfl (PureOp.load (v := .slice fao fn fcap) Try.underlying22 rfl rfl (fun _ => (CellIs.cells 0 rfl rfl))) ?_
      refine SL.pure rfl rfl rfl (PureOp.fieldAddrT 2 Try.underlying42 rfl sz3 rfl rfl) ?_
      refine SL.pure rfl rfl rfl (PureOp.load (v := .int .i64 ((nth pl i).2.2.1)) Try.underlying3 rfl rfl (fun _ => (CellIs.cells 3 rfl rfl))) ?_
      refine SL.pure rfl rfl rfl (PureOp.indexAddr Try.underlying22 sz52 rfl rfl (AoOk.in_ hf) (fun _ => by first | omega | (have q := hfa k (by omega); omega))) ?_
      refine SL.pure rfl rfl rfl (PureOp.loads (vs := [.string ((nth fl (((nth pl i).2.2.1).toNat)).1), .string ((nth fl (((nth pl i).2.2.1).toNat)).2.1), .string ((nth fl (((nth pl i).2.2.1).toNat)).2.2.1), .string ((nth fl (((nth pl i).2.2.1).toNat)).2.2.2.1), .string ((nth fl (((nth pl i).2.2.1).toNat)).2.2.2.2.1), .bool ((nth fl (((nth pl i).2.2.1).toNat)).2.2.2.2.2.1), .int .i64 ((nth fl (((nth pl i).2.2.1).toNat)).2.2.2.2.2.2.1), .int .i64 ((nth fl (((nth pl i).2.2.1).toNat)).2.2.2.2.2.2.2.1), .int .i64 ((nth fl (((nth pl i).2.2.1).toNat)).2.2.2.2.2.2.2.2)]) Try.underlying52 rfl rfl (fun _ => (RowIs.in_ hf (((nth pl i).2.2.1).toNat) 0 9 (by first | omega | (have q := hfa k (by omega); omega)) (by omega))) sz52) ?_
      refine SL.alloc rfl rfl zero52 (fun b4 hb4 => ?_)
      refine SL.norm [_, _, _, _, _] rfl ?_
      refine SL.store 4 rfl rfl rfl rfl sz52 rfl rfl ?_
      refine SL.norm [_, _, _, _, _] rfl ?_
      refine SL.nil_then ?_
      refine WC.seq ?_
      refine WC.seq ?_
      refine WC.region ?_
      refine SL.pure rfl rfl rfl (PureOp.fieldAddrT 5 Try.underlying52 rfl sz4 rfl rfl) ?_
      refine SL.pure rfl rfl rfl (PureOp.load (v := .bool ((nth fl (((nth pl i).2.2.1).toNat)).2.2.2.2.2.1)) Try.underlying4 rfl rfl (fun _ => (CellIs.cells 4 rfl rfl))) ?_
      refine SL.pure rfl rfl rfl (PureOp.not rfl) ?_
      refine SL.pure rfl rfl rfl (PureOp.move rfl) ?_
      refine SL.newg 35 false rfl ?_
      refine SL.gpure (c := 1) rfl rfl rfl rfl rfl rfl rfl (PureOp.move rfl) ?_
      refine SL.gpure (c := 1) rfl rfl rfl rfl rfl rfl rfl (PureOp.move rfl) ?_
      refine SL.gpure (c := 1) rfl rfl rfl rfl rfl rfl rfl (PureOp.indexAddrN Try.underlying55 sz4 rfl rfl AoOk.lit (by intro hg; simp [gval] at hg; first | omega | (have q := hfa k (by omega); omega))) ?_
      refine SL.gpure (c := 1) rfl rfl rfl rfl rfl rfl rfl (PureOp.load (v := .bool (nth pd i)) Try.underlying4 rfl rfl (by intro hg; simp [gval] at hg; exact (CellIs.ownc 2 rfl i 0 (by exact encBo_get (by omega))))) ?_
      refine SL.pure rfl rfl rfl (PureOp.or_ rfl rfl rfl rfl) ?_
      refine SL.nil_then ?_
      refine WC.cond rfl (fun h3 => ?_) (fun h3 => ?_)
      · try simp only [Bool.and_eq_true, Bool.or_eq_true, Bool.not_eq_true', Bool.not_eq_false', Bool.and_eq_false_iff, Bool.or_eq_false_iff, decide_eq_true_eq, decide_eq_false_iff_not, Int.not_lt, Int.not_le, ne_eq, Decidable.not_not] at h3
        refine WC.exit ?_
        refine QX.exit_then ?_
        refine QX.exit_hit ?_
        refine QX.then_ ?_
        refine WC.region ?_
        refine SL.pure rfl rfl rfl (PureOp.addN (k := 1) rfl rfl (fun _ => by first | omega | (have q := hfa k (by omega); omega))) ?_
        refine SL.pure rfl rfl rfl (PureOp.move rfl) ?_
        refine SL.nil ?_
        refine QX.round (σ := Nat × List Bool × List (Nat × Nat) × Option Addr × Nat × Nat) (Ef := fun q_ => [(0, 0, .agg #[.slice fao fn fcap, .slice rao rn rcap, .slice u1.ao u1.l.length u1.cap, .slice u2.ao u2.l.length u2.cap]), (1, 0, .slice pao pn pcap), (2, 0, .pointer (some ⟨b1, 0, none⟩)), (7, 0, .slice (some ⟨b2, 0, none⟩) pn pn), (12, 0, .agg #[.slice fao fn fcap, .slice rao rn rcap, .slice u1.ao u1.l.length u1.cap, .slice u2.ao u2.l.length u2.cap]), (13, 0, .slice pao pn pcap), (14, 0, .bool (allK (prF fn pl) pl.length)), (15, 0, .bool (!(allK (prF fn pl) pl.length))), (16, 0, .slice pao pn pcap), (17, 0, .int .i64 ((pn : Nat) : Int)), (18, 0, .slice (some ⟨b2, 0, none⟩) pn pn), (19, 0, .slice pao pn pcap), (20, 0, .int .i64 ((pn : Nat) : Int)), (21, 0, .int .i64 ((q_.1 : Nat) : Int)), (6, 0, .slice q_.2.2.2.1 q_.2.2.2.2.2 q_.2.2.2.2.1)]) (Hf := fun q_ => [Item.cells b1 [.slice fao fn fcap, .slice rao rn rcap, .slice u1.ao u1.l.length u1.cap, .slice u2.ao u2.l.length u2.cap] 27, Item.own w0.heap.size q_.2.2.2.1 q_.2.2.2.2.2 q_.2.2.2.2.1 50 2 (cellsOf encNN (q_.2.2.1)), Item.own w0.heap.size (some ⟨b2, 0, none⟩) pn pn 4 1 (cellsOf encBo (q_.2.1))]) (I := fun q_ => q_.1 ≤ pn ∧ runP pn (rdF fl pl) (mtF fl pl) q_.1 = some (q_.2.1, q_.2.2.1) ∧ q_.2.2.2.2.2 = (q_.2.2.1).length) (μ := fun q_ => pn - q_.1) (s := (i, pd, out, oa, oc, on)) 3 ((i + 1, pd, out, oa, oc, on)) ⟨⟨(by first | omega | (dsimp only; omega)), runP_skip hr h3, hon⟩, by first | omega | (dsimp only; omega)⟩ ⟨rfl, rfl, rfl, rfl, rfl, rfl, rfl, rfl, rfl, rfl, rfl, rfl, rfl, rfl, rfl, rfl, rfl, rfl, rfl, rfl, rfl, rfl, rfl, rfl, rfl, rfl, rfl, rfl, rfl, rfl, trivial⟩ rfl
      · try simp only [Bool.and_eq_true, Bool.or_eq_true, Bool.not_eq_true', Bool.not_eq_false', Bool.and_eq_false_iff, Bool.or_eq_false_iff, decide_eq_true_eq, decide_eq_false_iff_not, Int.not_lt, Int.not_le, ne_eq, Decidable.not_not] at h3
        refine WC.skip ?_
        refine QX.then_ ?_
        refine WC.seq ?_
        refine WC.region ?_
        refine SL.pure rfl rfl rfl (PureOp.move rfl) ?_
        refine SL.pure rfl rfl rfl (PureOp.addN (k := 1) rfl rfl (fun _ => by first | omega | (have q := hfa k (by omega); omega))) ?_
        refine SL.pure rfl rfl rfl (PureOp.assign rfl) ?_
        refine SL.nil_then ?_
        refine WC.seq ?_
        refine WC.block ?_
        refine WC.loop (σ := Nat) (fun q_ => [(0, 0, .agg #[.slice fao fn fcap, .slice rao rn rcap, .slice u1.ao u1.l.length u1.cap, .slice u2.ao u2.l.length u2.cap]), (1, 0, .slice pao pn pcap), (2, 0, .pointer (some ⟨b1, 0, none⟩)), (6, 0, .slice oa on oc), (7, 0, .slice (some ⟨b2, 0, none⟩) pn pn), (8, 0, .int .i64 ((i : Nat) : Int)), (9, 0, .pointer (some ⟨b3, 0, none⟩)), (10, 0, .pointer (some ⟨b4, 0, none⟩)), (12, 0, .agg #[.slice fao fn fcap, .slice rao rn rcap, .slice u1.ao u1.l.length u1.cap, .slice u2.ao u2.l.length u2.cap]), (13, 0, .slice pao pn pcap), (14, 0, .bool (allK (prF fn pl) pl.length)), (15, 0, .bool (!(allK (prF fn pl) pl.length))), (16, 0, .slice pao pn pcap), (17, 0, .int .i64 ((pn : Nat) : Int)), (18, 0, .slice (some ⟨b2, 0, none⟩) pn pn), (19, 0, .slice pao pn pcap), (20, 0, .int .i64 ((pn : Nat) : Int)), (21, 0, .int .i64 ((i : Nat) : Int)), (22, 0, .bool (decide (((i : Nat) : Int) < ((pn : Nat) : Int)))), (23, 0, .int .i64 ((i : Nat) : Int)), (24, 0, .pointer (some ⟨blk pao, off pao + i * 4, none⟩)), (25, 0, .agg #[.int .i64 ((nth pl i).1), .int .i64 ((nth pl i).2.1), .int .i64 ((nth pl i).2.2.1), .int .i64 ((nth pl i).2.2.2)]), (26, 0, .pointer (some ⟨b1, 0, none⟩)), (27, 0, .slice fao fn fcap), (28, 0, .pointer (some ⟨b3, 2, none⟩)), (29, 0, .int .i64 ((nth pl i).2.2.1)), (30, 0, .pointer (some ⟨blk fao, off fao + (((nth pl i).2.2.1).toNat) * 9, none⟩)), (31, 0, .agg #[.string ((nth fl (((nth pl i).2.2.1).toNat)).1), .string ((nth fl (((nth pl i).2.2.1).toNat)).2.1), .string ((nth fl (((nth pl i).2.2.1).toNat)).2.2.1), .string ((nth fl (((nth pl i).2.2.1).toNat)).2.2.2.1), .string ((nth fl (((nth pl i).2.2.1).toNat)).2.2.2.2.1), .bool ((nth fl (((nth pl i).2.2.1).toNat)).2.2.2.2.2.1), .int .i64 ((nth fl (((nth pl i).2.2.1).toNat)).2.2.2.2.2.2.1), .int .i64 ((nth fl (((nth pl i).2.2.1).toNat)).2.2.2.2.2.2.2.1), .int .i64 ((nth fl (((nth pl i).2.2.1).toNat)).2.2.2.2.2.2.2.2)]), (32, 0, .pointer (some ⟨b4, 5, none⟩)), (33, 0, .bool ((nth fl (((nth pl i).2.2.1).toNat)).2.2.2.2.2.1)), (34, 0, .bool (!((nth fl (((nth pl i).2.2.1).toNat)).2.2.2.2.2.1))), (35, 0, .bool (!((nth fl (((nth pl i).2.2.1).toNat)).2.2.2.2.2.1))), (40, 0, .bool ((!((nth fl (((nth pl i).2.2.1).toNat)).2.2.2.2.2.1)) || (nth pd i))), (41, 0, .int .i64 ((i : Nat) : Int)), (42, 0, .int .i64 ((i + 1 : Nat) : Int)), (11, 0, .int .i64 ((q_ : Nat) : Int))]) (fun q_ => [Item.cells b1 [.slice fao fn fcap, .slice rao rn rcap, .slice u1.ao u1.l.length u1.cap, .slice u2.ao u2.l.length u2.cap] 27, Item.own w0.heap.size oa on oc 50 2 (cellsOf encNN (out)), Item.own w0.heap.size (some ⟨b2, 0, none⟩) pn pn 4 1 (cellsOf encBo (pd)), Item.cells b3 [.int .i64 ((nth pl i).1), .int .i64 ((nth pl i).2.1), .int .i64 ((nth pl i).2.2.1), .int .i64 ((nth pl i).2.2.2)] 42, Item.cells b4 [.string ((nth fl (((nth pl i).2.2.1).toNat)).1), .string ((nth fl (((nth pl i).2.2.1).toNat)).2.1), .string ((nth fl (((nth pl i).2.2.1).toNat)).2.2.1), .string ((nth fl (((nth pl i).2.2.1).toNat)).2.2.2.1), .string ((nth fl (((nth pl i).2.2.1).toNat)).2.2.2.2.1), .bool ((nth fl (((nth pl i).2.2.1).toNat)).2.2.2.2.2.1), .int .i64 ((nth fl (((nth pl i).2.2.1).toNat)).2.2.2.2.2.2.1), .int .i64 ((nth fl (((nth pl i).2.2.1).toNat)).2.2.2.2.2.2.2.1), .int .i64 ((nth fl (((nth pl i).2.2.1).toNat)).2.2.2.2.2.2.2.2)] 52]) (fun q_ => (i + 1 ≤ q_ ∧ q_ ≤ pn) ∧ ∀ j, i + 1 ≤ j → j < q_ → okK (rdF fl pl) (mtF fl pl) pd i j = false) (fun q_ => pn - q_) 5 (i + 1) (⟨⟨Nat.le_refl _, by omega⟩, fun j q1 q2 => by omega⟩) ⟨rfl, rfl, rfl, rfl, rfl, rfl, rfl, rfl, rfl, rfl, rfl, rfl, rfl, rfl, rfl, rfl, rfl, rfl, rfl, rfl, rfl, rfl, rfl, rfl, rfl, rfl, rfl, rfl, rfl, rfl, rfl, rfl, rfl, rfl, rfl, rfl, rfl, rfl, rfl, rfl, rfl, rfl, rfl, rfl, rfl, rfl, rfl, rfl, rfl, rfl, rfl, rfl, rfl, rfl, rfl, rfl, rfl, rfl, rfl, rfl, rfl, rfl, rfl, rfl, rfl, rfl, rfl, rfl, rfl, rfl, rfl, rfl, trivial⟩ rfl ?_
        rintro k ⟨hk, hq⟩
        refine WC.seq ?_
        refine WC.seq ?_
        refine WC.quiet rfl (by kernel_rfl) ?_
        refine SQ.pure rfl rfl rfl (PureOp.move rfl) ?_
        refine SQ.pure rfl rfl rfl (PureOp.move rfl) ?_
        refine SQ.pure rfl rfl rfl (PureOp.len rfl Try.underlying28) ?_
        refine SQ.pure rfl rfl rfl (PureOp.lss rfl rfl) ?_
        refine SQ.pure rfl rfl rfl (PureOp.move rfl) ?_
        refine SQ.newg 47 true rfl ?_
        refine SQ.gpure (c := 1) rfl rfl rfl rfl rfl rfl rfl (PureOp.move rfl) ?_
        refine SQ.gpure (c := 1) rfl rfl rfl rfl rfl rfl rfl (PureOp.move rfl) ?_
        refine SQ.gpure (c := 1) rfl rfl rfl rfl rfl rfl rfl (PureOp.indexAddrN Try.underlying55 sz4 rfl rfl AoOk.lit (by intro hg; simp [gval] at hg; first | omega | (have q := hfa k (by omega); omega))) ?_
        refine SQ.gpure (c := 1) rfl rfl rfl rfl rfl rfl rfl (PureOp.load (v := .bool (nth pd k)) Try.underlying4 rfl rfl (by intro hg; simp [gval] at hg; exact (CellIs.ownc 2 rfl k 0 (by exact encBo_get (by omega))))) ?_
        refine SQ.gpure (c := 1) rfl rfl rfl rfl rfl rfl rfl (PureOp.move rfl) ?_
        refine SQ.newg 52 false rfl ?_
        refine SQ.gpure (c := 2) rfl rfl rfl rfl rfl rfl rfl (PureOp.loads (vs := [.string ((nth fl (((nth pl i).2.2.1).toNat)).1), .string ((nth fl (((nth pl i).2.2.1).toNat)).2.1), .string ((nth fl (((nth pl i).2.2.1).toNat)).2.2.1), .string ((nth fl (((nth pl i).2.2.1).toNat)).2.2.2.1), .string ((nth fl (((nth pl i).2.2.1).toNat)).2.2.2.2.1), .bool ((nth fl (((nth pl i).2.2.1).toNat)).2.2.2.2.2.1), .int .i64 ((nth fl (((nth pl i).2.2.1).toNat)).2.2.2.2.2.2.1), .int .i64 ((nth fl (((nth pl i).2.2.1).toNat)).2.2.2.2.2.2.2.1), .int .i64 ((nth fl (((nth pl i).2.2.1).toNat)).2.2.2.2.2.2.2.2)]) Try.underlying52 rfl rfl (fun _ => (RowIs.cells 4 0 9 rfl rfl)) sz52) ?_
        refine SQ.gpure (c := 2) rfl rfl rfl rfl rfl rfl rfl (PureOp.fieldAddrT 0 Try.underlying27 rfl sz22 rfl rfl) ?_
        refine SQ.gpure (c := 2) rfl rfl rfl rfl rfl rfl rfl (PureOp.load (v := .slice fao fn fcap) Try.underlying22 rfl rfl (fun _ => (CellIs.cells 0 rfl rfl))) ?_
        refine SQ.gpure (c := 2) rfl rfl rfl rfl rfl rfl rfl (PureOp.move rfl) ?_
        refine SQ.gpure (c := 2) rfl rfl rfl rfl rfl rfl rfl (PureOp.move rfl) ?_
        refine SQ.gpure (c := 2) rfl rfl rfl rfl rfl rfl rfl (PureOp.indexAddrN Try.underlying28 sz42 rfl rfl (AoOk.in_ hp) (by intro hg; simp [gval] at hg; first | omega | (have q := hfa k (by omega); omega))) ?_
        refine SQ.gpure (c := 2) rfl rfl rfl rfl rfl rfl rfl (PureOp.fieldAddr 2 Try.underlying42 rfl rfl sz3 rfl) ?_
        refine SQ.gpure (c := 2) rfl rfl rfl rfl rfl rfl rfl (PureOp.load (v := .int .i64 ((nth pl k).2.2.1)) Try.underlying3 rfl rfl (by intro hg; simp [gval] at hg; exact (CellIs.in_ hp k 2 (by first | omega | (have q := hfa k (by omega); omega)) (by omega)))) ?_
        refine SQ.gpure (c := 2) rfl rfl rfl rfl rfl rfl rfl (PureOp.indexAddr Try.underlying22 sz52 rfl rfl (AoOk.in_ hf) (by intro hg; simp [gval] at hg; first | omega | (have q := hfa k (by omega); omega))) ?_
        refine SQ.gpure (c := 2) rfl rfl rfl rfl rfl rfl rfl (PureOp.loads (vs := [.string ((nth fl (((nth pl k).2.2.1).toNat)).1), .string ((nth fl (((nth pl k).2.2.1).toNat)).2.1), .string ((nth fl (((nth pl k).2.2.1).toNat)).2.2.1), .string ((nth fl (((nth pl k).2.2.1).toNat)).2.2.2.1), .string ((nth fl (((nth pl k).2.2.1).toNat)).2.2.2.2.1), .bool ((nth fl (((nth pl k).2.2.1).toNat)).2.2.2.2.2.1), .int .i64 ((nth fl (((nth pl k).2.2.1).toNat)).2.2.2.2.2.2.1), .int .i64 ((nth fl (((nth pl k).2.2.1).toNat)).2.2.2.2.2.2.2.1), .int .i64 ((nth fl (((nth pl k).2.2.1).toNat)).2.2.2.2.2.2.2.2)]) Try.underlying52 rfl rfl (by intro hg; simp [gval] at hg; exact (RowIs.in_ hf (((nth pl k).2.2.1).toNat) 0 9 (by first | omega | (have q := hfa k (by omega); omega)) (by omega))) sz52) ?_
        refine SQ.gcalle (c := 2) rfl rfl rfl rfl rfl rfl rfl rfl rfl rfl callable20 (by intro hg; simp [gval] at hg; exact (fun w hw => back_ok (fareX fl pl i) (fareX fl pl k) w)) ?_
        refine SQ.gpure (c := 2) rfl rfl rfl rfl rfl rfl rfl (PureOp.not rfl) ?_
        refine SQ.gpure (c := 1) rfl rfl rfl rfl rfl rfl rfl (PureOp.or_ rfl rfl rfl rfl) ?_
        refine SQ.pure rfl rfl rfl (PureOp.and_ rfl rfl rfl rfl) ?_
        refine SQ.nil_then ?_
        refine WC.cond rfl (fun h4 => ?_) (fun h4 => ?_)
        · try simp only [Bool.and_eq_true, Bool.or_eq_true, Bool.not_eq_true', Bool.not_eq_false', Bool.and_eq_false_iff, Bool.or_eq_false_iff, decide_eq_true_eq, decide_eq_false_iff_not, Int.not_lt, Int.not_le, ne_eq, Decidable.not_not] at h4
          refine WC.skip ?_
          refine QX.then_ ?_
          refine WC.block ?_
          refine WC.region ?_
          refine SL.pure rfl rfl rfl (PureOp.move rfl) ?_
          refine SL.pure rfl rfl rfl (PureOp.addN (k := 1) rfl rfl (fun _ => by first | omega | (have q := hfa k (by omega); omega))) ?_
          refine SL.pure rfl rfl rfl (PureOp.assign rfl) ?_
          refine SL.nil ?_
          refine QX.normal_in ?_
          refine QX.round 5 (k + 1) ⟨⟨(by first | omega | (dsimp only; omega)), okK_next hq (okK_no (h4.2.imp id okB_no))⟩, by first | omega | (dsimp only; omega)⟩ ⟨rfl, rfl, rfl, rfl, rfl, rfl, rfl, rfl, rfl, rfl, rfl, rfl, rfl, rfl, rfl, rfl, rfl, rfl, rfl, rfl, rfl, rfl, rfl, rfl, rfl, rfl, rfl, rfl, rfl, rfl, rfl, rfl, rfl, rfl, rfl, rfl, rfl, rfl, rfl, rfl, rfl, rfl, rfl, rfl, rfl, rfl, rfl, rfl, rfl, rfl, rfl, rfl, rfl, rfl, rfl, rfl, rfl, rfl, rfl, rfl, rfl, rfl, rfl, rfl, rfl, rfl, rfl, rfl, rfl, rfl, rfl, rfl, trivial⟩ rfl
        · try simp only [Bool.and_eq_true, Bool.or_eq_true, Bool.not_eq_true', Bool.not_eq_false', Bool.and_eq_false_iff, Bool.or_eq_false_iff, decide_eq_true_eq, decide_eq_false_iff_not, Int.not_lt, Int.not_le, ne_eq, Decidable.not_not] at h4
          refine WC.exit ?_
          refine QX.exit_then ?_
          refine QX.exit_then ?_
          refine QX.exit_hit ?_
          refine QX.then_ ?_
          refine WC.seq ?_
          refine WC.seq ?_
          refine WC.region ?_
          refine SL.pure rfl rfl rfl (PureOp.move rfl) ?_
          refine SL.pure rfl rfl rfl (PureOp.move rfl) ?_
          refine SL.pure rfl rfl rfl (PureOp.len rfl Try.underlying28) ?_
          refine SL.pure rfl rfl rfl (PureOp.eql rfl rfl) ?_
          refine SL.nil_then ?_
          refine WC.cond rfl (fun h5 => ?_) (fun h5 => ?_)
          · try simp only [Bool.and_eq_true, Bool.or_eq_true, Bool.not_eq_true', Bool.not_eq_false', Bool.and_eq_false_iff, Bool.or_eq_false_iff, decide_eq_true_eq, decide_eq_false_iff_not, Int.not_lt, Int.not_le, ne_eq, Decidable.not_not] at h5
            refine WC.seq ?_
            refine WC.region ?_
            refine SL.pure rfl rfl rfl (PureOp.assign rfl) ?_
            refine SL.pure rfl rfl rfl (PureOp.assign rfl) ?_
            refine SL.nil_then ?_
            refine WC.ret ?_
            refine QX.ret_then ?_
            refine QX.ret_in ?_
            refine QX.ret_then ?_
            refine QX.ret_then ?_
            refine QX.ret_in ?_
            refine QX.ret_then ?_
            refine QX.ret2 rfl rfl rfl ?_
            intro w hw
            rw [resP_none h1 (runP_fail hr h3.1 h3.2 (by rw [← (show k = pn by omega)]; exact hq) (by omega))]
            exact ⟨none, 0, rfl, ownsRow_nil⟩
          · try simp only [Bool.and_eq_true, Bool.or_eq_true, Bool.not_eq_true', Bool.not_eq_false', Bool.and_eq_false_iff, Bool.or_eq_false_iff, decide_eq_true_eq, decide_eq_false_iff_not, Int.not_lt, Int.not_le, ne_eq, Decidable.not_not] at h5
            refine WC.skip ?_
            refine QX.then_ ?_
            refine WC.seq ?_
            refine WC.region ?_
            refine SL.pure rfl rfl rfl (PureOp.move rfl) ?_
            refine SL.pure rfl rfl rfl (PureOp.move rfl) ?_
            refine SL.pure rfl rfl rfl (PureOp.indexAddrN Try.underlying55 sz4 rfl rfl AoOk.lit (fun _ => by first | omega | (have q := hfa k (by omega); omega))) ?_
            refine SL.storeown (k := k) (j := 0) 2 rfl rfl rfl rfl sz4 (by rw [cellsOf_length encBo_len]; omega) rfl ?_
            refine SL.itemxs 2 rfl (show _ = cellsOf encBo (pd.set k true) from encBo_set (by omega)) ?_
            refine SL.norm [_, _, _, _, _] rfl ?_
            refine SL.nil_then ?_
            refine WC.region ?_
            refine SL.pure rfl rfl rfl (PureOp.move rfl) ?_
            refine SL.pure rfl rfl rfl (PureOp.move rfl) ?_
            refine SL.pure rfl rfl rfl (PureOp.move rfl) ?_
            refine SL.pure rfl rfl rfl (PureOp.build bld50 rfl rfl) ?_
            refine SL.buildSlice rfl rfl Try.underlying30 elem50 rfl rfl rfl rfl (fun b5 hb5 => ?_)
            refine SL.norm [_, _, _, _, _, _] rfl ?_
            refine SL.append 1 rfl rfl Try.underlying30 elem50 rfl rfl rfl rfl (SrcIs.own 5 rfl) (by rfl) (by first | omega | (have q := hfa k (by omega); omega)) (by first | omega | (have q := hfa k (by omega); omega)) (fun ao1_ cap1_ => ?_)
            refine SL.itemxs 1 rfl (show _ = cellsOf encNN (out ++ [(i, k)]) from by rw [cellsOf_append (l := out), cellsOf_one]; rfl) ?_
            refine SL.norm [_, _, _, _, _, _] rfl ?_
            refine SL.addnil 50 2 ?_
            refine SL.pure rfl rfl rfl (PureOp.assign rfl) ?_
            refine SL.nil ?_
            refine QX.normal_in ?_
            refine QX.then_ ?_
            refine WC.region ?_
            refine SL.pure rfl rfl rfl (PureOp.addN (k := 1) rfl rfl (fun _ => by first | omega | (have q := hfa k (by omega); omega))) ?_
            refine SL.pure rfl rfl rfl (PureOp.move rfl) ?_
            refine SL.nil ?_
            refine QX.round (σ := Nat × List Bool × List (Nat × Nat) × Option Addr × Nat × Nat) (Ef := fun q_ => [(0, 0, .agg #[.slice fao fn fcap, .slice rao rn rcap, .slice u1.ao u1.l.length u1.cap, .slice u2.ao u2.l.length u2.cap]), (1, 0, .slice pao pn pcap), (2, 0, .pointer (some ⟨b1, 0, none⟩)), (7, 0, .slice (some ⟨b2, 0, none⟩) pn pn), (12, 0, .agg #[.slice fao fn fcap, .slice rao rn rcap, .slice u1.ao u1.l.length u1.cap, .slice u2.ao u2.l.length u2.cap]), (13, 0, .slice pao pn pcap), (14, 0, .bool (allK (prF fn pl) pl.length)), (15, 0, .bool (!(allK (prF fn pl) pl.length))), (16, 0, .slice pao pn pcap), (17, 0, .int .i64 ((pn : Nat) : Int)), (18, 0, .slice (some ⟨b2, 0, none⟩) pn pn), (19, 0, .slice pao pn pcap), (20, 0, .int .i64 ((pn : Nat) : Int)), (21, 0, .int .i64 ((q_.1 : Nat) : Int)), (6, 0, .slice q_.2.2.2.1 q_.2.2.2.2.2 q_.2.2.2.2.1)]) (Hf := fun q_ => [Item.cells b1 [.slice fao fn fcap, .slice rao rn rcap, .slice u1.ao u1.l.length u1.cap, .slice u2.ao u2.l.length u2.cap] 27, Item.own w0.heap.size q_.2.2.2.1 q_.2.2.2.2.2 q_.2.2.2.2.1 50 2 (cellsOf encNN (q_.2.2.1)), Item.own w0.heap.size (some ⟨b2, 0, none⟩) pn pn 4 1 (cellsOf encBo (q_.2.1))]) (I := fun q_ => q_.1 ≤ pn ∧ runP pn (rdF fl pl) (mtF fl pl) q_.1 = some (q_.2.1, q_.2.2.1) ∧ q_.2.2.2.2.2 = (q_.2.2.1).length) (μ := fun q_ => pn - q_.1) (s := (i, pd, out, oa, oc, on)) 3 ((i + 1, pd.set k true, out ++ [(i, k)], ao1_, cap1_, on + 1)) ⟨⟨(by first | omega | (dsimp only; omega)), runP_pair hr h3.1 h3.2 hq hk.1 (by omega) (h4.elim (fun q => by omega) fun q => okK_yes q.1 (okB_yes q.2)), by rw [List.length_append, hon]; rfl⟩, by first | omega | (dsimp only; omega)⟩ ⟨rfl, rfl, rfl, rfl, rfl, rfl, rfl, rfl, rfl, rfl, rfl, rfl, rfl, rfl, rfl, rfl, rfl, rfl, rfl, rfl, rfl, rfl, rfl, rfl, rfl, rfl, rfl, rfl, rfl, rfl, trivial⟩ rfl
    · try simp only [Bool.and_eq_true, Bool.or_eq_true, Bool.not_eq_true', Bool.not_eq_false', Bool.and_eq_false_iff, Bool.or_eq_false_iff, decide_eq_true_eq, decide_eq_false_iff_not, Int.not_lt, Int.not_le, ne_eq, Decidable.not_not] at h2
      refine WC.exit ?_
      refine QX.exit_then ?_
      refine QX.exit_then ?_
      refine QX.exit_hit ?_
      refine QX.then_ ?_
      refine WC.seq ?_
      refine WC.region ?_
      refine SL.pure rfl rfl rfl (PureOp.move rfl) ?_
      refine SL.pure rfl rfl rfl (PureOp.assign rfl) ?_
      refine SL.pure rfl rfl rfl (PureOp.assign rfl) ?_
      refine SL.nil_then ?_
      refine WC.ret ?_
      refine QX.ret2 rfl rfl rfl ?_
      intro w hw
      obtain rfl : i = pn := by omega
      subst hon
      rw [resP_some h1 hr]
      exact ⟨_, _, rfl, hw.mem (i := 1) rfl⟩

end Go.Proofs.Ytblmafknmeicfaa
