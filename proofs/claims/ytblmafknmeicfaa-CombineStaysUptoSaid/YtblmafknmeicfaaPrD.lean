import Derived.Test.YtblmafknmeicfaaPrC
namespace Go.Proofs.Ytblmafknmeicfaa
open Go Go.RowKit Eng
set_option linter.unusedVariables false
set_option linter.unusedSimpArgs false

theorem fstD_no {p : Nat → Bool} {n j : Nat} : ∀ d, n - d ≤ j → j < fstD p n d → p j = false
  | 0, h, h2 => by unfold fstD at h2; omega
  | d + 1, h, h2 => by
    unfold fstD at h2
    split at h2
    · omega
    · rename_i q
      by_cases e : j = n - (d + 1)
      · rw [e]; cases e2 : p (n - (d + 1)) with
        | false => rfl
        | true => exact absurd e2 q
      · exact fstD_no d (by omega) h2
theorem fstK_no {p : Nat → Bool} {n k j : Nat} (h : j < fstK p n k) (hk : k ≤ j) : p j = false := fstD_no _ (by omega) h
set_option maxHeartbeats 4000000 in
set_option maxRecDepth 100000 in
theorem rpairs_ok (u1 u2 : SliceV Unit) (fl : List Fa) (rao : Option Addr) (rn rcap : Nat) (fao : Option Addr) (fn fcap : Nat) (hfn : fn = fl.length) (w0 : World) (hf : SliceIn w0 9 fao fn fcap (rowsF enc52 fl)) (hfb : fn ≤ 1000) (pl : List Pt) (pao : Option Addr) (pn pcap : Nat) (hpn : pn = pl.length) (hp : SliceIn w0 4 pao pn pcap (rowsF enc42 pl)) (hpb : pn ≤ 1000) : FnC Try.prog 9 [.agg #[.slice fao fn fcap, .slice rao rn rcap, .slice u1.ao u1.l.length u1.cap, .slice u2.ao u2.l.length u2.cap], .slice pao pn pcap] w0 fun v w' => ∃ a cap, v = .tuple #[.slice a (resP (allK (prF fn pl) pl.length) 19 23 pn (rdF fl pl) (mtF fl pl)).2.length cap, .int .i64 (resP (allK (prF fn pl) pl.length) 19 23 pn (rdF fl pl) (mtF fl pl)).1] ∧ w'.ownsRow w0.heap.size 50 2 (.slice a (resP (allK (prF fn pl) pl.length) 19 23 pn (rdF fl pl) (mtF fl pl)).2.length cap) (resP (allK (prF fn pl) pl.length) 19 23 pn (rdF fl pl) (mtF fl pl)).2.length (cellsOf encNN (resP (allK (prF fn pl) pl.length) 19 23 pn (rdF fl pl) (mtF fl pl)).2) := by
  refine fnc (N := 49) Try.func9 rfl rfl rfl ?_
  refine WC.seq ?_
  refine WC.region ?_
  refine SL.box rfl rfl rfl (fun b1 hb1 => ?_)
  refine SL.norm [_] rfl ?_
  refine SL.pure rfl rfl rfl (PureOp.assign rfl) ?_
  refine SL.pure rfl rfl rfl (PureOp.assign rfl) ?_
  refine SL.nil_then ?_
  refine WC.seq ?_
  refine WC.seq ?_
  refine WC.region ?_
  refine SL.pure rfl rfl rfl (PureOp.loads (vs := [.slice fao fn fcap, .slice rao rn rcap, .slice u1.ao u1.l.length u1.cap, .slice u2.ao u2.l.length u2.cap]) Try.underlying27 rfl rfl (fun _ => (RowIs.cells 0 0 4 rfl rfl)) sz27) ?_
  refine SL.pure rfl rfl rfl (PureOp.move rfl) ?_
  refine SL.calle rfl rfl rfl rfl rfl rfl callable21 (fun w hw => known_ok u1 u2 fl rao rn rcap fao fn fcap hfn w (hf.below hw.below) hfb pl pao pn pcap hpn (hp.below hw.below) hpb) ?_
  refine SL.norm [_] rfl ?_
  refine SL.pure rfl rfl rfl (PureOp.not rfl) ?_
  refine SL.nil_then ?_
  refine WC.cond rfl (fun h1 => ?_) (fun h1 => ?_)
  · try simp only [Bool.and_eq_true, Bool.or_eq_true, Bool.not_eq_true', Bool.not_eq_false', Bool.and_eq_false_iff, Bool.or_eq_false_iff, decide_eq_true_eq, decide_eq_false_iff_not, Int.not_lt, Int.not_le, ne_eq, Decidable.not_not] at h1
    refine WC.seq ?_
    refine WC.region ?_
    refine SL.pure rfl rfl rfl (PureOp.assign rfl) ?_
    refine SL.pure rfl rfl rfl (PureOp.assign rfl) ?_
    refine SL.nil_then ?_
    refine WC.ret ?_
    refine QX.ret_then ?_
    refine QX.ret2 rfl rfl rfl ?_
    intro w hw
    rw [resP_no (by simpa using h1)]
    exact ⟨none, 0, rfl, ownsRow_nil⟩
  · try simp only [Bool.and_eq_true, Bool.or_eq_true, Bool.not_eq_true', Bool.not_eq_false', Bool.and_eq_false_iff, Bool.or_eq_false_iff, decide_eq_true_eq, decide_eq_false_iff_not, Int.not_lt, Int.not_le, ne_eq, Decidable.not_not] at h1
    have hfa : ∀ j, j < pn → 0 ≤ (nth pl j).2.2.1 ∧ (nth pl j).2.2.1 < fn := fun j hj => priced_at (by simpa using h1) (by omega)
    refine WC.skip ?_
    refine QX.then_ ?_
    refine WC.seq ?_
    refine WC.region ?_
    refine SL.addnil 50 2 ?_
    refine SL.pure rfl rfl rfl (PureOp.assign rfl) ?_
    refine SL.nil_then ?_
    refine WC.seq ?_
    refine WC.seq ?_
    refine WC.region ?_
    refine SL.pure rfl rfl rfl (PureOp.assign rfl) ?_
    refine SL.nil_then ?_
    refine WC.block ?_
    refine WC.loop (σ := Nat × List Bool × List (Nat × Nat) × Option Addr × Nat × Nat) (fun q_ => [(0, 0, .agg #[.slice fao fn fcap, .slice rao rn rcap, .slice u1.ao u1.l.length u1.cap, .slice u2.ao u2.l.length u2.cap]), (1, 0, .slice pao pn pcap), (2, 0, .pointer (some ⟨b1, 0, none⟩)), (9, 0, .agg #[.slice fao fn fcap, .slice rao rn rcap, .slice u1.ao u1.l.length u1.cap, .slice u2.ao u2.l.length u2.cap]), (10, 0, .slice pao pn pcap), (11, 0, .bool (allK (prF fn pl) pl.length)), (12, 0, .bool (!(allK (prF fn pl) pl.length))), (7, 0, .int .i64 ((q_.1 : Nat) : Int)), (6, 0, .slice q_.2.2.2.1 q_.2.2.2.2.2 q_.2.2.2.2.1)]) (fun q_ => [Item.cells b1 [.slice fao fn fcap, .slice rao rn rcap, .slice u1.ao u1.l.length u1.cap, .slice u2.ao u2.l.length u2.cap] 27, Item.own w0.heap.size q_.2.2.2.1 q_.2.2.2.2.2 q_.2.2.2.2.1 50 2 (cellsOf encNN (q_.2.2.1))]) (fun q_ => q_.1 ≤ pn ∧ runP pn (rdF fl pl) (mtF fl pl) q_.1 = some (q_.2.1, q_.2.2.1) ∧ q_.2.2.2.2.2 = (q_.2.2.1).length) (fun q_ => pn - q_.1) 2 ((0, List.replicate pn false, [], none, 0, 0)) (⟨Nat.zero_le _, rfl, rfl⟩) ⟨rfl, rfl, rfl, rfl, rfl, rfl, rfl, rfl, rfl, rfl, rfl, rfl, rfl, rfl, rfl, rfl, rfl, rfl, trivial⟩ rfl ?_
    rintro ⟨i, pd, out, oa, oc, on⟩ ⟨hi, hr, hon⟩
    try dsimp only at *
    refine WC.seq ?_
    refine WC.seq ?_
    refine WC.region ?_
    refine SL.pure rfl rfl rfl (PureOp.move rfl) ?_
    refine SL.pure rfl rfl rfl (PureOp.move rfl) ?_
    refine SL.pure rfl rfl rfl (PureOp.len rfl Try.underlying28) ?_
    refine SL.pure rfl rfl rfl (PureOp.lss rfl rfl) ?_
    refine SL.nil_then ?_
    refine WC.cond rfl (fun h2 => ?_) (fun h2 => ?_)
    · try simp only [Bool.and_eq_true, Bool.or_eq_true, Bool.not_eq_true', Bool.not_eq_false', Bool.and_eq_false_iff, Bool.or_eq_false_iff, decide_eq_true_eq, decide_eq_false_iff_not, Int.not_lt, Int.not_le, ne_eq, Decidable.not_not] at h2
      have R := run_is (n := pn) i (by omega) pd out hr
      have hpl := R.len
      have hol := R.num
      have hfi := hfa i (by omega)
      refine WC.skip ?_
      refine QX.then_ ?_
      refine WC.seq ?_
      refine WC.block ?_
      refine WC.seq ?_
      refine WC.seq ?_
      refine WC.quiet rfl (by kernel_rfl) ?_
      refine SQ.pure rfl rfl rfl (PureOp.fieldAddrT 0 Try.underlying27 rfl sz22 rfl rfl) ?_
      refine SQ.pure rfl rfl rfl (PureOp.load (v := .slice fao fn fcap) Try.underlying22 rfl rfl (fun _ => (CellIs.cells 0 rfl rfl))) ?_
      refine SQ.pure rfl rfl rfl (PureOp.move rfl) ?_
      refine SQ.pure rfl rfl rfl (PureOp.move rfl) ?_
      refine SQ.pure rfl rfl rfl (PureOp.indexAddrN Try.underlying28 sz42 rfl rfl (AoOk.in_ hp) (fun _ => by first | omega | (have q := hfa k (by omega); omega) | (have q := hfa i (by omega); omega))) ?_
      refine SQ.pure rfl rfl rfl (PureOp.fieldAddr 2 Try.underlying42 rfl rfl sz3 rfl) ?_
      refine SQ.pure rfl rfl rfl (PureOp.load (v := .int .i64 ((nth pl i).2.2.1)) Try.underlying3 rfl rfl (fun _ => (CellIs.in_ hp i 2 (by first | omega | (have q := hfa k (by omega); omega) | (have q := hfa i (by omega); omega)) (by omega)))) ?_
      refine SQ.pure rfl rfl rfl (PureOp.indexAddr Try.underlying22 sz52 rfl rfl (AoOk.in_ hf) (fun _ => by first | omega | (have q := hfa k (by omega); omega) | (have q := hfa i (by omega); omega))) ?_
      refine SQ.pure rfl rfl rfl (PureOp.fieldAddr 5 Try.underlying52 rfl rfl sz4 rfl) ?_
      refine SQ.pure rfl rfl rfl (PureOp.load (v := .bool ((nth fl (((nth pl i).2.2.1).toNat)).2.2.2.2.2.1)) Try.underlying4 rfl rfl (fun _ => (CellIs.in_ hf (((nth pl i).2.2.1).toNat) 5 (by first | omega | (have q := hfa k (by omega); omega) | (have q := hfa i (by omega); omega)) (by omega)))) ?_
      refine SQ.pure rfl rfl rfl (PureOp.not rfl) ?_
      refine SQ.pure rfl rfl rfl (PureOp.move rfl) ?_
      refine SQ.newg 30 false rfl ?_
      refine SQ.gpure (c := 1) rfl rfl rfl rfl rfl rfl rfl (PureOp.move rfl) ?_
      refine SQ.gpure (c := 1) rfl rfl rfl rfl rfl rfl rfl (PureOp.move rfl) ?_
      refine SQ.gcalle (c := 1) rfl rfl rfl rfl rfl rfl rfl rfl rfl rfl callable22 (by intro hg; simp [gval] at hg; exact (fun w hw => paired_ok w out oa on oc hon (SliceIn.rows (l := out) (hw.mem (i := 1) rfl) encNN_len (by omega)) (by omega) i)) ?_
      refine SQ.pure rfl rfl rfl (PureOp.or_ rfl rfl rfl rfl) ?_
      refine SQ.nil_then ?_
      refine WC.cond rfl (fun h3 => ?_) (fun h3 => ?_)
      · try simp only [Bool.and_eq_true, Bool.or_eq_true, Bool.not_eq_true', Bool.not_eq_false', Bool.and_eq_false_iff, Bool.or_eq_false_iff, decide_eq_true_eq, decide_eq_false_iff_not, Int.not_lt, Int.not_le, ne_eq, Decidable.not_not] at h3
        refine WC.exit ?_
        refine QX.exit_then ?_
        refine QX.exit_hit ?_
        refine QX.then_ ?_
        refine WC.region ?_
        refine SL.pure rfl rfl rfl (PureOp.move rfl) ?_
        refine SL.pure rfl rfl rfl (PureOp.addN (k := 1) rfl rfl (fun _ => by first | omega | (have q := hfa k (by omega); omega) | (have q := hfa i (by omega); omega))) ?_
        refine SL.pure rfl rfl rfl (PureOp.assign rfl) ?_
        refine SL.nil ?_
        refine QX.round (σ := Nat × List Bool × List (Nat × Nat) × Option Addr × Nat × Nat) (Ef := fun q_ => [(0, 0, .agg #[.slice fao fn fcap, .slice rao rn rcap, .slice u1.ao u1.l.length u1.cap, .slice u2.ao u2.l.length u2.cap]), (1, 0, .slice pao pn pcap), (2, 0, .pointer (some ⟨b1, 0, none⟩)), (9, 0, .agg #[.slice fao fn fcap, .slice rao rn rcap, .slice u1.ao u1.l.length u1.cap, .slice u2.ao u2.l.length u2.cap]), (10, 0, .slice pao pn pcap), (11, 0, .bool (allK (prF fn pl) pl.length)), (12, 0, .bool (!(allK (prF fn pl) pl.length))), (7, 0, .int .i64 ((q_.1 : Nat) : Int)), (6, 0, .slice q_.2.2.2.1 q_.2.2.2.2.2 q_.2.2.2.2.1)]) (Hf := fun q_ => [Item.cells b1 [.slice fao fn fcap, .slice rao rn rcap, .slice u1.ao u1.l.length u1.cap, .slice u2.ao u2.l.length u2.cap] 27, Item.own w0.heap.size q_.2.2.2.1 q_.2.2.2.2.2 q_.2.2.2.2.1 50 2 (cellsOf encNN (q_.2.2.1))]) (I := fun q_ => q_.1 ≤ pn ∧ runP pn (rdF fl pl) (mtF fl pl) q_.1 = some (q_.2.1, q_.2.2.1) ∧ q_.2.2.2.2.2 = (q_.2.2.1).length) (μ := fun q_ => pn - q_.1) (s := (i, pd, out, oa, oc, on)) 2 ((i + 1, pd, out, oa, oc, on)) ⟨⟨(by first | omega | (dsimp only; omega)), runP_skip hr (h3.imp id fun q => by rw [paired_free R (Nat.le_refl _) (by omega)] at q; simpa using q), hon⟩, by first | omega | (dsimp only; omega)⟩ ⟨rfl, rfl, rfl, rfl, rfl, rfl, rfl, rfl, rfl, rfl, rfl, rfl, rfl, rfl, rfl, rfl, rfl, rfl, trivial⟩ rfl
      · try simp only [Bool.and_eq_true, Bool.or_eq_true, Bool.not_eq_true', Bool.not_eq_false', Bool.and_eq_false_iff, Bool.or_eq_false_iff, decide_eq_true_eq, decide_eq_false_iff_not, Int.not_lt, Int.not_le, ne_eq, Decidable.not_not] at h3
        refine WC.skip ?_
        refine QX.then_ ?_
        refine WC.seq ?_
        refine WC.region ?_
        refine SL.pure rfl rfl rfl (PureOp.loads (vs := [.slice fao fn fcap, .slice rao rn rcap, .slice u1.ao u1.l.length u1.cap, .slice u2.ao u2.l.length u2.cap]) Try.underlying27 rfl rfl (fun _ => (RowIs.cells 0 0 4 rfl rfl)) sz27) ?_
        refine SL.pure rfl rfl rfl (PureOp.move rfl) ?_
        refine SL.pure rfl rfl rfl (PureOp.move rfl) ?_
        refine SL.pure rfl rfl rfl (PureOp.move rfl) ?_
        refine SL.calle rfl rfl rfl rfl rfl rfl callable23 (fun w hw => partner_ok u1 u2 fl rao rn rcap fao fn fcap hfn w (hf.below hw.below) hfb pl pao pn pcap hpn (hp.below hw.below) hpb out oa on oc hon (SliceIn.rows (l := out) (hw.mem (i := 1) rfl) encNN_len (by omega)) (by omega) i (by omega) pd R (by simpa [rdF, fareX] using h3.1) hfa) ?_
        refine SL.norm [_, _] rfl ?_
        refine SL.pure rfl rfl rfl (PureOp.assign rfl) ?_
        refine SL.nil_then ?_
        refine WC.seq ?_
        refine WC.seq ?_
        refine WC.region ?_
        refine SL.pure rfl rfl rfl (PureOp.move rfl) ?_
        refine SL.pure rfl rfl rfl (PureOp.lss rfl rfl) ?_
        refine SL.nil_then ?_
        refine WC.cond rfl (fun h4 => ?_) (fun h4 => ?_)
        · try simp only [Bool.and_eq_true, Bool.or_eq_true, Bool.not_eq_true', Bool.not_eq_false', Bool.and_eq_false_iff, Bool.or_eq_false_iff, decide_eq_true_eq, decide_eq_false_iff_not, Int.not_lt, Int.not_le, ne_eq, Decidable.not_not] at h4
          have hpi : nth pd i = false := by have q := h3.2; rw [paired_free R (Nat.le_refl _) (by omega)] at q; simpa using q
          obtain ⟨kk, hkk⟩ : ∃ k, k = fstK (okK (rdF fl pl) (mtF fl pl) pd i) pn (i + 1) := ⟨_, rfl⟩
          have hk0 : i + 1 ≤ kk ∧ kk ≤ pn := by rw [hkk]; exact fstK_le (by omega)
          have hk1 : ∀ j, i + 1 ≤ j → j < kk → okK (rdF fl pl) (mtF fl pl) pd i j = false := fun j q1 q2 => fstK_no (by rw [← hkk]; exact q2) q1
          rw [← hkk] at h4 ⊢
          have hke : kk = pn := by split at h4 <;> omega
          refine WC.seq ?_
          refine WC.region ?_
          refine SL.pure rfl rfl rfl (PureOp.assign rfl) ?_
          refine SL.pure rfl rfl rfl (PureOp.assign rfl) ?_
          refine SL.nil_then ?_
          refine WC.ret ?_
          refine QX.ret_then ?_
          refine QX.ret_in ?_
          refine QX.ret_then ?_
          refine QX.ret_then ?_
          refine QX.ret_in ?_
          refine QX.ret_then ?_
          refine QX.ret2 rfl rfl rfl ?_
          intro w hw
          rw [resP_none h1 (runP_fail hr h3.1 hpi (by rw [← hke]; exact hk1) (by omega))]
          exact ⟨none, 0, rfl, ownsRow_nil⟩
        · try simp only [Bool.and_eq_true, Bool.or_eq_true, Bool.not_eq_true', Bool.not_eq_false', Bool.and_eq_false_iff, Bool.or_eq_false_iff, decide_eq_true_eq, decide_eq_false_iff_not, Int.not_lt, Int.not_le, ne_eq, Decidable.not_not] at h4
          have hpi : nth pd i = false := by have q := h3.2; rw [paired_free R (Nat.le_refl _) (by omega)] at q; simpa using q
          obtain ⟨kk, hkk⟩ : ∃ k, k = fstK (okK (rdF fl pl) (mtF fl pl) pd i) pn (i + 1) := ⟨_, rfl⟩
          have hk0 : i + 1 ≤ kk ∧ kk ≤ pn := by rw [hkk]; exact fstK_le (by omega)
          have hk1 : ∀ j, i + 1 ≤ j → j < kk → okK (rdF fl pl) (mtF fl pl) pd i j = false := fun j q1 q2 => fstK_no (by rw [← hkk]; exact q2) q1
          rw [← hkk] at h4 ⊢
          have hkn : kk ≠ pn := by intro q; rw [if_pos q] at h4; omega
          have hk2 : okK (rdF fl pl) (mtF fl pl) pd i kk = true := by rw [hkk]; exact fstK_yes (by rw [← hkk]; omega)
          rw [if_neg hkn]
          refine WC.skip ?_
          refine QX.then_ ?_
          refine WC.region ?_
          refine SL.pure rfl rfl rfl (PureOp.move rfl) ?_
          refine SL.pure rfl rfl rfl (PureOp.move rfl) ?_
          refine SL.pure rfl rfl rfl (PureOp.move rfl) ?_
          refine SL.pure rfl rfl rfl (PureOp.build bld50 rfl rfl) ?_
          refine SL.buildSlice rfl rfl Try.underlying30 elem50 rfl rfl rfl rfl (fun b2 hb2 => ?_)
          refine SL.norm [_, _, _] rfl ?_
          refine SL.append 1 rfl rfl Try.underlying30 elem50 rfl rfl rfl rfl (SrcIs.own 2 rfl) (by rfl) (by first | omega | (have q := hfa k (by omega); omega) | (have q := hfa i (by omega); omega)) (by first | omega | (have q := hfa k (by omega); omega) | (have q := hfa i (by omega); omega)) (fun ao1_ cap1_ => ?_)
          refine SL.itemxs 1 rfl (show _ = cellsOf encNN (out ++ [(i, kk)]) from by rw [cellsOf_append (l := out), cellsOf_one]; rfl) ?_
          refine SL.norm [_, _, _] rfl ?_
          refine SL.addnil 50 2 ?_
          refine SL.pure rfl rfl rfl (PureOp.assign rfl) ?_
          refine SL.nil ?_
          refine QX.normal_in ?_
          refine QX.then_ ?_
          refine WC.region ?_
          refine SL.pure rfl rfl rfl (PureOp.move rfl) ?_
          refine SL.pure rfl rfl rfl (PureOp.addN (k := 1) rfl rfl (fun _ => by first | omega | (have q := hfa k (by omega); omega) | (have q := hfa i (by omega); omega))) ?_
          refine SL.pure rfl rfl rfl (PureOp.assign rfl) ?_
          refine SL.nil ?_
          refine QX.round (σ := Nat × List Bool × List (Nat × Nat) × Option Addr × Nat × Nat) (Ef := fun q_ => [(0, 0, .agg #[.slice fao fn fcap, .slice rao rn rcap, .slice u1.ao u1.l.length u1.cap, .slice u2.ao u2.l.length u2.cap]), (1, 0, .slice pao pn pcap), (2, 0, .pointer (some ⟨b1, 0, none⟩)), (9, 0, .agg #[.slice fao fn fcap, .slice rao rn rcap, .slice u1.ao u1.l.length u1.cap, .slice u2.ao u2.l.length u2.cap]), (10, 0, .slice pao pn pcap), (11, 0, .bool (allK (prF fn pl) pl.length)), (12, 0, .bool (!(allK (prF fn pl) pl.length))), (7, 0, .int .i64 ((q_.1 : Nat) : Int)), (6, 0, .slice q_.2.2.2.1 q_.2.2.2.2.2 q_.2.2.2.2.1)]) (Hf := fun q_ => [Item.cells b1 [.slice fao fn fcap, .slice rao rn rcap, .slice u1.ao u1.l.length u1.cap, .slice u2.ao u2.l.length u2.cap] 27, Item.own w0.heap.size q_.2.2.2.1 q_.2.2.2.2.2 q_.2.2.2.2.1 50 2 (cellsOf encNN (q_.2.2.1))]) (I := fun q_ => q_.1 ≤ pn ∧ runP pn (rdF fl pl) (mtF fl pl) q_.1 = some (q_.2.1, q_.2.2.1) ∧ q_.2.2.2.2.2 = (q_.2.2.1).length) (μ := fun q_ => pn - q_.1) (s := (i, pd, out, oa, oc, on)) 2 ((i + 1, pd.set kk true, out ++ [(i, kk)], ao1_, cap1_, on + 1)) ⟨⟨(by first | omega | (dsimp only; omega)), runP_pair hr h3.1 hpi (fun j q1 q2 => hk1 j q1 q2) hk0.1 (by omega) hk2, by rw [List.length_append, hon]; rfl⟩, by first | omega | (dsimp only; omega)⟩ ⟨rfl, rfl, rfl, rfl, rfl, rfl, rfl, rfl, rfl, rfl, rfl, rfl, rfl, rfl, rfl, rfl, rfl, rfl, trivial⟩ rfl
    · try simp only [Bool.and_eq_true, Bool.or_eq_true, Bool.not_eq_true', Bool.not_eq_false', Bool.and_eq_false_iff, Bool.or_eq_false_iff, decide_eq_true_eq, decide_eq_false_iff_not, Int.not_lt, Int.not_le, ne_eq, Decidable.not_not] at h2
      refine WC.exit ?_
      refine QX.exit_then ?_
      refine QX.exit_then ?_
      refine QX.exit_hit ?_
      refine QX.then_ ?_
      refine WC.seq ?_
      refine WC.region ?_
      refine SL.pure rfl rfl rfl (PureOp.move rfl) ?_
      refine SL.pure rfl rfl rfl (PureOp.assign rfl) ?_
      refine SL.pure rfl rfl rfl (PureOp.assign rfl) ?_
      refine SL.nil_then ?_
      refine WC.ret ?_
      refine QX.ret2 rfl rfl rfl ?_
      intro w hw
      obtain rfl : i = pn := by omega
      subst hon
      rw [resP_some h1 hr]
      exact ⟨_, _, rfl, hw.mem (i := 1) rfl⟩

set_option maxHeartbeats 4000000 in
set_option maxRecDepth 100000 in
theorem same_ok (x : List (Nat × Nat)) (a1 a2 : Option Addr) (n c1 c2 : Nat) (hn : n = x.length) (w0 : World) (hz1 : SliceIn w0 2 a1 n c1 (rowsF encNN x)) (hz2 : SliceIn w0 2 a2 n c2 (rowsF encNN x)) (hnb : n ≤ 1000) : FnC Try.prog 10 [.slice a1 n c1, .slice a2 n c2] w0 fun v w' => v = .bool true := by
  refine fnc (N := 26) Try.func10 rfl rfl rfl ?_
  refine WC.seq ?_
  refine WC.region ?_
  refine SL.pure rfl rfl rfl (PureOp.assign rfl) ?_
  refine SL.nil_then ?_
  refine WC.seq ?_
  refine WC.seq ?_
  refine WC.region ?_
  refine SL.pure rfl rfl rfl (PureOp.move rfl) ?_
  refine SL.pure rfl rfl rfl (PureOp.len rfl Try.underlying30) ?_
  refine SL.pure rfl rfl rfl (PureOp.move rfl) ?_
  refine SL.pure rfl rfl rfl (PureOp.len rfl Try.underlying30) ?_
  refine SL.pure rfl rfl rfl (PureOp.neq rfl rfl) ?_
  refine SL.nil_then ?_
  refine WC.cond rfl (fun h1 => ?_) (fun h1 => ?_)
  · try simp only [Bool.and_eq_true, Bool.or_eq_true, Bool.not_eq_true', Bool.not_eq_false', Bool.and_eq_false_iff, Bool.or_eq_false_iff, decide_eq_true_eq, decide_eq_false_iff_not, Int.not_lt, Int.not_le, ne_eq, Decidable.not_not] at h1
    refine WC.seq ?_
    refine WC.region ?_
    refine SL.pure rfl rfl rfl (PureOp.assign rfl) ?_
    refine SL.nil_then ?_
    refine WC.ret ?_
    refine QX.ret_then ?_
    refine QX.ret1 rfl rfl ?_
    intro w hw
    first | rfl | (exfalso; omega) | (rw [eqB_refl (ks := [0, 0]) rfl] at h3; cases h3) | (exfalso; simp_all)
  · try simp only [Bool.and_eq_true, Bool.or_eq_true, Bool.not_eq_true', Bool.not_eq_false', Bool.and_eq_false_iff, Bool.or_eq_false_iff, decide_eq_true_eq, decide_eq_false_iff_not, Int.not_lt, Int.not_le, ne_eq, Decidable.not_not] at h1
    refine WC.skip ?_
    refine QX.then_ ?_
    refine WC.seq ?_
    refine WC.seq ?_
    refine WC.region ?_
    refine SL.pure rfl rfl rfl (PureOp.assign rfl) ?_
    refine SL.nil_then ?_
    refine WC.block ?_
    refine WC.loop (σ := Nat) (fun q_ => [(0, 0, .slice a1 n c1), (1, 0, .slice a2 n c2), (6, 0, .slice a1 n c1), (7, 0, .int .i64 ((n : Nat) : Int)), (8, 0, .slice a2 n c2), (9, 0, .int .i64 ((n : Nat) : Int)), (10, 0, .bool (decide (((n : Nat) : Int) ≠ ((n : Nat) : Int)))), (5, 0, .int .i64 ((q_ : Nat) : Int))]) (fun q_ => []) (fun q_ => q_ ≤ n) (fun q_ => n - q_) 0 (0) (Nat.zero_le _) ⟨rfl, rfl, rfl, rfl, rfl, rfl, rfl, rfl, rfl, rfl, rfl, rfl, rfl, rfl, rfl, rfl, trivial⟩ rfl ?_
    rintro k hk
    refine WC.seq ?_
    refine WC.seq ?_
    refine WC.region ?_
    refine SL.pure rfl rfl rfl (PureOp.move rfl) ?_
    refine SL.pure rfl rfl rfl (PureOp.move rfl) ?_
    refine SL.pure rfl rfl rfl (PureOp.len rfl Try.underlying30) ?_
    refine SL.pure rfl rfl rfl (PureOp.lss rfl rfl) ?_
    refine SL.nil_then ?_
    refine WC.cond rfl (fun h2 => ?_) (fun h2 => ?_)
    · try simp only [Bool.and_eq_true, Bool.or_eq_true, Bool.not_eq_true', Bool.not_eq_false', Bool.and_eq_false_iff, Bool.or_eq_false_iff, decide_eq_true_eq, decide_eq_false_iff_not, Int.not_lt, Int.not_le, ne_eq, Decidable.not_not] at h2
      refine WC.skip ?_
      refine QX.then_ ?_
      refine WC.seq ?_
      refine WC.block ?_
      refine WC.seq ?_
      refine WC.quiet rfl (by kernel_rfl) ?_
      refine SQ.pure rfl rfl rfl (PureOp.move rfl) ?_
      refine SQ.pure rfl rfl rfl (PureOp.move rfl) ?_
      refine SQ.pure rfl rfl rfl (PureOp.indexAddrN Try.underlying30 sz50 rfl rfl (AoOk.in_ hz1) (fun _ => by omega)) ?_
      refine SQ.pure rfl rfl rfl (PureOp.loads (vs := [.int .i64 ((nth x k).1 : Int), .int .i64 ((nth x k).2 : Int)]) Try.underlying50 rfl rfl (fun _ => (RowIs.in_ hz1 k 0 2 (by omega) (by omega))) sz50) ?_
      refine SQ.pure rfl rfl rfl (PureOp.move rfl) ?_
      refine SQ.pure rfl rfl rfl (PureOp.move rfl) ?_
      refine SQ.pure rfl rfl rfl (PureOp.indexAddrN Try.underlying30 sz50 rfl rfl (AoOk.in_ hz2) (fun _ => by omega)) ?_
      refine SQ.pure rfl rfl rfl (PureOp.loads (vs := [.int .i64 ((nth x k).1 : Int), .int .i64 ((nth x k).2 : Int)]) Try.underlying50 rfl rfl (fun _ => (RowIs.in_ hz2 k 0 2 (by omega) (by omega))) sz50) ?_
      refine SQ.pure rfl rfl rfl (PureOp.neqa rfl rfl flat50 rfl) ?_
      refine SQ.nil_then ?_
      refine WC.cond rfl (fun h3 => ?_) (fun h3 => ?_)
      · try simp only [Bool.and_eq_true, Bool.or_eq_true, Bool.not_eq_true', Bool.not_eq_false', Bool.and_eq_false_iff, Bool.or_eq_false_iff, decide_eq_true_eq, decide_eq_false_iff_not, Int.not_lt, Int.not_le, ne_eq, Decidable.not_not] at h3
        refine WC.seq ?_
        refine WC.region ?_
        refine SL.pure rfl rfl rfl (PureOp.assign rfl) ?_
        refine SL.nil_then ?_
        refine WC.ret ?_
        refine QX.ret_in ?_
        refine QX.ret_then ?_
        refine QX.ret_then ?_
        refine QX.ret_in ?_
        refine QX.ret_then ?_
        refine QX.ret1 rfl rfl ?_
        intro w hw
        first | rfl | (exfalso; omega) | (rw [eqB_refl (ks := [0, 0]) rfl] at h3; cases h3) | (exfalso; simp_all)
      · try simp only [Bool.and_eq_true, Bool.or_eq_true, Bool.not_eq_true', Bool.not_eq_false', Bool.and_eq_false_iff, Bool.or_eq_false_iff, decide_eq_true_eq, decide_eq_false_iff_not, Int.not_lt, Int.not_le, ne_eq, Decidable.not_not] at h3
        refine WC.skip ?_
        refine QX.normal_in ?_
        refine QX.then_ ?_
        refine WC.region ?_
        refine SL.pure rfl rfl rfl (PureOp.move rfl) ?_
        refine SL.pure rfl rfl rfl (PureOp.addN (k := 1) rfl rfl (fun _ => by omega)) ?_
        refine SL.pure rfl rfl rfl (PureOp.assign rfl) ?_
        refine SL.nil ?_
        refine QX.round 0 (k + 1) ⟨(by first | omega | (dsimp only; omega)), by first | omega | (dsimp only; omega)⟩ ⟨rfl, rfl, rfl, rfl, rfl, rfl, rfl, rfl, rfl, rfl, rfl, rfl, rfl, rfl, rfl, rfl, trivial⟩ rfl
    · try simp only [Bool.and_eq_true, Bool.or_eq_true, Bool.not_eq_true', Bool.not_eq_false', Bool.and_eq_false_iff, Bool.or_eq_false_iff, decide_eq_true_eq, decide_eq_false_iff_not, Int.not_lt, Int.not_le, ne_eq, Decidable.not_not] at h2
      refine WC.exit ?_
      refine QX.exit_then ?_
      refine QX.exit_then ?_
      refine QX.exit_hit ?_
      refine QX.then_ ?_
      refine WC.seq ?_
      refine WC.region ?_
      refine SL.pure rfl rfl rfl (PureOp.assign rfl) ?_
      refine SL.nil_then ?_
      refine WC.ret ?_
      refine QX.ret1 rfl rfl ?_
      intro w hw
      first | rfl | (exfalso; omega) | (rw [eqB_refl (ks := [0, 0]) rfl] at h3; cases h3) | (exfalso; simp_all)

end Go.Proofs.Ytblmafknmeicfaa
