import Derived.Test.YtblmafknmeicfaaPrE
namespace Go.Proofs.Ytblmafknmeicfaa
open Go Go.RowKit Eng
set_option linter.unusedVariables false
set_option linter.unusedSimpArgs false

theorem run_up {n : Nat} {rd : Nat → Bool} {mt : Nat → Nat → Bool} {pd : List Bool} {out : List (Nat × Nat)} (R : RunIs n rd mt n pd out) {k : Nat} (hk : k < out.length) (h0 : 0 < k) : (nth out (k - 1)).1 < (nth out k).1 := by
  have := R.up (k - 1) (by omega)
  rwa [show k - 1 + 1 = k by omega] at this
theorem once_B {fl : List Fa} {pl : List Pt} {n i c : Nat} {pd : List Bool} {out : List (Nat × Nat)} (R : RunIs n (rdF fl pl) (mtF fl pl) n pd out) (hi : i < n) (hc : c = cntK i out out.length) : c = if (fareX fl pl i).2.2.2.2.2.1 = true then 1 else 0 := by
  rw [hc, cntK_all, once_cnt R hi]; rfl
theorem once_no {r : Bool} {c : Nat} (h : c = if r = true then 1 else 0) (h8 : (r == decide ((c : Int) = 1)) = false ∨ 1 < (c : Int)) : False := by
  cases r <;> simp at h <;> subst h <;> simp at h8
theorem pair_no {fl : List Fa} {pl : List Pt} {n k : Nat} {pd : List Bool} {out : List (Nat × Nat)} (R : RunIs n (rdF fl pl) (mtF fl pl) n pd out) (hk : k < out.length)
    (h : ((((fareX fl pl (nth out k).1).2.1.toList == (fareX fl pl (nth out k).2).2.2.1.toList) = false ∨ ((fareX fl pl (nth out k).1).2.2.1.toList == (fareX fl pl (nth out k).2).2.1.toList) = false) ∨ ((fareX fl pl (nth out k).1).1.toList == (fareX fl pl (nth out k).2).1.toList) = false) ∨ 0 < (k : Int) ∧ ((nth out k).1 : Int) ≤ ((nth out ((k : Int) - 1).toNat).1 : Int)) : False := by
  have q := (R.pair _ (nth_mem hk)).2.2.2
  rw [mtF, backB, Bool.and_eq_true, Bool.and_eq_true] at q
  rcases h with ((h | h) | h) | h
  · rw [q.2.1] at h; cases h
  · rw [q.2.2] at h; cases h
  · rw [q.1] at h; cases h
  · have u := run_up R hk (by omega)
    rw [show ((k : Int) - 1).toNat = k - 1 by omega] at h
    omega
set_option maxHeartbeats 4000000 in
set_option maxRecDepth 100000 in
theorem once_law (u1 u2 : SliceV Unit) (fl : List Fa) (rao : Option Addr) (rn rcap : Nat) (fao : Option Addr) (fn fcap : Nat) (hfn : fn = fl.length) (w0 : World) (hf : SliceIn w0 9 fao fn fcap (rowsF enc52 fl)) (pl : List Pt) (pao : Option Addr) (pn pcap : Nat) (hpn : pn = pl.length) (hp : SliceIn w0 4 pao pn pcap (rowsF enc42 pl)) : FnC Try.prog 6 [.agg #[.slice fao fn fcap, .slice rao rn rcap, .slice u1.ao u1.l.length u1.cap, .slice u2.ao u2.l.length u2.cap], .slice pao pn pcap] w0 fun v w' => v = .bool true := by
  have hfm : (fn : Int) ≤ 9223372036854775807 := by
    have q1 := hf.le; have q2 := hf.max; simp only [maxLen] at q2; omega
  have hpm : (pn : Int) ≤ 9223372036854775807 := by
    have q1 := hp.le; have q2 := hp.max; simp only [maxLen] at q2; omega
  refine fnc (N := 200) Try.func6 rfl rfl rfl ?_
  refine WC.seq ?_
  refine WC.region ?_
  refine SL.box rfl rfl rfl (fun b1 hb1 => ?_)
  refine SL.norm [_] rfl ?_
  refine SL.pure rfl rfl rfl (PureOp.assign rfl) ?_
  refine SL.nil_then ?_
  refine WC.seq ?_
  refine WC.seq ?_
  refine WC.region ?_
  refine SL.pure rfl rfl rfl (PureOp.move rfl) ?_
  refine SL.pure rfl rfl rfl (PureOp.len rfl Try.underlying28) ?_
  refine SL.pure rfl rfl rfl (PureOp.gtr rfl rfl) ?_
  refine SL.pure rfl rfl rfl (PureOp.move rfl) ?_
  refine SL.newg 16 false rfl ?_
  refine SL.gpure (c := 1) rfl rfl rfl rfl rfl rfl rfl (PureOp.fieldAddrT 0 Try.underlying27 rfl sz22 rfl rfl) ?_
  refine SL.gpure (c := 1) rfl rfl rfl rfl rfl rfl rfl (PureOp.load (v := .slice fao fn fcap) Try.underlying22 rfl rfl (fun _ => (CellIs.cells 0 rfl rfl))) ?_
  refine SL.gpure (c := 1) rfl rfl rfl rfl rfl rfl rfl (PureOp.len rfl Try.underlying22) ?_
  refine SL.gpure (c := 1) rfl rfl rfl rfl rfl rfl rfl (PureOp.gtr rfl rfl) ?_
  refine SL.pure rfl rfl rfl (PureOp.or_ rfl rfl rfl rfl) ?_
  refine SL.nil_then ?_
  refine WC.cond rfl (fun h1 => ?_) (fun h1 => ?_)
  · try simp only [Bool.and_eq_true, Bool.or_eq_true, Bool.not_eq_true', Bool.not_eq_false', Bool.and_eq_false_iff, Bool.or_eq_false_iff, decide_eq_true_eq, decide_eq_false_iff_not, Int.not_lt, Int.not_le, ne_eq, Decidable.not_not] at h1
    refine WC.seq ?_
    refine WC.region ?_
    refine SL.calle rfl rfl rfl rfl rfl rfl callable7 (fun w hw => knows_ok w) ?_
    refine SL.norm [_] rfl ?_
    refine SL.pure rfl rfl rfl (PureOp.assign rfl) ?_
    refine SL.nil_then ?_
    refine WC.ret ?_
    refine QX.ret_then ?_
    refine QX.ret1 rfl rfl ?_
    intro w hw
    first | rfl | (exfalso; have q := hfa i (by omega); omega) | (exfalso; have q := R.pair _ (nth_mem (l := out) (i := k) (by omega)); omega) | (exfalso; exact once_no (once_B R (i := i) (by omega) (by rw [hc, show k = out.length from by omega])) h8) | (exfalso; exact pair_no R (by omega) h10)
  · try simp only [Bool.and_eq_true, Bool.or_eq_true, Bool.not_eq_true', Bool.not_eq_false', Bool.and_eq_false_iff, Bool.or_eq_false_iff, decide_eq_true_eq, decide_eq_false_iff_not, Int.not_lt, Int.not_le, ne_eq, Decidable.not_not] at h1
    have hfb : fn ≤ 1000 := by omega
    have hpb : pn ≤ 1000 := by omega
    have hrn2 : (resP (allK (prF fn pl) pl.length) 19 23 pn (rdF fl pl) (mtF fl pl)).2.length ≤ 1000 := by have q := res_len (pr := (allK (prF fn pl) pl.length)) (e1 := 19) (e2 := 23) (n := pn) (rd := rdF fl pl) (mt := mtF fl pl); omega
    refine WC.skip ?_
    refine QX.then_ ?_
    refine WC.seq ?_
    refine WC.region ?_
    refine SL.pure rfl rfl rfl (PureOp.loads (vs := [.slice fao fn fcap, .slice rao rn rcap, .slice u1.ao u1.l.length u1.cap, .slice u2.ao u2.l.length u2.cap]) Try.underlying27 rfl rfl (fun _ => (RowIs.cells 0 0 4 rfl rfl)) sz27) ?_
    refine SL.pure rfl rfl rfl (PureOp.move rfl) ?_
    refine SL.callo (fun ya yc => .tuple #[.slice ya ((resP (allK (prF fn pl) pl.length) 19 23 pn (rdF fl pl) (mtF fl pl)).2.length) yc, .int .i64 ((resP (allK (prF fn pl) pl.length) 19 23 pn (rdF fl pl) (mtF fl pl)).1)]) rfl rfl rfl rfl rfl rfl callable8 (fun w hw => pairs_ok u1 u2 fl rao rn rcap fao fn fcap hfn w (hf.below hw.below) hfb pl pao pn pcap hpn (hp.below hw.below) hpb) (fun ya yc => ?_)
    refine SL.norm [_, _] rfl ?_
    refine SL.pure rfl rfl rfl (PureOp.move rfl) ?_
    refine SL.pure rfl rfl rfl (PureOp.extract rfl rfl) ?_
    refine SL.pure rfl rfl rfl (PureOp.extract rfl rfl) ?_
    refine SL.pure rfl rfl rfl (PureOp.assign rfl) ?_
    refine SL.pure rfl rfl rfl (PureOp.assign rfl) ?_
    refine SL.nil_then ?_
    refine WC.seq ?_
    refine WC.seq ?_
    refine WC.region ?_
    refine SL.pure rfl rfl rfl (PureOp.move rfl) ?_
    refine SL.pure rfl rfl rfl (PureOp.neq rfl rfl) ?_
    refine SL.nil_then ?_
    refine WC.cond rfl (fun h2 => ?_) (fun h2 => ?_)
    · try simp only [Bool.and_eq_true, Bool.or_eq_true, Bool.not_eq_true', Bool.not_eq_false', Bool.and_eq_false_iff, Bool.or_eq_false_iff, decide_eq_true_eq, decide_eq_false_iff_not, Int.not_lt, Int.not_le, ne_eq, Decidable.not_not] at h2
      refine WC.seq ?_
      refine WC.region ?_
      refine SL.pure rfl rfl rfl (PureOp.move rfl) ?_
      refine SL.pure rfl rfl rfl (PureOp.len rfl Try.underlying30) ?_
      refine SL.pure rfl rfl rfl (PureOp.eql rfl rfl) ?_
      refine SL.lit 33 true rfl (decide_eq_true (by have q := res_nil h2; omega)) ?_
      refine SL.pure rfl rfl rfl (PureOp.move rfl) ?_
      refine SL.ung rfl rfl rfl rfl ?_
      refine SL.calle rfl rfl rfl rfl rfl rfl callable7 (fun w hw => knows_ok w) ?_
      refine SL.norm [_, _] rfl ?_
      refine SL.pure rfl rfl rfl (PureOp.pickT rfl rfl) ?_
      refine SL.pure rfl rfl rfl (PureOp.assign rfl) ?_
      refine SL.nil_then ?_
      refine WC.ret ?_
      refine QX.ret_then ?_
      refine QX.ret1 rfl rfl ?_
      intro w hw
      first | rfl | (exfalso; have q := hfa i (by omega); omega) | (exfalso; have q := R.pair _ (nth_mem (l := out) (i := k) (by omega)); omega) | (exfalso; exact once_no (once_B R (i := i) (by omega) (by rw [hc, show k = out.length from by omega])) h8) | (exfalso; exact pair_no R (by omega) h10)
    · try simp only [Bool.and_eq_true, Bool.or_eq_true, Bool.not_eq_true', Bool.not_eq_false', Bool.and_eq_false_iff, Bool.or_eq_false_iff, decide_eq_true_eq, decide_eq_false_iff_not, Int.not_lt, Int.not_le, ne_eq, Decidable.not_not] at h2
      have hres := res_run (by decide) (by decide) h2
      obtain ⟨hpr, pd, R⟩ := hres
      have hfa : ∀ j, j < pn → 0 ≤ (nth pl j).2.2.1 ∧ (nth pl j).2.2.1 < fn := fun j hj => priced_at hpr (by omega)
      obtain ⟨out, hout⟩ : ∃ o, o = (resP (allK (prF fn pl) pl.length) 19 23 pn (rdF fl pl) (mtF fl pl)).2 := ⟨_, rfl⟩
      rw [← hout] at R hrn2
      rw [← hout]
      refine WC.skip ?_
      refine QX.then_ ?_
      refine WC.seq ?_
      refine WC.seq ?_
      refine WC.region ?_
      refine SL.pure rfl rfl rfl (PureOp.assign rfl) ?_
      refine SL.nil_then ?_
      refine WC.block ?_
      refine WC.loop (σ := Nat) (fun q_ => [(0, 0, .agg #[.slice fao fn fcap, .slice rao rn rcap, .slice u1.ao u1.l.length u1.cap, .slice u2.ao u2.l.length u2.cap]), (1, 0, .slice pao pn pcap), (2, 0, .pointer (some ⟨b1, 0, none⟩)), (5, 0, .slice ya out.length yc), (6, 0, .int .i64 ((resP (allK (prF fn pl) pl.length) 19 23 pn (rdF fl pl) (mtF fl pl)).1)), (13, 0, .slice pao pn pcap), (14, 0, .int .i64 ((pn : Nat) : Int)), (15, 0, .bool (decide (40 < ((pn : Nat) : Int)))), (16, 0, .bool (decide (40 < ((pn : Nat) : Int)))), (21, 0, .bool ((decide (40 < ((pn : Nat) : Int))) || (decide (200 < ((fn : Nat) : Int))))), (23, 0, .tuple #[.slice ya out.length yc, .int .i64 ((resP (allK (prF fn pl) pl.length) 19 23 pn (rdF fl pl) (mtF fl pl)).1)]), (24, 0, .agg #[.slice fao fn fcap, .slice rao rn rcap, .slice u1.ao u1.l.length u1.cap, .slice u2.ao u2.l.length u2.cap]), (25, 0, .slice pao pn pcap), (26, 0, .tuple #[.slice ya out.length yc, .int .i64 ((resP (allK (prF fn pl) pl.length) 19 23 pn (rdF fl pl) (mtF fl pl)).1)]), (27, 0, .slice ya out.length yc), (28, 0, .int .i64 ((resP (allK (prF fn pl) pl.length) 19 23 pn (rdF fl pl) (mtF fl pl)).1)), (29, 0, .int .i64 ((resP (allK (prF fn pl) pl.length) 19 23 pn (rdF fl pl) (mtF fl pl)).1)), (30, 0, .bool (decide ((resP (allK (prF fn pl) pl.length) 19 23 pn (rdF fl pl) (mtF fl pl)).1 ≠ 0))), (7, 0, .int .i64 ((q_ : Nat) : Int))]) (fun q_ => [Item.cells b1 [.slice fao fn fcap, .slice rao rn rcap, .slice u1.ao u1.l.length u1.cap, .slice u2.ao u2.l.length u2.cap] 27, Item.own w0.heap.size ya out.length yc 50 2 (cellsOf encNN out)]) (fun q_ => q_ ≤ pn) (fun q_ => pn - q_) 2 (0) (Nat.zero_le _) ⟨rfl, rfl, rfl, rfl, rfl, rfl, rfl, rfl, rfl, rfl, rfl, rfl, rfl, rfl, rfl, rfl, rfl, rfl, rfl, rfl, rfl, rfl, rfl, rfl, rfl, rfl, rfl, rfl, rfl, rfl, rfl, rfl, rfl, rfl, rfl, rfl, rfl, rfl, trivial⟩ rfl ?_
      rintro i hi
      refine WC.seq ?_
      refine WC.seq ?_
      refine WC.region ?_
      refine SL.pure rfl rfl rfl (PureOp.move rfl) ?_
      refine SL.pure rfl rfl rfl (PureOp.move rfl) ?_
      refine SL.pure rfl rfl rfl (PureOp.len rfl Try.underlying28) ?_
      refine SL.pure rfl rfl rfl (PureOp.lss rfl rfl) ?_
      refine SL.nil_then ?_
      refine WC.cond rfl (fun h3 => ?_) (fun h3 => ?_)
      · try simp only [Bool.and_eq_true, Bool.or_eq_true, Bool.not_eq_true', Bool.not_eq_false', Bool.and_eq_false_iff, Bool.or_eq_false_iff, decide_eq_true_eq, decide_eq_false_iff_not, Int.not_lt, Int.not_le, ne_eq, Decidable.not_not] at h3
        refine WC.skip ?_
        refine QX.then_ ?_
        refine WC.seq ?_
        refine WC.block ?_
        refine WC.seq ?_
        refine WC.seq ?_
        refine WC.quiet rfl (by kernel_rfl) ?_
        refine SQ.pure rfl rfl rfl (PureOp.move rfl) ?_
        refine SQ.pure rfl rfl rfl (PureOp.move rfl) ?_
        refine SQ.pure rfl rfl rfl (PureOp.indexAddrN Try.underlying28 sz42 rfl rfl (AoOk.in_ hp) (fun _ => by first | omega | (have q := hfa i (by omega); omega) | (have q := R.pair _ (nth_mem (l := out) (i := k) (by omega)); omega) | (have q := R.pair _ (nth_mem (l := out) (i := k) (by omega)); have q2 := hfa ((nth out k).1 : Int).toNat (by omega); have q3 := hfa ((nth out k).2 : Int).toNat (by omega); omega))) ?_
        refine SQ.pure rfl rfl rfl (PureOp.fieldAddr 2 Try.underlying42 rfl rfl sz3 rfl) ?_
        refine SQ.pure rfl rfl rfl (PureOp.load (v := .int .i64 ((nth pl i).2.2.1)) Try.underlying3 rfl rfl (fun _ => (CellIs.in_ hp i 2 (by first | omega | (have q := hfa i (by omega); omega) | (have q := R.pair _ (nth_mem (l := out) (i := k) (by omega)); omega) | (have q := R.pair _ (nth_mem (l := out) (i := k) (by omega)); have q2 := hfa ((nth out k).1 : Int).toNat (by omega); have q3 := hfa ((nth out k).2 : Int).toNat (by omega); omega)) (by omega)))) ?_
        refine SQ.pure rfl rfl rfl (PureOp.lss rfl rfl) ?_
        refine SQ.pure rfl rfl rfl (PureOp.move rfl) ?_
        refine SQ.newg 49 false rfl ?_
        refine SQ.gpure (c := 1) rfl rfl rfl rfl rfl rfl rfl (PureOp.move rfl) ?_
        refine SQ.gpure (c := 1) rfl rfl rfl rfl rfl rfl rfl (PureOp.move rfl) ?_
        refine SQ.gpure (c := 1) rfl rfl rfl rfl rfl rfl rfl (PureOp.indexAddrN Try.underlying28 sz42 rfl rfl (AoOk.in_ hp) (by intro hg; simp [gval] at hg; first | omega | (have q := hfa i (by omega); omega) | (have q := R.pair _ (nth_mem (l := out) (i := k) (by omega)); omega) | (have q := R.pair _ (nth_mem (l := out) (i := k) (by omega)); have q2 := hfa ((nth out k).1 : Int).toNat (by omega); have q3 := hfa ((nth out k).2 : Int).toNat (by omega); omega))) ?_
        refine SQ.gpure (c := 1) rfl rfl rfl rfl rfl rfl rfl (PureOp.fieldAddr 2 Try.underlying42 rfl rfl sz3 rfl) ?_
        refine SQ.gpure (c := 1) rfl rfl rfl rfl rfl rfl rfl (PureOp.load (v := .int .i64 ((nth pl i).2.2.1)) Try.underlying3 rfl rfl (by intro hg; simp [gval] at hg; exact (CellIs.in_ hp i 2 (by first | omega | (have q := hfa i (by omega); omega) | (have q := R.pair _ (nth_mem (l := out) (i := k) (by omega)); omega) | (have q := R.pair _ (nth_mem (l := out) (i := k) (by omega)); have q2 := hfa ((nth out k).1 : Int).toNat (by omega); have q3 := hfa ((nth out k).2 : Int).toNat (by omega); omega)) (by omega)))) ?_
        refine SQ.gpure (c := 1) rfl rfl rfl rfl rfl rfl rfl (PureOp.fieldAddrT 0 Try.underlying27 rfl sz22 rfl rfl) ?_
        refine SQ.gpure (c := 1) rfl rfl rfl rfl rfl rfl rfl (PureOp.load (v := .slice fao fn fcap) Try.underlying22 rfl rfl (fun _ => (CellIs.cells 0 rfl rfl))) ?_
        refine SQ.gpure (c := 1) rfl rfl rfl rfl rfl rfl rfl (PureOp.len rfl Try.underlying22) ?_
        refine SQ.gpure (c := 1) rfl rfl rfl rfl rfl rfl rfl (PureOp.geq rfl rfl) ?_
        refine SQ.pure rfl rfl rfl (PureOp.or_ rfl rfl rfl rfl) ?_
        refine SQ.nil_then ?_
        refine WC.cond rfl (fun h4 => ?_) (fun h4 => ?_)
        · try simp only [Bool.and_eq_true, Bool.or_eq_true, Bool.not_eq_true', Bool.not_eq_false', Bool.and_eq_false_iff, Bool.or_eq_false_iff, decide_eq_true_eq, decide_eq_false_iff_not, Int.not_lt, Int.not_le, ne_eq, Decidable.not_not] at h4
          refine WC.seq ?_
          refine WC.region ?_
          refine SL.pure rfl rfl rfl (PureOp.assign rfl) ?_
          refine SL.nil_then ?_
          refine WC.ret ?_
          refine QX.ret_then ?_
          refine QX.ret_in ?_
          refine QX.ret_then ?_
          refine QX.ret_then ?_
          refine QX.ret_in ?_
          refine QX.ret_then ?_
          refine QX.ret1 rfl rfl ?_
          intro w hw
          first | rfl | (exfalso; have q := hfa i (by omega); omega) | (exfalso; have q := R.pair _ (nth_mem (l := out) (i := k) (by omega)); omega) | (exfalso; exact once_no (once_B R (i := i) (by omega) (by rw [hc, show k = out.length from by omega])) h8) | (exfalso; exact pair_no R (by omega) h10)
        · try simp only [Bool.and_eq_true, Bool.or_eq_true, Bool.not_eq_true', Bool.not_eq_false', Bool.and_eq_false_iff, Bool.or_eq_false_iff, decide_eq_true_eq, decide_eq_false_iff_not, Int.not_lt, Int.not_le, ne_eq, Decidable.not_not] at h4
          refine WC.skip ?_
          refine QX.then_ ?_
          refine WC.seq ?_
          refine WC.region ?_
          refine SL.pure rfl rfl rfl (PureOp.assign rfl) ?_
          refine SL.nil_then ?_
          refine WC.seq ?_
          refine WC.seq ?_
          refine WC.region ?_
          refine SL.pure rfl rfl rfl (PureOp.assign rfl) ?_
          refine SL.nil_then ?_
          refine WC.block ?_
          refine WC.loop (σ := Nat × Nat) (fun q_ => [(0, 0, .agg #[.slice fao fn fcap, .slice rao rn rcap, .slice u1.ao u1.l.length u1.cap, .slice u2.ao u2.l.length u2.cap]), (1, 0, .slice pao pn pcap), (2, 0, .pointer (some ⟨b1, 0, none⟩)), (5, 0, .slice ya out.length yc), (6, 0, .int .i64 ((resP (allK (prF fn pl) pl.length) 19 23 pn (rdF fl pl) (mtF fl pl)).1)), (7, 0, .int .i64 ((i : Nat) : Int)), (13, 0, .slice pao pn pcap), (14, 0, .int .i64 ((pn : Nat) : Int)), (15, 0, .bool (decide (40 < ((pn : Nat) : Int)))), (16, 0, .bool (decide (40 < ((pn : Nat) : Int)))), (21, 0, .bool ((decide (40 < ((pn : Nat) : Int))) || (decide (200 < ((fn : Nat) : Int))))), (23, 0, .tuple #[.slice ya out.length yc, .int .i64 ((resP (allK (prF fn pl) pl.length) 19 23 pn (rdF fl pl) (mtF fl pl)).1)]), (24, 0, .agg #[.slice fao fn fcap, .slice rao rn rcap, .slice u1.ao u1.l.length u1.cap, .slice u2.ao u2.l.length u2.cap]), (25, 0, .slice pao pn pcap), (26, 0, .tuple #[.slice ya out.length yc, .int .i64 ((resP (allK (prF fn pl) pl.length) 19 23 pn (rdF fl pl) (mtF fl pl)).1)]), (27, 0, .slice ya out.length yc), (28, 0, .int .i64 ((resP (allK (prF fn pl) pl.length) 19 23 pn (rdF fl pl) (mtF fl pl)).1)), (29, 0, .int .i64 ((resP (allK (prF fn pl) pl.length) 19 23 pn (rdF fl pl) (mtF fl pl)).1)), (30, 0, .bool (decide ((resP (allK (prF fn pl) pl.length) 19 23 pn (rdF fl pl) (mtF fl pl)).1 ≠ 0))), (37, 0, .int .i64 ((i : Nat) : Int)), (38, 0, .slice pao pn pcap), (39, 0, .int .i64 ((pn : Nat) : Int)), (40, 0, .bool (decide (((i : Nat) : Int) < ((pn : Nat) : Int)))), (43, 0, .slice pao pn pcap), (44, 0, .int .i64 ((i : Nat) : Int)), (45, 0, .pointer (some ⟨blk pao, off pao + i * 4, none⟩)), (46, 0, .pointer (some ⟨blk pao, off pao + i * 4 + 2, none⟩)), (47, 0, .int .i64 ((nth pl i).2.2.1)), (48, 0, .bool (decide ((nth pl i).2.2.1 < 0))), (49, 0, .bool (decide ((nth pl i).2.2.1 < 0))), (59, 0, .bool ((decide ((nth pl i).2.2.1 < 0)) || (decide (((fn : Nat) : Int) ≤ (nth pl i).2.2.1)))), (9, 0, .int .i64 ((q_.1 : Nat) : Int)), (8, 0, .int .i64 ((q_.2 : Nat) : Int))]) (fun q_ => [Item.cells b1 [.slice fao fn fcap, .slice rao rn rcap, .slice u1.ao u1.l.length u1.cap, .slice u2.ao u2.l.length u2.cap] 27, Item.own w0.heap.size ya out.length yc 50 2 (cellsOf encNN out)]) (fun q_ => q_.1 ≤ out.length ∧ q_.2 = cntK i out q_.1) (fun q_ => out.length - q_.1) 2 ((0, 0)) (⟨Nat.zero_le _, rfl⟩) ⟨rfl, rfl, rfl, rfl, rfl, rfl, rfl, rfl, rfl, rfl, rfl, rfl, rfl, rfl, rfl, rfl, rfl, rfl, rfl, rfl, rfl, rfl, rfl, rfl, rfl, rfl, rfl, rfl, rfl, rfl, rfl, rfl, rfl, rfl, rfl, rfl, rfl, rfl, rfl, rfl, rfl, rfl, rfl, rfl, rfl, rfl, rfl, rfl, rfl, rfl, rfl, rfl, rfl, rfl, rfl, rfl, rfl, rfl, rfl, rfl, rfl, rfl, rfl, rfl, rfl, rfl, trivial⟩ rfl ?_
          rintro ⟨k, c⟩ ⟨hk, hc⟩
          try dsimp only at *
          refine WC.seq ?_
          refine WC.seq ?_
          refine WC.region ?_
          refine SL.pure rfl rfl rfl (PureOp.move rfl) ?_
          refine SL.pure rfl rfl rfl (PureOp.move rfl) ?_
          refine SL.pure rfl rfl rfl (PureOp.len rfl Try.underlying30) ?_
          refine SL.pure rfl rfl rfl (PureOp.lss rfl rfl) ?_
          refine SL.nil_then ?_
          refine WC.cond rfl (fun h5 => ?_) (fun h5 => ?_)
          · try simp only [Bool.and_eq_true, Bool.or_eq_true, Bool.not_eq_true', Bool.not_eq_false', Bool.and_eq_false_iff, Bool.or_eq_false_iff, decide_eq_true_eq, decide_eq_false_iff_not, Int.not_lt, Int.not_le, ne_eq, Decidable.not_not] at h5
            have hcl := cntK_le (j := i) (out := out) k
            refine WC.skip ?_
            refine QX.then_ ?_
            refine WC.seq ?_
            refine WC.block ?_
            refine WC.seq ?_
            refine WC.seq ?_
            refine WC.quiet rfl (by kernel_rfl) ?_
            refine SQ.pure rfl rfl rfl (PureOp.move rfl) ?_
            refine SQ.pure rfl rfl rfl (PureOp.move rfl) ?_
            refine SQ.pure rfl rfl rfl (PureOp.indexAddrN Try.underlying30 sz50 rfl rfl (AoOk.own 1 rfl) (fun _ => by first | omega | (have q := hfa i (by omega); omega) | (have q := R.pair _ (nth_mem (l := out) (i := k) (by omega)); omega) | (have q := R.pair _ (nth_mem (l := out) (i := k) (by omega)); have q2 := hfa ((nth out k).1 : Int).toNat (by omega); have q3 := hfa ((nth out k).2 : Int).toNat (by omega); omega))) ?_
            refine SQ.pure rfl rfl rfl (PureOp.indexAddrA Try.underlying50 sz3 rfl rfl (fun _ => by decide)) ?_
            refine SQ.pure rfl rfl rfl (PureOp.load (v := .int .i64 ((nth out k).1 : Int)) Try.underlying3 rfl rfl (fun _ => (CellIs.ownc 1 rfl k 0 (by exact cellsOf_get encNN_len _ _ _ (by omega) (by decide))))) ?_
            refine SQ.pure rfl rfl rfl (PureOp.move rfl) ?_
            refine SQ.pure rfl rfl rfl (PureOp.move rfl) ?_
            refine SQ.pure rfl rfl rfl (PureOp.indexAddrN Try.underlying30 sz50 rfl rfl (AoOk.own 1 rfl) (fun _ => by first | omega | (have q := hfa i (by omega); omega) | (have q := R.pair _ (nth_mem (l := out) (i := k) (by omega)); omega) | (have q := R.pair _ (nth_mem (l := out) (i := k) (by omega)); have q2 := hfa ((nth out k).1 : Int).toNat (by omega); have q3 := hfa ((nth out k).2 : Int).toNat (by omega); omega))) ?_
            refine SQ.pure rfl rfl rfl (PureOp.indexAddrA Try.underlying50 sz3 rfl rfl (fun _ => by decide)) ?_
            refine SQ.pure rfl rfl rfl (PureOp.load (v := .int .i64 ((nth out k).2 : Int)) Try.underlying3 rfl rfl (fun _ => (CellIs.ownc 1 rfl k 1 (by exact cellsOf_get encNN_len _ _ _ (by omega) (by decide))))) ?_
            refine SQ.pure rfl rfl rfl (PureOp.geq rfl rfl) ?_
            refine SQ.pure rfl rfl rfl (PureOp.move rfl) ?_
            refine SQ.newg 77 false rfl ?_
            refine SQ.gpure (c := 1) rfl rfl rfl rfl rfl rfl rfl (PureOp.move rfl) ?_
            refine SQ.gpure (c := 1) rfl rfl rfl rfl rfl rfl rfl (PureOp.move rfl) ?_
            refine SQ.gpure (c := 1) rfl rfl rfl rfl rfl rfl rfl (PureOp.indexAddrN Try.underlying30 sz50 rfl rfl (AoOk.own 1 rfl) (by intro hg; simp [gval] at hg; first | omega | (have q := hfa i (by omega); omega) | (have q := R.pair _ (nth_mem (l := out) (i := k) (by omega)); omega) | (have q := R.pair _ (nth_mem (l := out) (i := k) (by omega)); have q2 := hfa ((nth out k).1 : Int).toNat (by omega); have q3 := hfa ((nth out k).2 : Int).toNat (by omega); omega))) ?_
            refine SQ.gpure (c := 1) rfl rfl rfl rfl rfl rfl rfl (PureOp.indexAddrA Try.underlying50 sz3 rfl rfl (fun _ => by decide)) ?_
            refine SQ.gpure (c := 1) rfl rfl rfl rfl rfl rfl rfl (PureOp.load (v := .int .i64 ((nth out k).1 : Int)) Try.underlying3 rfl rfl (by intro hg; simp [gval] at hg; exact (CellIs.ownc 1 rfl k 0 (by exact cellsOf_get encNN_len _ _ _ (by omega) (by decide))))) ?_
            refine SQ.gpure (c := 1) rfl rfl rfl rfl rfl rfl rfl (PureOp.lss rfl rfl) ?_
            refine SQ.pure rfl rfl rfl (PureOp.or_ rfl rfl rfl rfl) ?_
            refine SQ.pure rfl rfl rfl (PureOp.move rfl) ?_
            refine SQ.newg 85 false rfl ?_
            refine SQ.gpure (c := 2) rfl rfl rfl rfl rfl rfl rfl (PureOp.move rfl) ?_
            refine SQ.gpure (c := 2) rfl rfl rfl rfl rfl rfl rfl (PureOp.move rfl) ?_
            refine SQ.gpure (c := 2) rfl rfl rfl rfl rfl rfl rfl (PureOp.indexAddrN Try.underlying30 sz50 rfl rfl (AoOk.own 1 rfl) (by intro hg; simp [gval] at hg; first | omega | (have q := hfa i (by omega); omega) | (have q := R.pair _ (nth_mem (l := out) (i := k) (by omega)); omega) | (have q := R.pair _ (nth_mem (l := out) (i := k) (by omega)); have q2 := hfa ((nth out k).1 : Int).toNat (by omega); have q3 := hfa ((nth out k).2 : Int).toNat (by omega); omega))) ?_
            refine SQ.gpure (c := 2) rfl rfl rfl rfl rfl rfl rfl (PureOp.indexAddrA Try.underlying50 sz3 rfl rfl (fun _ => by decide)) ?_
            refine SQ.gpure (c := 2) rfl rfl rfl rfl rfl rfl rfl (PureOp.load (v := .int .i64 ((nth out k).2 : Int)) Try.underlying3 rfl rfl (by intro hg; simp [gval] at hg; exact (CellIs.ownc 1 rfl k 1 (by exact cellsOf_get encNN_len _ _ _ (by omega) (by decide))))) ?_
            refine SQ.gpure (c := 2) rfl rfl rfl rfl rfl rfl rfl (PureOp.move rfl) ?_
            refine SQ.gpure (c := 2) rfl rfl rfl rfl rfl rfl rfl (PureOp.len rfl Try.underlying28) ?_
            refine SQ.gpure (c := 2) rfl rfl rfl rfl rfl rfl rfl (PureOp.geq rfl rfl) ?_
            refine SQ.pure rfl rfl rfl (PureOp.or_ rfl rfl rfl rfl) ?_
            refine SQ.nil_then ?_
            refine WC.cond rfl (fun h6 => ?_) (fun h6 => ?_)
            · try simp only [Bool.and_eq_true, Bool.or_eq_true, Bool.not_eq_true', Bool.not_eq_false', Bool.and_eq_false_iff, Bool.or_eq_false_iff, decide_eq_true_eq, decide_eq_false_iff_not, Int.not_lt, Int.not_le, ne_eq, Decidable.not_not] at h6
              refine WC.seq ?_
              refine WC.region ?_
              refine SL.pure rfl rfl rfl (PureOp.assign rfl) ?_
              refine SL.nil_then ?_
              refine WC.ret ?_
              refine QX.ret_then ?_
              refine QX.ret_in ?_
              refine QX.ret_then ?_
              refine QX.ret_then ?_
              refine QX.ret_in ?_
              refine QX.ret_then ?_
              refine QX.ret_in ?_
              refine QX.ret_then ?_
              refine QX.ret_then ?_
              refine QX.ret_in ?_
              refine QX.ret_then ?_
              refine QX.ret1 rfl rfl ?_
              intro w hw
              first | rfl | (exfalso; have q := hfa i (by omega); omega) | (exfalso; have q := R.pair _ (nth_mem (l := out) (i := k) (by omega)); omega) | (exfalso; exact once_no (once_B R (i := i) (by omega) (by rw [hc, show k = out.length from by omega])) h8) | (exfalso; exact pair_no R (by omega) h10)
            · try simp only [Bool.and_eq_true, Bool.or_eq_true, Bool.not_eq_true', Bool.not_eq_false', Bool.and_eq_false_iff, Bool.or_eq_false_iff, decide_eq_true_eq, decide_eq_false_iff_not, Int.not_lt, Int.not_le, ne_eq, Decidable.not_not] at h6
              refine WC.skip ?_
              refine QX.then_ ?_
              refine WC.seq ?_
              refine WC.region ?_
              refine SL.pure rfl rfl rfl (PureOp.move rfl) ?_
              refine SL.pure rfl rfl rfl (PureOp.move rfl) ?_
              refine SL.pure rfl rfl rfl (PureOp.indexAddrN Try.underlying30 sz50 rfl rfl (AoOk.own 1 rfl) (fun _ => by first | omega | (have q := hfa i (by omega); omega) | (have q := R.pair _ (nth_mem (l := out) (i := k) (by omega)); omega) | (have q := R.pair _ (nth_mem (l := out) (i := k) (by omega)); have q2 := hfa ((nth out k).1 : Int).toNat (by omega); have q3 := hfa ((nth out k).2 : Int).toNat (by omega); omega))) ?_
              refine SL.pure rfl rfl rfl (PureOp.indexAddrA Try.underlying50 sz3 rfl rfl (fun _ => by decide)) ?_
              refine SL.pure rfl rfl rfl (PureOp.load (v := .int .i64 ((nth out k).1 : Int)) Try.underlying3 rfl rfl (fun _ => (CellIs.ownc 1 rfl k 0 (by exact cellsOf_get encNN_len _ _ _ (by omega) (by decide))))) ?_
              refine SL.pure rfl rfl rfl (PureOp.move rfl) ?_
              refine SL.pure rfl rfl rfl (PureOp.eql rfl rfl) ?_
              refine SL.pure rfl rfl rfl (PureOp.move rfl) ?_
              refine SL.newg 102 false rfl ?_
              refine SL.gpure (c := 3) rfl rfl rfl rfl rfl rfl rfl (PureOp.move rfl) ?_
              refine SL.gpure (c := 3) rfl rfl rfl rfl rfl rfl rfl (PureOp.move rfl) ?_
              refine SL.gpure (c := 3) rfl rfl rfl rfl rfl rfl rfl (PureOp.indexAddrN Try.underlying30 sz50 rfl rfl (AoOk.own 1 rfl) (by intro hg; simp [gval] at hg; first | omega | (have q := hfa i (by omega); omega) | (have q := R.pair _ (nth_mem (l := out) (i := k) (by omega)); omega) | (have q := R.pair _ (nth_mem (l := out) (i := k) (by omega)); have q2 := hfa ((nth out k).1 : Int).toNat (by omega); have q3 := hfa ((nth out k).2 : Int).toNat (by omega); omega))) ?_
              refine SL.gpure (c := 3) rfl rfl rfl rfl rfl rfl rfl (PureOp.indexAddrA Try.underlying50 sz3 rfl rfl (fun _ => by decide)) ?_
              refine SL.gpure (c := 3) rfl rfl rfl rfl rfl rfl rfl (PureOp.load (v := .int .i64 ((nth out k).2 : Int)) Try.underlying3 rfl rfl (by intro hg; simp [gval] at hg; exact (CellIs.ownc 1 rfl k 1 (by exact cellsOf_get encNN_len _ _ _ (by omega) (by decide))))) ?_
              refine SL.gpure (c := 3) rfl rfl rfl rfl rfl rfl rfl (PureOp.move rfl) ?_
              refine SL.gpure (c := 3) rfl rfl rfl rfl rfl rfl rfl (PureOp.eql rfl rfl) ?_
              refine SL.pure rfl rfl rfl (PureOp.or_ rfl rfl rfl rfl) ?_
              refine SL.nil_then ?_
              refine WC.cond rfl (fun h7 => ?_) (fun h7 => ?_)
              · try simp only [Bool.and_eq_true, Bool.or_eq_true, Bool.not_eq_true', Bool.not_eq_false', Bool.and_eq_false_iff, Bool.or_eq_false_iff, decide_eq_true_eq, decide_eq_false_iff_not, Int.not_lt, Int.not_le, ne_eq, Decidable.not_not] at h7
                refine WC.region ?_
                refine SL.pure rfl rfl rfl (PureOp.move rfl) ?_
                refine SL.pure rfl rfl rfl (PureOp.addN (k := 1) rfl rfl (fun _ => by first | omega | (have q := hfa i (by omega); omega) | (have q := R.pair _ (nth_mem (l := out) (i := k) (by omega)); omega) | (have q := R.pair _ (nth_mem (l := out) (i := k) (by omega)); have q2 := hfa ((nth out k).1 : Int).toNat (by omega); have q3 := hfa ((nth out k).2 : Int).toNat (by omega); omega))) ?_
                refine SL.pure rfl rfl rfl (PureOp.assign rfl) ?_
                refine SL.nil ?_
                refine QX.normal_in ?_
                refine QX.then_ ?_
                refine WC.region ?_
                refine SL.pure rfl rfl rfl (PureOp.move rfl) ?_
                refine SL.pure rfl rfl rfl (PureOp.addN (k := 1) rfl rfl (fun _ => by first | omega | (have q := hfa i (by omega); omega) | (have q := R.pair _ (nth_mem (l := out) (i := k) (by omega)); omega) | (have q := R.pair _ (nth_mem (l := out) (i := k) (by omega)); have q2 := hfa ((nth out k).1 : Int).toNat (by omega); have q3 := hfa ((nth out k).2 : Int).toNat (by omega); omega))) ?_
                refine SL.pure rfl rfl rfl (PureOp.assign rfl) ?_
                refine SL.nil ?_
                refine QX.round (σ := Nat × Nat) (Ef := fun q_ => [(0, 0, .agg #[.slice fao fn fcap, .slice rao rn rcap, .slice u1.ao u1.l.length u1.cap, .slice u2.ao u2.l.length u2.cap]), (1, 0, .slice pao pn pcap), (2, 0, .pointer (some ⟨b1, 0, none⟩)), (5, 0, .slice ya out.length yc), (6, 0, .int .i64 ((resP (allK (prF fn pl) pl.length) 19 23 pn (rdF fl pl) (mtF fl pl)).1)), (7, 0, .int .i64 ((i : Nat) : Int)), (13, 0, .slice pao pn pcap), (14, 0, .int .i64 ((pn : Nat) : Int)), (15, 0, .bool (decide (40 < ((pn : Nat) : Int)))), (16, 0, .bool (decide (40 < ((pn : Nat) : Int)))), (21, 0, .bool ((decide (40 < ((pn : Nat) : Int))) || (decide (200 < ((fn : Nat) : Int))))), (23, 0, .tuple #[.slice ya out.length yc, .int .i64 ((resP (allK (prF fn pl) pl.length) 19 23 pn (rdF fl pl) (mtF fl pl)).1)]), (24, 0, .agg #[.slice fao fn fcap, .slice rao rn rcap, .slice u1.ao u1.l.length u1.cap, .slice u2.ao u2.l.length u2.cap]), (25, 0, .slice pao pn pcap), (26, 0, .tuple #[.slice ya out.length yc, .int .i64 ((resP (allK (prF fn pl) pl.length) 19 23 pn (rdF fl pl) (mtF fl pl)).1)]), (27, 0, .slice ya out.length yc), (28, 0, .int .i64 ((resP (allK (prF fn pl) pl.length) 19 23 pn (rdF fl pl) (mtF fl pl)).1)), (29, 0, .int .i64 ((resP (allK (prF fn pl) pl.length) 19 23 pn (rdF fl pl) (mtF fl pl)).1)), (30, 0, .bool (decide ((resP (allK (prF fn pl) pl.length) 19 23 pn (rdF fl pl) (mtF fl pl)).1 ≠ 0))), (37, 0, .int .i64 ((i : Nat) : Int)), (38, 0, .slice pao pn pcap), (39, 0, .int .i64 ((pn : Nat) : Int)), (40, 0, .bool (decide (((i : Nat) : Int) < ((pn : Nat) : Int)))), (43, 0, .slice pao pn pcap), (44, 0, .int .i64 ((i : Nat) : Int)), (45, 0, .pointer (some ⟨blk pao, off pao + i * 4, none⟩)), (46, 0, .pointer (some ⟨blk pao, off pao + i * 4 + 2, none⟩)), (47, 0, .int .i64 ((nth pl i).2.2.1)), (48, 0, .bool (decide ((nth pl i).2.2.1 < 0))), (49, 0, .bool (decide ((nth pl i).2.2.1 < 0))), (59, 0, .bool ((decide ((nth pl i).2.2.1 < 0)) || (decide (((fn : Nat) : Int) ≤ (nth pl i).2.2.1)))), (9, 0, .int .i64 ((q_.1 : Nat) : Int)), (8, 0, .int .i64 ((q_.2 : Nat) : Int))]) (Hf := fun q_ => [Item.cells b1 [.slice fao fn fcap, .slice rao rn rcap, .slice u1.ao u1.l.length u1.cap, .slice u2.ao u2.l.length u2.cap] 27, Item.own w0.heap.size ya out.length yc 50 2 (cellsOf encNN out)]) (I := fun q_ => q_.1 ≤ out.length ∧ q_.2 = cntK i out q_.1) (μ := fun q_ => out.length - q_.1) (s := (k, c)) 2 ((k + 1, c + 1)) ⟨⟨(by first | omega | (dsimp only; omega)), by rw [cntK, if_pos (by unfold inB; rw [Bool.or_eq_true, decide_eq_true_iff, decide_eq_true_iff]; omega), hc]⟩, by first | omega | (dsimp only; omega)⟩ ⟨rfl, rfl, rfl, rfl, rfl, rfl, rfl, rfl, rfl, rfl, rfl, rfl, rfl, rfl, rfl, rfl, rfl, rfl, rfl, rfl, rfl, rfl, rfl, rfl, rfl, rfl, rfl, rfl, rfl, rfl, rfl, rfl, rfl, rfl, rfl, rfl, rfl, rfl, rfl, rfl, rfl, rfl, rfl, rfl, rfl, rfl, rfl, rfl, rfl, rfl, rfl, rfl, rfl, rfl, rfl, rfl, rfl, rfl, rfl, rfl, rfl, rfl, rfl, rfl, rfl, rfl, trivial⟩ rfl
              · try simp only [Bool.and_eq_true, Bool.or_eq_true, Bool.not_eq_true', Bool.not_eq_false', Bool.and_eq_false_iff, Bool.or_eq_false_iff, decide_eq_true_eq, decide_eq_false_iff_not, Int.not_lt, Int.not_le, ne_eq, Decidable.not_not] at h7
                refine WC.skip ?_
                refine QX.normal_in ?_
                refine QX.then_ ?_
                refine WC.region ?_
                refine SL.pure rfl rfl rfl (PureOp.move rfl) ?_
                refine SL.pure rfl rfl rfl (PureOp.addN (k := 1) rfl rfl (fun _ => by first | omega | (have q := hfa i (by omega); omega) | (have q := R.pair _ (nth_mem (l := out) (i := k) (by omega)); omega) | (have q := R.pair _ (nth_mem (l := out) (i := k) (by omega)); have q2 := hfa ((nth out k).1 : Int).toNat (by omega); have q3 := hfa ((nth out k).2 : Int).toNat (by omega); omega))) ?_
                refine SL.pure rfl rfl rfl (PureOp.assign rfl) ?_
                refine SL.nil ?_
                refine QX.round (σ := Nat × Nat) (Ef := fun q_ => [(0, 0, .agg #[.slice fao fn fcap, .slice rao rn rcap, .slice u1.ao u1.l.length u1.cap, .slice u2.ao u2.l.length u2.cap]), (1, 0, .slice pao pn pcap), (2, 0, .pointer (some ⟨b1, 0, none⟩)), (5, 0, .slice ya out.length yc), (6, 0, .int .i64 ((resP (allK (prF fn pl) pl.length) 19 23 pn (rdF fl pl) (mtF fl pl)).1)), (7, 0, .int .i64 ((i : Nat) : Int)), (13, 0, .slice pao pn pcap), (14, 0, .int .i64 ((pn : Nat) : Int)), (15, 0, .bool (decide (40 < ((pn : Nat) : Int)))), (16, 0, .bool (decide (40 < ((pn : Nat) : Int)))), (21, 0, .bool ((decide (40 < ((pn : Nat) : Int))) || (decide (200 < ((fn : Nat) : Int))))), (23, 0, .tuple #[.slice ya out.length yc, .int .i64 ((resP (allK (prF fn pl) pl.length) 19 23 pn (rdF fl pl) (mtF fl pl)).1)]), (24, 0, .agg #[.slice fao fn fcap, .slice rao rn rcap, .slice u1.ao u1.l.length u1.cap, .slice u2.ao u2.l.length u2.cap]), (25, 0, .slice pao pn pcap), (26, 0, .tuple #[.slice ya out.length yc, .int .i64 ((resP (allK (prF fn pl) pl.length) 19 23 pn (rdF fl pl) (mtF fl pl)).1)]), (27, 0, .slice ya out.length yc), (28, 0, .int .i64 ((resP (allK (prF fn pl) pl.length) 19 23 pn (rdF fl pl) (mtF fl pl)).1)), (29, 0, .int .i64 ((resP (allK (prF fn pl) pl.length) 19 23 pn (rdF fl pl) (mtF fl pl)).1)), (30, 0, .bool (decide ((resP (allK (prF fn pl) pl.length) 19 23 pn (rdF fl pl) (mtF fl pl)).1 ≠ 0))), (37, 0, .int .i64 ((i : Nat) : Int)), (38, 0, .slice pao pn pcap), (39, 0, .int .i64 ((pn : Nat) : Int)), (40, 0, .bool (decide (((i : Nat) : Int) < ((pn : Nat) : Int)))), (43, 0, .slice pao pn pcap), (44, 0, .int .i64 ((i : Nat) : Int)), (45, 0, .pointer (some ⟨blk pao, off pao + i * 4, none⟩)), (46, 0, .pointer (some ⟨blk pao, off pao + i * 4 + 2, none⟩)), (47, 0, .int .i64 ((nth pl i).2.2.1)), (48, 0, .bool (decide ((nth pl i).2.2.1 < 0))), (49, 0, .bool (decide ((nth pl i).2.2.1 < 0))), (59, 0, .bool ((decide ((nth pl i).2.2.1 < 0)) || (decide (((fn : Nat) : Int) ≤ (nth pl i).2.2.1)))), (9, 0, .int .i64 ((q_.1 : Nat) : Int)), (8, 0, .int .i64 ((q_.2 : Nat) : Int))]) (Hf := fun q_ => [Item.cells b1 [.slice fao fn fcap, .slice rao rn rcap, .slice u1.ao u1.l.length u1.cap, .slice u2.ao u2.l.length u2.cap] 27, Item.own w0.heap.size ya out.length yc 50 2 (cellsOf encNN out)]) (I := fun q_ => q_.1 ≤ out.length ∧ q_.2 = cntK i out q_.1) (μ := fun q_ => out.length - q_.1) (s := (k, c)) 2 ((k + 1, c)) ⟨⟨(by first | omega | (dsimp only; omega)), by rw [cntK, if_neg (by unfold inB; rw [Bool.or_eq_true, decide_eq_true_iff, decide_eq_true_iff]; omega), hc]; rfl⟩, by first | omega | (dsimp only; omega)⟩ ⟨rfl, rfl, rfl, rfl, rfl, rfl, rfl, rfl, rfl, rfl, rfl, rfl, rfl, rfl, rfl, rfl, rfl, rfl, rfl, rfl, rfl, rfl, rfl, rfl, rfl, rfl, rfl, rfl, rfl, rfl, rfl, rfl, rfl, rfl, rfl, rfl, rfl, rfl, rfl, rfl, rfl, rfl, rfl, rfl, rfl, rfl, rfl, rfl, rfl, rfl, rfl, rfl, rfl, rfl, rfl, rfl, rfl, rfl, rfl, rfl, rfl, rfl, rfl, rfl, rfl, rfl, trivial⟩ rfl
          · try simp only [Bool.and_eq_true, Bool.or_eq_true, Bool.not_eq_true', Bool.not_eq_false', Bool.and_eq_false_iff, Bool.or_eq_false_iff, decide_eq_true_eq, decide_eq_false_iff_not, Int.not_lt, Int.not_le, ne_eq, Decidable.not_not] at h5
            refine WC.exit ?_
            refine QX.exit_then ?_
            refine QX.exit_then ?_
            refine QX.exit_hit ?_
            refine QX.then_ ?_
            refine WC.seq ?_
            refine WC.quiet rfl (by kernel_rfl) ?_
            refine SQ.pure rfl rfl rfl (PureOp.fieldAddrT 0 Try.underlying27 rfl sz22 rfl rfl) ?_
            refine SQ.pure rfl rfl rfl (PureOp.load (v := .slice fao fn fcap) Try.underlying22 rfl rfl (fun _ => (CellIs.cells 0 rfl rfl))) ?_
            refine SQ.pure rfl rfl rfl (PureOp.move rfl) ?_
            refine SQ.pure rfl rfl rfl (PureOp.move rfl) ?_
            refine SQ.pure rfl rfl rfl (PureOp.indexAddrN Try.underlying28 sz42 rfl rfl (AoOk.in_ hp) (fun _ => by first | omega | (have q := hfa i (by omega); omega) | (have q := R.pair _ (nth_mem (l := out) (i := k) (by omega)); omega) | (have q := R.pair _ (nth_mem (l := out) (i := k) (by omega)); have q2 := hfa ((nth out k).1 : Int).toNat (by omega); have q3 := hfa ((nth out k).2 : Int).toNat (by omega); omega))) ?_
            refine SQ.pure rfl rfl rfl (PureOp.fieldAddr 2 Try.underlying42 rfl rfl sz3 rfl) ?_
            refine SQ.pure rfl rfl rfl (PureOp.load (v := .int .i64 ((nth pl i).2.2.1)) Try.underlying3 rfl rfl (fun _ => (CellIs.in_ hp i 2 (by first | omega | (have q := hfa i (by omega); omega) | (have q := R.pair _ (nth_mem (l := out) (i := k) (by omega)); omega) | (have q := R.pair _ (nth_mem (l := out) (i := k) (by omega)); have q2 := hfa ((nth out k).1 : Int).toNat (by omega); have q3 := hfa ((nth out k).2 : Int).toNat (by omega); omega)) (by omega)))) ?_
            refine SQ.pure rfl rfl rfl (PureOp.indexAddr Try.underlying22 sz52 rfl rfl (AoOk.in_ hf) (fun _ => by first | omega | (have q := hfa i (by omega); omega) | (have q := R.pair _ (nth_mem (l := out) (i := k) (by omega)); omega) | (have q := R.pair _ (nth_mem (l := out) (i := k) (by omega)); have q2 := hfa ((nth out k).1 : Int).toNat (by omega); have q3 := hfa ((nth out k).2 : Int).toNat (by omega); omega))) ?_
            refine SQ.pure rfl rfl rfl (PureOp.fieldAddr 5 Try.underlying52 rfl rfl sz4 rfl) ?_
            refine SQ.pure rfl rfl rfl (PureOp.load (v := .bool ((nth fl (((nth pl i).2.2.1).toNat)).2.2.2.2.2.1)) Try.underlying4 rfl rfl (fun _ => (CellIs.in_ hf (((nth pl i).2.2.1).toNat) 5 (by first | omega | (have q := hfa i (by omega); omega) | (have q := R.pair _ (nth_mem (l := out) (i := k) (by omega)); omega) | (have q := R.pair _ (nth_mem (l := out) (i := k) (by omega)); have q2 := hfa ((nth out k).1 : Int).toNat (by omega); have q3 := hfa ((nth out k).2 : Int).toNat (by omega); omega)) (by omega)))) ?_
            refine SQ.pure rfl rfl rfl (PureOp.move rfl) ?_
            refine SQ.pure rfl rfl rfl (PureOp.eql rfl rfl) ?_
            refine SQ.pure rfl rfl rfl (PureOp.neqb rfl rfl Try.underlying4) ?_
            refine SQ.pure rfl rfl rfl (PureOp.move rfl) ?_
            refine SQ.newg 126 false rfl ?_
            refine SQ.gpure (c := 1) rfl rfl rfl rfl rfl rfl rfl (PureOp.move rfl) ?_
            refine SQ.gpure (c := 1) rfl rfl rfl rfl rfl rfl rfl (PureOp.gtr rfl rfl) ?_
            refine SQ.pure rfl rfl rfl (PureOp.or_ rfl rfl rfl rfl) ?_
            refine SQ.nil_then ?_
            refine WC.cond rfl (fun h8 => ?_) (fun h8 => ?_)
            · try simp only [Bool.and_eq_true, Bool.or_eq_true, Bool.not_eq_true', Bool.not_eq_false', Bool.and_eq_false_iff, Bool.or_eq_false_iff, decide_eq_true_eq, decide_eq_false_iff_not, Int.not_lt, Int.not_le, ne_eq, Decidable.not_not] at h8
              refine WC.seq ?_
              refine WC.region ?_
              refine SL.pure rfl rfl rfl (PureOp.assign rfl) ?_
              refine SL.nil_then ?_
              refine WC.ret ?_
              refine QX.ret_in ?_
              refine QX.ret_then ?_
              refine QX.ret_then ?_
              refine QX.ret_in ?_
              refine QX.ret_then ?_
              refine QX.ret1 rfl rfl ?_
              intro w hw
              first | rfl | (exfalso; have q := hfa i (by omega); omega) | (exfalso; have q := R.pair _ (nth_mem (l := out) (i := k) (by omega)); omega) | (exfalso; exact once_no (once_B R (i := i) (by omega) (by rw [hc, show k = out.length from by omega])) h8) | (exfalso; exact pair_no R (by omega) h10)
            · try simp only [Bool.and_eq_true, Bool.or_eq_true, Bool.not_eq_true', Bool.not_eq_false', Bool.and_eq_false_iff, Bool.or_eq_false_iff, decide_eq_true_eq, decide_eq_false_iff_not, Int.not_lt, Int.not_le, ne_eq, Decidable.not_not] at h8
              refine WC.skip ?_
              refine QX.normal_in ?_
              refine QX.then_ ?_
              refine WC.region ?_
              refine SL.pure rfl rfl rfl (PureOp.move rfl) ?_
              refine SL.pure rfl rfl rfl (PureOp.addN (k := 1) rfl rfl (fun _ => by first | omega | (have q := hfa i (by omega); omega) | (have q := R.pair _ (nth_mem (l := out) (i := k) (by omega)); omega) | (have q := R.pair _ (nth_mem (l := out) (i := k) (by omega)); have q2 := hfa ((nth out k).1 : Int).toNat (by omega); have q3 := hfa ((nth out k).2 : Int).toNat (by omega); omega))) ?_
              refine SL.pure rfl rfl rfl (PureOp.assign rfl) ?_
              refine SL.nil ?_
              refine QX.round 2 (i + 1) ⟨(by first | omega | (dsimp only; omega)), by first | omega | (dsimp only; omega)⟩ ⟨rfl, rfl, rfl, rfl, rfl, rfl, rfl, rfl, rfl, rfl, rfl, rfl, rfl, rfl, rfl, rfl, rfl, rfl, rfl, rfl, rfl, rfl, rfl, rfl, rfl, rfl, rfl, rfl, rfl, rfl, rfl, rfl, rfl, rfl, rfl, rfl, rfl, rfl, trivial⟩ rfl
      · try simp only [Bool.and_eq_true, Bool.or_eq_true, Bool.not_eq_true', Bool.not_eq_false', Bool.and_eq_false_iff, Bool.or_eq_false_iff, decide_eq_true_eq, decide_eq_false_iff_not, Int.not_lt, Int.not_le, ne_eq, Decidable.not_not] at h3
        refine WC.exit ?_
        refine QX.exit_then ?_
        refine QX.exit_then ?_
        refine QX.exit_hit ?_
        refine QX.then_ ?_
        refine WC.seq ?_
        refine WC.seq ?_
        refine WC.region ?_
        refine SL.pure rfl rfl rfl (PureOp.assign rfl) ?_
        refine SL.nil_then ?_
        refine WC.block ?_
        refine WC.loop (σ := Nat) (fun q_ => [(0, 0, .agg #[.slice fao fn fcap, .slice rao rn rcap, .slice u1.ao u1.l.length u1.cap, .slice u2.ao u2.l.length u2.cap]), (1, 0, .slice pao pn pcap), (2, 0, .pointer (some ⟨b1, 0, none⟩)), (5, 0, .slice ya out.length yc), (6, 0, .int .i64 ((resP (allK (prF fn pl) pl.length) 19 23 pn (rdF fl pl) (mtF fl pl)).1)), (7, 0, .int .i64 ((i : Nat) : Int)), (13, 0, .slice pao pn pcap), (14, 0, .int .i64 ((pn : Nat) : Int)), (15, 0, .bool (decide (40 < ((pn : Nat) : Int)))), (16, 0, .bool (decide (40 < ((pn : Nat) : Int)))), (21, 0, .bool ((decide (40 < ((pn : Nat) : Int))) || (decide (200 < ((fn : Nat) : Int))))), (23, 0, .tuple #[.slice ya out.length yc, .int .i64 ((resP (allK (prF fn pl) pl.length) 19 23 pn (rdF fl pl) (mtF fl pl)).1)]), (24, 0, .agg #[.slice fao fn fcap, .slice rao rn rcap, .slice u1.ao u1.l.length u1.cap, .slice u2.ao u2.l.length u2.cap]), (25, 0, .slice pao pn pcap), (26, 0, .tuple #[.slice ya out.length yc, .int .i64 ((resP (allK (prF fn pl) pl.length) 19 23 pn (rdF fl pl) (mtF fl pl)).1)]), (27, 0, .slice ya out.length yc), (28, 0, .int .i64 ((resP (allK (prF fn pl) pl.length) 19 23 pn (rdF fl pl) (mtF fl pl)).1)), (29, 0, .int .i64 ((resP (allK (prF fn pl) pl.length) 19 23 pn (rdF fl pl) (mtF fl pl)).1)), (30, 0, .bool (decide ((resP (allK (prF fn pl) pl.length) 19 23 pn (rdF fl pl) (mtF fl pl)).1 ≠ 0))), (37, 0, .int .i64 ((i : Nat) : Int)), (38, 0, .slice pao pn pcap), (39, 0, .int .i64 ((pn : Nat) : Int)), (40, 0, .bool (decide (((i : Nat) : Int) < ((pn : Nat) : Int)))), (10, 0, .int .i64 ((q_ : Nat) : Int))]) (fun q_ => [Item.cells b1 [.slice fao fn fcap, .slice rao rn rcap, .slice u1.ao u1.l.length u1.cap, .slice u2.ao u2.l.length u2.cap] 27, Item.own w0.heap.size ya out.length yc 50 2 (cellsOf encNN out)]) (fun q_ => q_ ≤ out.length) (fun q_ => out.length - q_) 2 (0) (Nat.zero_le _) ⟨rfl, rfl, rfl, rfl, rfl, rfl, rfl, rfl, rfl, rfl, rfl, rfl, rfl, rfl, rfl, rfl, rfl, rfl, rfl, rfl, rfl, rfl, rfl, rfl, rfl, rfl, rfl, rfl, rfl, rfl, rfl, rfl, rfl, rfl, rfl, rfl, rfl, rfl, rfl, rfl, rfl, rfl, rfl, rfl, rfl, rfl, rfl, rfl, trivial⟩ rfl ?_
        rintro k hk
        refine WC.seq ?_
        refine WC.seq ?_
        refine WC.region ?_
        refine SL.pure rfl rfl rfl (PureOp.move rfl) ?_
        refine SL.pure rfl rfl rfl (PureOp.move rfl) ?_
        refine SL.pure rfl rfl rfl (PureOp.len rfl Try.underlying30) ?_
        refine SL.pure rfl rfl rfl (PureOp.lss rfl rfl) ?_
        refine SL.nil_then ?_
        refine WC.cond rfl (fun h9 => ?_) (fun h9 => ?_)
        · try simp only [Bool.and_eq_true, Bool.or_eq_true, Bool.not_eq_true', Bool.not_eq_false', Bool.and_eq_false_iff, Bool.or_eq_false_iff, decide_eq_true_eq, decide_eq_false_iff_not, Int.not_lt, Int.not_le, ne_eq, Decidable.not_not] at h9
          refine WC.skip ?_
          refine QX.then_ ?_
          refine WC.seq ?_
          refine WC.block ?_
          refine WC.cutx (σ := Nat × Nat) (fun q_ => [(0, 0, .agg #[.slice fao fn fcap, .slice rao rn rcap, .slice u1.ao u1.l.length u1.cap, .slice u2.ao u2.l.length u2.cap]), (1, 0, .slice pao pn pcap), (2, 0, .pointer (some ⟨b1, 0, none⟩)), (5, 0, .slice ya out.length yc), (6, 0, .int .i64 ((resP (allK (prF fn pl) pl.length) 19 23 pn (rdF fl pl) (mtF fl pl)).1)), (7, 0, .int .i64 ((i : Nat) : Int)), (10, 0, .int .i64 ((k : Nat) : Int)), (13, 0, .slice pao pn pcap), (14, 0, .int .i64 ((pn : Nat) : Int)), (15, 0, .bool (decide (40 < ((pn : Nat) : Int)))), (16, 0, .bool (decide (40 < ((pn : Nat) : Int)))), (21, 0, .bool ((decide (40 < ((pn : Nat) : Int))) || (decide (200 < ((fn : Nat) : Int))))), (23, 0, .tuple #[.slice ya out.length yc, .int .i64 ((resP (allK (prF fn pl) pl.length) 19 23 pn (rdF fl pl) (mtF fl pl)).1)]), (24, 0, .agg #[.slice fao fn fcap, .slice rao rn rcap, .slice u1.ao u1.l.length u1.cap, .slice u2.ao u2.l.length u2.cap]), (25, 0, .slice pao pn pcap), (26, 0, .tuple #[.slice ya out.length yc, .int .i64 ((resP (allK (prF fn pl) pl.length) 19 23 pn (rdF fl pl) (mtF fl pl)).1)]), (27, 0, .slice ya out.length yc), (28, 0, .int .i64 ((resP (allK (prF fn pl) pl.length) 19 23 pn (rdF fl pl) (mtF fl pl)).1)), (29, 0, .int .i64 ((resP (allK (prF fn pl) pl.length) 19 23 pn (rdF fl pl) (mtF fl pl)).1)), (30, 0, .bool (decide ((resP (allK (prF fn pl) pl.length) 19 23 pn (rdF fl pl) (mtF fl pl)).1 ≠ 0))), (37, 0, .int .i64 ((i : Nat) : Int)), (38, 0, .slice pao pn pcap), (39, 0, .int .i64 ((pn : Nat) : Int)), (40, 0, .bool (decide (((i : Nat) : Int) < ((pn : Nat) : Int)))), (130, 0, .int .i64 ((k : Nat) : Int)), (131, 0, .slice ya out.length yc), (132, 0, .int .i64 ((out.length : Nat) : Int)), (133, 0, .bool (decide (((k : Nat) : Int) < ((out.length : Nat) : Int)))), (11, 0, .pointer (some ⟨q_.1, 0, none⟩)), (12, 0, .pointer (some ⟨q_.2, 0, none⟩))]) (fun q_ => [Item.cells b1 [.slice fao fn fcap, .slice rao rn rcap, .slice u1.ao u1.l.length u1.cap, .slice u2.ao u2.l.length u2.cap] 27, Item.own w0.heap.size ya out.length yc 50 2 (cellsOf encNN out), Item.cells q_.1 [.string ((nth fl (nth pl (((nth out k).1 : Int).toNat)).2.2.1.toNat).1), .string ((nth fl (nth pl (((nth out k).1 : Int).toNat)).2.2.1.toNat).2.1), .string ((nth fl (nth pl (((nth out k).1 : Int).toNat)).2.2.1.toNat).2.2.1), .string ((nth fl (nth pl (((nth out k).1 : Int).toNat)).2.2.1.toNat).2.2.2.1), .string ((nth fl (nth pl (((nth out k).1 : Int).toNat)).2.2.1.toNat).2.2.2.2.1), .bool ((nth fl (nth pl (((nth out k).1 : Int).toNat)).2.2.1.toNat).2.2.2.2.2.1), .int .i64 ((nth fl (nth pl (((nth out k).1 : Int).toNat)).2.2.1.toNat).2.2.2.2.2.2.1), .int .i64 ((nth fl (nth pl (((nth out k).1 : Int).toNat)).2.2.1.toNat).2.2.2.2.2.2.2.1), .int .i64 ((nth fl (nth pl (((nth out k).1 : Int).toNat)).2.2.1.toNat).2.2.2.2.2.2.2.2)] 52, Item.cells q_.2 [.string ((nth fl (nth pl (((nth out k).2 : Int).toNat)).2.2.1.toNat).1), .string ((nth fl (nth pl (((nth out k).2 : Int).toNat)).2.2.1.toNat).2.1), .string ((nth fl (nth pl (((nth out k).2 : Int).toNat)).2.2.1.toNat).2.2.1), .string ((nth fl (nth pl (((nth out k).2 : Int).toNat)).2.2.1.toNat).2.2.2.1), .string ((nth fl (nth pl (((nth out k).2 : Int).toNat)).2.2.1.toNat).2.2.2.2.1), .bool ((nth fl (nth pl (((nth out k).2 : Int).toNat)).2.2.1.toNat).2.2.2.2.2.1), .int .i64 ((nth fl (nth pl (((nth out k).2 : Int).toNat)).2.2.1.toNat).2.2.2.2.2.2.1), .int .i64 ((nth fl (nth pl (((nth out k).2 : Int).toNat)).2.2.1.toNat).2.2.2.2.2.2.2.1), .int .i64 ((nth fl (nth pl (((nth out k).2 : Int).toNat)).2.2.1.toNat).2.2.2.2.2.2.2.2)] 52]) (fun q_ => True) ?_ ?_
          · skip
            refine WC.drawH 30 [false, false, false, false, false, false, false, false, false, false, false, false, false, false, false, false, false, false, false, false, false, false, false, false, false, false, false, false, false, false] rfl rfl rfl ?_
            refine SD.take 0 [true, false, false, false, false, false, false, false, false, false, false, false, false, false, false, false, false, false, false, false, false, false, false, false, false, false, false, false, false, false] rfl (by kernel_rfl) rfl (fun _ h => h) rfl rfl rfl (PureOp.fieldAddrT 0 Try.underlying27 rfl sz22 rfl rfl) ?_
            refine SD.take 1 [true, true, false, false, false, false, false, false, false, false, false, false, false, false, false, false, false, false, false, false, false, false, false, false, false, false, false, false, false, false] rfl (by kernel_rfl) rfl (fun _ h => h) rfl rfl rfl (PureOp.load (v := .slice fao fn fcap) Try.underlying22 rfl rfl (fun _ => (CellIs.cells 0 rfl rfl))) ?_
            refine SD.take 2 [true, true, true, false, false, false, false, false, false, false, false, false, false, false, false, false, false, false, false, false, false, false, false, false, false, false, false, false, false, false] rfl (by kernel_rfl) rfl (fun _ h => h) rfl rfl rfl (PureOp.move rfl) ?_
            refine SD.take 3 [true, true, true, true, false, false, false, false, false, false, false, false, false, false, false, false, false, false, false, false, false, false, false, false, false, false, false, false, false, false] rfl (by kernel_rfl) rfl (fun _ h => h) rfl rfl rfl (PureOp.move rfl) ?_
            refine SD.take 4 [true, true, true, true, true, false, false, false, false, false, false, false, false, false, false, false, false, false, false, false, false, false, false, false, false, false, false, false, false, false] rfl (by kernel_rfl) rfl (fun _ h => h) rfl rfl rfl (PureOp.move rfl) ?_
            refine SD.take 5 [true, true, true, true, true, true, false, false, false, false, false, false, false, false, false, false, false, false, false, false, false, false, false, false, false, false, false, false, false, false] rfl (by kernel_rfl) rfl (fun _ h => h) rfl rfl rfl (PureOp.indexAddrN Try.underlying30 sz50 rfl rfl (AoOk.own 1 rfl) (fun _ => by first | omega | (have q := hfa i (by omega); omega) | (have q := R.pair _ (nth_mem (l := out) (i := k) (by omega)); omega) | (have q := R.pair _ (nth_mem (l := out) (i := k) (by omega)); have q2 := hfa ((nth out k).1 : Int).toNat (by omega); have q3 := hfa ((nth out k).2 : Int).toNat (by omega); omega))) ?_
            refine SD.take 6 [true, true, true, true, true, true, true, false, false, false, false, false, false, false, false, false, false, false, false, false, false, false, false, false, false, false, false, false, false, false] rfl (by kernel_rfl) rfl (fun _ h => h) rfl rfl rfl (PureOp.indexAddrA Try.underlying50 sz3 rfl rfl (fun _ => by decide)) ?_
            refine SD.take 7 [true, true, true, true, true, true, true, true, false, false, false, false, false, false, false, false, false, false, false, false, false, false, false, false, false, false, false, false, false, false] rfl (by kernel_rfl) rfl (fun _ h => h) rfl rfl rfl (PureOp.load (v := .int .i64 ((nth out k).1 : Int)) Try.underlying3 rfl rfl (fun _ => (CellIs.ownc 1 rfl k 0 (by exact cellsOf_get encNN_len _ _ _ (by omega) (by decide))))) ?_
            refine SD.take 8 [true, true, true, true, true, true, true, true, true, false, false, false, false, false, false, false, false, false, false, false, false, false, false, false, false, false, false, false, false, false] rfl (by kernel_rfl) rfl (fun _ h => h) rfl rfl rfl (PureOp.indexAddr Try.underlying28 sz42 rfl rfl (AoOk.in_ hp) (fun _ => by first | omega | (have q := hfa i (by omega); omega) | (have q := R.pair _ (nth_mem (l := out) (i := k) (by omega)); omega) | (have q := R.pair _ (nth_mem (l := out) (i := k) (by omega)); have q2 := hfa ((nth out k).1 : Int).toNat (by omega); have q3 := hfa ((nth out k).2 : Int).toNat (by omega); omega))) ?_
            refine SD.take 9 [true, true, true, true, true, true, true, true, true, true, false, false, false, false, false, false, false, false, false, false, false, false, false, false, false, false, false, false, false, false] rfl (by kernel_rfl) rfl (fun _ h => h) rfl rfl rfl (PureOp.fieldAddr 2 Try.underlying42 rfl rfl sz3 rfl) ?_
            refine SD.take 10 [true, true, true, true, true, true, true, true, true, true, true, false, false, false, false, false, false, false, false, false, false, false, false, false, false, false, false, false, false, false] rfl (by kernel_rfl) rfl (fun _ h => h) rfl rfl rfl (PureOp.load (v := .int .i64 ((nth pl ((((nth out k).1 : Int)).toNat)).2.2.1)) Try.underlying3 rfl rfl (fun _ => (CellIs.in_ hp ((((nth out k).1 : Int)).toNat) 2 (by first | omega | (have q := hfa i (by omega); omega) | (have q := R.pair _ (nth_mem (l := out) (i := k) (by omega)); omega) | (have q := R.pair _ (nth_mem (l := out) (i := k) (by omega)); have q2 := hfa ((nth out k).1 : Int).toNat (by omega); have q3 := hfa ((nth out k).2 : Int).toNat (by omega); omega)) (by omega)))) ?_
            refine SD.take 11 [true, true, true, true, true, true, true, true, true, true, true, true, false, false, false, false, false, false, false, false, false, false, false, false, false, false, false, false, false, false] rfl (by kernel_rfl) rfl (fun _ h => h) rfl rfl rfl (PureOp.indexAddr Try.underlying22 sz52 rfl rfl (AoOk.in_ hf) (fun _ => by first | omega | (have q := hfa i (by omega); omega) | (have q := R.pair _ (nth_mem (l := out) (i := k) (by omega)); omega) | (have q := R.pair _ (nth_mem (l := out) (i := k) (by omega)); have q2 := hfa ((nth out k).1 : Int).toNat (by omega); have q3 := hfa ((nth out k).2 : Int).toNat (by omega); omega))) ?_
            refine SD.take 12 [true, true, true, true, true, true, true, true, true, true, true, true, true, false, false, false, false, false, false, false, false, false, false, false, false, false, false, false, false, false] rfl (by kernel_rfl) rfl (fun _ h => h) rfl rfl rfl (PureOp.loads (vs := [.string ((nth fl (((nth pl ((((nth out k).1 : Int)).toNat)).2.2.1).toNat)).1), .string ((nth fl (((nth pl ((((nth out k).1 : Int)).toNat)).2.2.1).toNat)).2.1), .string ((nth fl (((nth pl ((((nth out k).1 : Int)).toNat)).2.2.1).toNat)).2.2.1), .string ((nth fl (((nth pl ((((nth out k).1 : Int)).toNat)).2.2.1).toNat)).2.2.2.1), .string ((nth fl (((nth pl ((((nth out k).1 : Int)).toNat)).2.2.1).toNat)).2.2.2.2.1), .bool ((nth fl (((nth pl ((((nth out k).1 : Int)).toNat)).2.2.1).toNat)).2.2.2.2.2.1), .int .i64 ((nth fl (((nth pl ((((nth out k).1 : Int)).toNat)).2.2.1).toNat)).2.2.2.2.2.2.1), .int .i64 ((nth fl (((nth pl ((((nth out k).1 : Int)).toNat)).2.2.1).toNat)).2.2.2.2.2.2.2.1), .int .i64 ((nth fl (((nth pl ((((nth out k).1 : Int)).toNat)).2.2.1).toNat)).2.2.2.2.2.2.2.2)]) Try.underlying52 rfl rfl (fun _ => (RowIs.in_ hf (((nth pl ((((nth out k).1 : Int)).toNat)).2.2.1).toNat) 0 9 (by first | omega | (have q := hfa i (by omega); omega) | (have q := R.pair _ (nth_mem (l := out) (i := k) (by omega)); omega) | (have q := R.pair _ (nth_mem (l := out) (i := k) (by omega)); have q2 := hfa ((nth out k).1 : Int).toNat (by omega); have q3 := hfa ((nth out k).2 : Int).toNat (by omega); omega)) (by omega))) sz52) ?_
            refine SD.take 13 [true, true, true, true, true, true, true, true, true, true, true, true, true, true, false, false, false, false, false, false, false, false, false, false, false, false, false, false, false, false] rfl (by kernel_rfl) rfl (fun _ h => h) rfl rfl rfl (PureOp.fieldAddrT 0 Try.underlying27 rfl sz22 rfl rfl) ?_
            refine SD.take 14 [true, true, true, true, true, true, true, true, true, true, true, true, true, true, true, false, false, false, false, false, false, false, false, false, false, false, false, false, false, false] rfl (by kernel_rfl) rfl (fun _ h => h) rfl rfl rfl (PureOp.load (v := .slice fao fn fcap) Try.underlying22 rfl rfl (fun _ => (CellIs.cells 0 rfl rfl))) ?_
            refine SD.take 15 [true, true, true, true, true, true, true, true, true, true, true, true, true, true, true, true, false, false, false, false, false, false, false, false, false, false, false, false, false, false] rfl (by kernel_rfl) rfl (fun _ h => h) rfl rfl rfl (PureOp.move rfl) ?_
            refine SD.take 16 [true, true, true, true, true, true, true, true, true, true, true, true, true, true, true, true, true, false, false, false, false, false, false, false, false, false, false, false, false, false] rfl (by kernel_rfl) rfl (fun _ h => h) rfl rfl rfl (PureOp.move rfl) ?_
            refine SD.take 17 [true, true, true, true, true, true, true, true, true, true, true, true, true, true, true, true, true, true, false, false, false, false, false, false, false, false, false, false, false, false] rfl (by kernel_rfl) rfl (fun _ h => h) rfl rfl rfl (PureOp.move rfl) ?_
            refine SD.take 18 [true, true, true, true, true, true, true, true, true, true, true, true, true, true, true, true, true, true, true, false, false, false, false, false, false, false, false, false, false, false] rfl (by kernel_rfl) rfl (fun _ h => h) rfl rfl rfl (PureOp.indexAddrN Try.underlying30 sz50 rfl rfl (AoOk.own 1 rfl) (fun _ => by first | omega | (have q := hfa i (by omega); omega) | (have q := R.pair _ (nth_mem (l := out) (i := k) (by omega)); omega) | (have q := R.pair _ (nth_mem (l := out) (i := k) (by omega)); have q2 := hfa ((nth out k).1 : Int).toNat (by omega); have q3 := hfa ((nth out k).2 : Int).toNat (by omega); omega))) ?_
            refine SD.take 19 [true, true, true, true, true, true, true, true, true, true, true, true, true, true, true, true, true, true, true, true, false, false, false, false, false, false, false, false, false, false] rfl (by kernel_rfl) rfl (fun _ h => h) rfl rfl rfl (PureOp.indexAddrA Try.underlying50 sz3 rfl rfl (fun _ => by decide)) ?_
            refine SD.take 20 [true, true, true, true, true, true, true, true, true, true, true, true, true, true, true, true, true, true, true, true, true, false, false, false, false, false, false, false, false, false] rfl (by kernel_rfl) rfl (fun _ h => h) rfl rfl rfl (PureOp.load (v := .int .i64 ((nth out k).2 : Int)) Try.underlying3 rfl rfl (fun _ => (CellIs.ownc 1 rfl k 1 (by exact cellsOf_get encNN_len _ _ _ (by omega) (by decide))))) ?_
            refine SD.take 21 [true, true, true, true, true, true, true, true, true, true, true, true, true, true, true, true, true, true, true, true, true, true, false, false, false, false, false, false, false, false] rfl (by kernel_rfl) rfl (fun _ h => h) rfl rfl rfl (PureOp.indexAddr Try.underlying28 sz42 rfl rfl (AoOk.in_ hp) (fun _ => by first | omega | (have q := hfa i (by omega); omega) | (have q := R.pair _ (nth_mem (l := out) (i := k) (by omega)); omega) | (have q := R.pair _ (nth_mem (l := out) (i := k) (by omega)); have q2 := hfa ((nth out k).1 : Int).toNat (by omega); have q3 := hfa ((nth out k).2 : Int).toNat (by omega); omega))) ?_
            refine SD.take 22 [true, true, true, true, true, true, true, true, true, true, true, true, true, true, true, true, true, true, true, true, true, true, true, false, false, false, false, false, false, false] rfl (by kernel_rfl) rfl (fun _ h => h) rfl rfl rfl (PureOp.fieldAddr 2 Try.underlying42 rfl rfl sz3 rfl) ?_
            refine SD.take 23 [true, true, true, true, true, true, true, true, true, true, true, true, true, true, true, true, true, true, true, true, true, true, true, true, false, false, false, false, false, false] rfl (by kernel_rfl) rfl (fun _ h => h) rfl rfl rfl (PureOp.load (v := .int .i64 ((nth pl ((((nth out k).2 : Int)).toNat)).2.2.1)) Try.underlying3 rfl rfl (fun _ => (CellIs.in_ hp ((((nth out k).2 : Int)).toNat) 2 (by first | omega | (have q := hfa i (by omega); omega) | (have q := R.pair _ (nth_mem (l := out) (i := k) (by omega)); omega) | (have q := R.pair _ (nth_mem (l := out) (i := k) (by omega)); have q2 := hfa ((nth out k).1 : Int).toNat (by omega); have q3 := hfa ((nth out k).2 : Int).toNat (by omega); omega)) (by omega)))) ?_
            refine SD.take 24 [true, true, true, true, true, true, true, true, true, true, true, true, true, true, true, true, true, true, true, true, true, true, true, true, true, false, false, false, false, false] rfl (by kernel_rfl) rfl (fun _ h => h) rfl rfl rfl (PureOp.indexAddr Try.underlying22 sz52 rfl rfl (AoOk.in_ hf) (fun _ => by first | omega | (have q := hfa i (by omega); omega) | (have q := R.pair _ (nth_mem (l := out) (i := k) (by omega)); omega) | (have q := R.pair _ (nth_mem (l := out) (i := k) (by omega)); have q2 := hfa ((nth out k).1 : Int).toNat (by omega); have q3 := hfa ((nth out k).2 : Int).toNat (by omega); omega))) ?_
            refine SD.take 25 [true, true, true, true, true, true, true, true, true, true, true, true, true, true, true, true, true, true, true, true, true, true, true, true, true, true, false, false, false, false] rfl (by kernel_rfl) rfl (fun _ h => h) rfl rfl rfl (PureOp.loads (vs := [.string ((nth fl (((nth pl ((((nth out k).2 : Int)).toNat)).2.2.1).toNat)).1), .string ((nth fl (((nth pl ((((nth out k).2 : Int)).toNat)).2.2.1).toNat)).2.1), .string ((nth fl (((nth pl ((((nth out k).2 : Int)).toNat)).2.2.1).toNat)).2.2.1), .string ((nth fl (((nth pl ((((nth out k).2 : Int)).toNat)).2.2.1).toNat)).2.2.2.1), .string ((nth fl (((nth pl ((((nth out k).2 : Int)).toNat)).2.2.1).toNat)).2.2.2.2.1), .bool ((nth fl (((nth pl ((((nth out k).2 : Int)).toNat)).2.2.1).toNat)).2.2.2.2.2.1), .int .i64 ((nth fl (((nth pl ((((nth out k).2 : Int)).toNat)).2.2.1).toNat)).2.2.2.2.2.2.1), .int .i64 ((nth fl (((nth pl ((((nth out k).2 : Int)).toNat)).2.2.1).toNat)).2.2.2.2.2.2.2.1), .int .i64 ((nth fl (((nth pl ((((nth out k).2 : Int)).toNat)).2.2.1).toNat)).2.2.2.2.2.2.2.2)]) Try.underlying52 rfl rfl (fun _ => (RowIs.in_ hf (((nth pl ((((nth out k).2 : Int)).toNat)).2.2.1).toNat) 0 9 (by first | omega | (have q := hfa i (by omega); omega) | (have q := R.pair _ (nth_mem (l := out) (i := k) (by omega)); omega) | (have q := R.pair _ (nth_mem (l := out) (i := k) (by omega)); have q2 := hfa ((nth out k).1 : Int).toNat (by omega); have q3 := hfa ((nth out k).2 : Int).toNat (by omega); omega)) (by omega))) sz52) ?_
            refine SD.all [26, 27] (by kernel_rfl) (by simp) ⟨⟨_, [true, true, true, true, true, true, true, true, true, true, true, true, true, true, true, true, true, true, true, true, true, true, true, true, true, true, true, false, false, false], rfl, rfl, ?_⟩, ⟨_, [true, true, true, true, true, true, true, true, true, true, true, true, true, true, true, true, true, true, true, true, true, true, true, true, true, true, false, true, false, false], rfl, rfl, ?_⟩, trivial⟩
            · skip
              refine SL.alloc rfl rfl zero52 (fun b2 hb2 => ?_)
              refine SL.norm [_, _, _] rfl ?_
              refine SD.back (fun _ h => HeapOk.take h 2) ?_
              refine SD.one 27 [true, true, true, true, true, true, true, true, true, true, true, true, true, true, true, true, true, true, true, true, true, true, true, true, true, true, true, true, false, false] (by kernel_rfl) rfl rfl ?_
              refine SL.alloc rfl rfl zero52 (fun b3 hb3 => ?_)
              refine SL.norm [_, _, _, _] rfl ?_
              refine SD.back (fun _ h => HeapOk.take h 2) ?_
              refine SD.one 28 [true, true, true, true, true, true, true, true, true, true, true, true, true, true, true, true, true, true, true, true, true, true, true, true, true, true, true, true, true, false] (by kernel_rfl) rfl rfl ?_
              refine SL.store 2 rfl rfl rfl rfl sz52 rfl rfl ?_
              refine SL.norm [_, _, _, _] rfl ?_
              refine SD.back (fun _ h => HeapOk.take h 2) ?_
              refine SD.one 29 [true, true, true, true, true, true, true, true, true, true, true, true, true, true, true, true, true, true, true, true, true, true, true, true, true, true, true, true, true, true] (by kernel_rfl) rfl rfl ?_
              refine SL.store 3 rfl rfl rfl rfl sz52 rfl rfl ?_
              refine SL.norm [_, _, _, _] rfl ?_
              refine SD.back (fun _ h => HeapOk.take h 2) ?_
              refine SD.done (by kernel_rfl) ?_
              refine QX.ofK ?_
              refine QX.heap (fun _ h => HeapOk.pick [0, 1, 2, 3] (by decide) h) ?_
              refine QX.cutx (σ := Nat × Nat) (E' := fun q_ => [(0, 0, .agg #[.slice fao fn fcap, .slice rao rn rcap, .slice u1.ao u1.l.length u1.cap, .slice u2.ao u2.l.length u2.cap]), (1, 0, .slice pao pn pcap), (2, 0, .pointer (some ⟨b1, 0, none⟩)), (5, 0, .slice ya out.length yc), (6, 0, .int .i64 ((resP (allK (prF fn pl) pl.length) 19 23 pn (rdF fl pl) (mtF fl pl)).1)), (7, 0, .int .i64 ((i : Nat) : Int)), (10, 0, .int .i64 ((k : Nat) : Int)), (13, 0, .slice pao pn pcap), (14, 0, .int .i64 ((pn : Nat) : Int)), (15, 0, .bool (decide (40 < ((pn : Nat) : Int)))), (16, 0, .bool (decide (40 < ((pn : Nat) : Int)))), (21, 0, .bool ((decide (40 < ((pn : Nat) : Int))) || (decide (200 < ((fn : Nat) : Int))))), (23, 0, .tuple #[.slice ya out.length yc, .int .i64 ((resP (allK (prF fn pl) pl.length) 19 23 pn (rdF fl pl) (mtF fl pl)).1)]), (24, 0, .agg #[.slice fao fn fcap, .slice rao rn rcap, .slice u1.ao u1.l.length u1.cap, .slice u2.ao u2.l.length u2.cap]), (25, 0, .slice pao pn pcap), (26, 0, .tuple #[.slice ya out.length yc, .int .i64 ((resP (allK (prF fn pl) pl.length) 19 23 pn (rdF fl pl) (mtF fl pl)).1)]), (27, 0, .slice ya out.length yc), (28, 0, .int .i64 ((resP (allK (prF fn pl) pl.length) 19 23 pn (rdF fl pl) (mtF fl pl)).1)), (29, 0, .int .i64 ((resP (allK (prF fn pl) pl.length) 19 23 pn (rdF fl pl) (mtF fl pl)).1)), (30, 0, .bool (decide ((resP (allK (prF fn pl) pl.length) 19 23 pn (rdF fl pl) (mtF fl pl)).1 ≠ 0))), (37, 0, .int .i64 ((i : Nat) : Int)), (38, 0, .slice pao pn pcap), (39, 0, .int .i64 ((pn : Nat) : Int)), (40, 0, .bool (decide (((i : Nat) : Int) < ((pn : Nat) : Int)))), (130, 0, .int .i64 ((k : Nat) : Int)), (131, 0, .slice ya out.length yc), (132, 0, .int .i64 ((out.length : Nat) : Int)), (133, 0, .bool (decide (((k : Nat) : Int) < ((out.length : Nat) : Int)))), (11, 0, .pointer (some ⟨q_.1, 0, none⟩)), (12, 0, .pointer (some ⟨q_.2, 0, none⟩))]) (H' := fun q_ => [Item.cells b1 [.slice fao fn fcap, .slice rao rn rcap, .slice u1.ao u1.l.length u1.cap, .slice u2.ao u2.l.length u2.cap] 27, Item.own w0.heap.size ya out.length yc 50 2 (cellsOf encNN out), Item.cells q_.1 [.string ((nth fl (nth pl (((nth out k).1 : Int).toNat)).2.2.1.toNat).1), .string ((nth fl (nth pl (((nth out k).1 : Int).toNat)).2.2.1.toNat).2.1), .string ((nth fl (nth pl (((nth out k).1 : Int).toNat)).2.2.1.toNat).2.2.1), .string ((nth fl (nth pl (((nth out k).1 : Int).toNat)).2.2.1.toNat).2.2.2.1), .string ((nth fl (nth pl (((nth out k).1 : Int).toNat)).2.2.1.toNat).2.2.2.2.1), .bool ((nth fl (nth pl (((nth out k).1 : Int).toNat)).2.2.1.toNat).2.2.2.2.2.1), .int .i64 ((nth fl (nth pl (((nth out k).1 : Int).toNat)).2.2.1.toNat).2.2.2.2.2.2.1), .int .i64 ((nth fl (nth pl (((nth out k).1 : Int).toNat)).2.2.1.toNat).2.2.2.2.2.2.2.1), .int .i64 ((nth fl (nth pl (((nth out k).1 : Int).toNat)).2.2.1.toNat).2.2.2.2.2.2.2.2)] 52, Item.cells q_.2 [.string ((nth fl (nth pl (((nth out k).2 : Int).toNat)).2.2.1.toNat).1), .string ((nth fl (nth pl (((nth out k).2 : Int).toNat)).2.2.1.toNat).2.1), .string ((nth fl (nth pl (((nth out k).2 : Int).toNat)).2.2.1.toNat).2.2.1), .string ((nth fl (nth pl (((nth out k).2 : Int).toNat)).2.2.1.toNat).2.2.2.1), .string ((nth fl (nth pl (((nth out k).2 : Int).toNat)).2.2.1.toNat).2.2.2.2.1), .bool ((nth fl (nth pl (((nth out k).2 : Int).toNat)).2.2.1.toNat).2.2.2.2.2.1), .int .i64 ((nth fl (nth pl (((nth out k).2 : Int).toNat)).2.2.1.toNat).2.2.2.2.2.2.1), .int .i64 ((nth fl (nth pl (((nth out k).2 : Int).toNat)).2.2.1.toNat).2.2.2.2.2.2.2.1), .int .i64 ((nth fl (nth pl (((nth out k).2 : Int).toNat)).2.2.1.toNat).2.2.2.2.2.2.2.2)] 52]) (I := fun q_ => True) 4 ((b2, b3)) (trivial) ⟨rfl, rfl, rfl, rfl, rfl, rfl, rfl, rfl, rfl, rfl, rfl, rfl, rfl, rfl, rfl, rfl, rfl, rfl, rfl, rfl, rfl, rfl, rfl, rfl, rfl, rfl, rfl, rfl, rfl, rfl, rfl, rfl, rfl, rfl, rfl, rfl, rfl, rfl, rfl, rfl, rfl, rfl, rfl, rfl, rfl, rfl, rfl, rfl, rfl, rfl, rfl, rfl, rfl, rfl, rfl, rfl, rfl, rfl, rfl, rfl, trivial⟩ rfl
            · skip
              refine SL.alloc rfl rfl zero52 (fun b4 hb4 => ?_)
              refine SL.norm [_, _, _] rfl ?_
              refine SD.back (fun _ h => HeapOk.take h 2) ?_
              refine SD.one 26 [true, true, true, true, true, true, true, true, true, true, true, true, true, true, true, true, true, true, true, true, true, true, true, true, true, true, true, true, false, false] (by kernel_rfl) rfl rfl ?_
              refine SL.alloc rfl rfl zero52 (fun b5 hb5 => ?_)
              refine SL.norm [_, _, _, _] rfl ?_
              refine SD.back (fun _ h => HeapOk.take h 2) ?_
              refine SD.one 28 [true, true, true, true, true, true, true, true, true, true, true, true, true, true, true, true, true, true, true, true, true, true, true, true, true, true, true, true, true, false] (by kernel_rfl) rfl rfl ?_
              refine SL.store 3 rfl rfl rfl rfl sz52 rfl rfl ?_
              refine SL.norm [_, _, _, _] rfl ?_
              refine SD.back (fun _ h => HeapOk.take h 2) ?_
              refine SD.one 29 [true, true, true, true, true, true, true, true, true, true, true, true, true, true, true, true, true, true, true, true, true, true, true, true, true, true, true, true, true, true] (by kernel_rfl) rfl rfl ?_
              refine SL.store 2 rfl rfl rfl rfl sz52 rfl rfl ?_
              refine SL.norm [_, _, _, _] rfl ?_
              refine SD.back (fun _ h => HeapOk.take h 2) ?_
              refine SD.done (by kernel_rfl) ?_
              refine QX.ofK ?_
              refine QX.heap (fun _ h => HeapOk.pick [0, 1, 3, 2] (by decide) h) ?_
              refine QX.cutx (σ := Nat × Nat) (E' := fun q_ => [(0, 0, .agg #[.slice fao fn fcap, .slice rao rn rcap, .slice u1.ao u1.l.length u1.cap, .slice u2.ao u2.l.length u2.cap]), (1, 0, .slice pao pn pcap), (2, 0, .pointer (some ⟨b1, 0, none⟩)), (5, 0, .slice ya out.length yc), (6, 0, .int .i64 ((resP (allK (prF fn pl) pl.length) 19 23 pn (rdF fl pl) (mtF fl pl)).1)), (7, 0, .int .i64 ((i : Nat) : Int)), (10, 0, .int .i64 ((k : Nat) : Int)), (13, 0, .slice pao pn pcap), (14, 0, .int .i64 ((pn : Nat) : Int)), (15, 0, .bool (decide (40 < ((pn : Nat) : Int)))), (16, 0, .bool (decide (40 < ((pn : Nat) : Int)))), (21, 0, .bool ((decide (40 < ((pn : Nat) : Int))) || (decide (200 < ((fn : Nat) : Int))))), (23, 0, .tuple #[.slice ya out.length yc, .int .i64 ((resP (allK (prF fn pl) pl.length) 19 23 pn (rdF fl pl) (mtF fl pl)).1)]), (24, 0, .agg #[.slice fao fn fcap, .slice rao rn rcap, .slice u1.ao u1.l.length u1.cap, .slice u2.ao u2.l.length u2.cap]), (25, 0, .slice pao pn pcap), (26, 0, .tuple #[.slice ya out.length yc, .int .i64 ((resP (allK (prF fn pl) pl.length) 19 23 pn (rdF fl pl) (mtF fl pl)).1)]), (27, 0, .slice ya out.length yc), (28, 0, .int .i64 ((resP (allK (prF fn pl) pl.length) 19 23 pn (rdF fl pl) (mtF fl pl)).1)), (29, 0, .int .i64 ((resP (allK (prF fn pl) pl.length) 19 23 pn (rdF fl pl) (mtF fl pl)).1)), (30, 0, .bool (decide ((resP (allK (prF fn pl) pl.length) 19 23 pn (rdF fl pl) (mtF fl pl)).1 ≠ 0))), (37, 0, .int .i64 ((i : Nat) : Int)), (38, 0, .slice pao pn pcap), (39, 0, .int .i64 ((pn : Nat) : Int)), (40, 0, .bool (decide (((i : Nat) : Int) < ((pn : Nat) : Int)))), (130, 0, .int .i64 ((k : Nat) : Int)), (131, 0, .slice ya out.length yc), (132, 0, .int .i64 ((out.length : Nat) : Int)), (133, 0, .bool (decide (((k : Nat) : Int) < ((out.length : Nat) : Int)))), (11, 0, .pointer (some ⟨q_.1, 0, none⟩)), (12, 0, .pointer (some ⟨q_.2, 0, none⟩))]) (H' := fun q_ => [Item.cells b1 [.slice fao fn fcap, .slice rao rn rcap, .slice u1.ao u1.l.length u1.cap, .slice u2.ao u2.l.length u2.cap] 27, Item.own w0.heap.size ya out.length yc 50 2 (cellsOf encNN out), Item.cells q_.1 [.string ((nth fl (nth pl (((nth out k).1 : Int).toNat)).2.2.1.toNat).1), .string ((nth fl (nth pl (((nth out k).1 : Int).toNat)).2.2.1.toNat).2.1), .string ((nth fl (nth pl (((nth out k).1 : Int).toNat)).2.2.1.toNat).2.2.1), .string ((nth fl (nth pl (((nth out k).1 : Int).toNat)).2.2.1.toNat).2.2.2.1), .string ((nth fl (nth pl (((nth out k).1 : Int).toNat)).2.2.1.toNat).2.2.2.2.1), .bool ((nth fl (nth pl (((nth out k).1 : Int).toNat)).2.2.1.toNat).2.2.2.2.2.1), .int .i64 ((nth fl (nth pl (((nth out k).1 : Int).toNat)).2.2.1.toNat).2.2.2.2.2.2.1), .int .i64 ((nth fl (nth pl (((nth out k).1 : Int).toNat)).2.2.1.toNat).2.2.2.2.2.2.2.1), .int .i64 ((nth fl (nth pl (((nth out k).1 : Int).toNat)).2.2.1.toNat).2.2.2.2.2.2.2.2)] 52, Item.cells q_.2 [.string ((nth fl (nth pl (((nth out k).2 : Int).toNat)).2.2.1.toNat).1), .string ((nth fl (nth pl (((nth out k).2 : Int).toNat)).2.2.1.toNat).2.1), .string ((nth fl (nth pl (((nth out k).2 : Int).toNat)).2.2.1.toNat).2.2.1), .string ((nth fl (nth pl (((nth out k).2 : Int).toNat)).2.2.1.toNat).2.2.2.1), .string ((nth fl (nth pl (((nth out k).2 : Int).toNat)).2.2.1.toNat).2.2.2.2.1), .bool ((nth fl (nth pl (((nth out k).2 : Int).toNat)).2.2.1.toNat).2.2.2.2.2.1), .int .i64 ((nth fl (nth pl (((nth out k).2 : Int).toNat)).2.2.1.toNat).2.2.2.2.2.2.1), .int .i64 ((nth fl (nth pl (((nth out k).2 : Int).toNat)).2.2.1.toNat).2.2.2.2.2.2.2.1), .int .i64 ((nth fl (nth pl (((nth out k).2 : Int).toNat)).2.2.1.toNat).2.2.2.2.2.2.2.2)] 52]) (I := fun q_ => True) 4 ((b5, b4)) (trivial) ⟨rfl, rfl, rfl, rfl, rfl, rfl, rfl, rfl, rfl, rfl, rfl, rfl, rfl, rfl, rfl, rfl, rfl, rfl, rfl, rfl, rfl, rfl, rfl, rfl, rfl, rfl, rfl, rfl, rfl, rfl, rfl, rfl, rfl, rfl, rfl, rfl, rfl, rfl, rfl, rfl, rfl, rfl, rfl, rfl, rfl, rfl, rfl, rfl, rfl, rfl, rfl, rfl, rfl, rfl, rfl, rfl, rfl, rfl, rfl, rfl, trivial⟩ rfl
          rintro ⟨ba, bb⟩ _
          try dsimp only at *
          refine WC.seq ?_
          refine WC.quiet rfl (by kernel_rfl) ?_
          refine SQ.pure rfl rfl rfl (PureOp.fieldAddrT 1 Try.underlying52 rfl sz9 rfl rfl) ?_
          refine SQ.pure rfl rfl rfl (PureOp.load (v := .string ((nth fl (nth pl (((nth out k).1 : Int).toNat)).2.2.1.toNat).2.1)) Try.underlying9 rfl rfl (fun _ => (CellIs.cells 2 rfl rfl))) ?_
          refine SQ.pure rfl rfl rfl (PureOp.fieldAddrT 2 Try.underlying52 rfl sz9 rfl rfl) ?_
          refine SQ.pure rfl rfl rfl (PureOp.load (v := .string ((nth fl (nth pl (((nth out k).2 : Int).toNat)).2.2.1.toNat).2.2.1)) Try.underlying9 rfl rfl (fun _ => (CellIs.cells 3 rfl rfl))) ?_
          refine SQ.pure rfl rfl rfl (PureOp.neqs rfl rfl) ?_
          refine SQ.pure rfl rfl rfl (PureOp.move rfl) ?_
          refine SQ.newg 167 false rfl ?_
          refine SQ.gpure (c := 1) rfl rfl rfl rfl rfl rfl rfl (PureOp.fieldAddrT 2 Try.underlying52 rfl sz9 rfl rfl) ?_
          refine SQ.gpure (c := 1) rfl rfl rfl rfl rfl rfl rfl (PureOp.load (v := .string ((nth fl (nth pl (((nth out k).1 : Int).toNat)).2.2.1.toNat).2.2.1)) Try.underlying9 rfl rfl (fun _ => (CellIs.cells 2 rfl rfl))) ?_
          refine SQ.gpure (c := 1) rfl rfl rfl rfl rfl rfl rfl (PureOp.fieldAddrT 1 Try.underlying52 rfl sz9 rfl rfl) ?_
          refine SQ.gpure (c := 1) rfl rfl rfl rfl rfl rfl rfl (PureOp.load (v := .string ((nth fl (nth pl (((nth out k).2 : Int).toNat)).2.2.1.toNat).2.1)) Try.underlying9 rfl rfl (fun _ => (CellIs.cells 3 rfl rfl))) ?_
          refine SQ.gpure (c := 1) rfl rfl rfl rfl rfl rfl rfl (PureOp.neqs rfl rfl) ?_
          refine SQ.pure rfl rfl rfl (PureOp.or_ rfl rfl rfl rfl) ?_
          refine SQ.pure rfl rfl rfl (PureOp.move rfl) ?_
          refine SQ.newg 174 false rfl ?_
          refine SQ.gpure (c := 2) rfl rfl rfl rfl rfl rfl rfl (PureOp.fieldAddrT 0 Try.underlying52 rfl sz9 rfl rfl) ?_
          refine SQ.gpure (c := 2) rfl rfl rfl rfl rfl rfl rfl (PureOp.load (v := .string ((nth fl (nth pl (((nth out k).1 : Int).toNat)).2.2.1.toNat).1)) Try.underlying9 rfl rfl (fun _ => (CellIs.cells 2 rfl rfl))) ?_
          refine SQ.gpure (c := 2) rfl rfl rfl rfl rfl rfl rfl (PureOp.fieldAddrT 0 Try.underlying52 rfl sz9 rfl rfl) ?_
          refine SQ.gpure (c := 2) rfl rfl rfl rfl rfl rfl rfl (PureOp.load (v := .string ((nth fl (nth pl (((nth out k).2 : Int).toNat)).2.2.1.toNat).1)) Try.underlying9 rfl rfl (fun _ => (CellIs.cells 3 rfl rfl))) ?_
          refine SQ.gpure (c := 2) rfl rfl rfl rfl rfl rfl rfl (PureOp.neqs rfl rfl) ?_
          refine SQ.pure rfl rfl rfl (PureOp.or_ rfl rfl rfl rfl) ?_
          refine SQ.pure rfl rfl rfl (PureOp.move rfl) ?_
          refine SQ.newg 181 false rfl ?_
          refine SQ.gpure (c := 3) rfl rfl rfl rfl rfl rfl rfl (PureOp.move rfl) ?_
          refine SQ.gpure (c := 3) rfl rfl rfl rfl rfl rfl rfl (PureOp.gtr rfl rfl) ?_
          refine SQ.gpure (c := 3) rfl rfl rfl rfl rfl rfl rfl (PureOp.move rfl) ?_
          refine SQ.newg 184 true rfl ?_
          refine SQ.gpure (c := 4) rfl rfl rfl rfl rfl rfl rfl (PureOp.move rfl) ?_
          refine SQ.gpure (c := 4) rfl rfl rfl rfl rfl rfl rfl (PureOp.move rfl) ?_
          refine SQ.gpure (c := 4) rfl rfl rfl rfl rfl rfl rfl (PureOp.indexAddrN Try.underlying30 sz50 rfl rfl (AoOk.own 1 rfl) (by intro hg; simp [gval] at hg; first | omega | (have q := hfa i (by omega); omega) | (have q := R.pair _ (nth_mem (l := out) (i := k) (by omega)); omega) | (have q := R.pair _ (nth_mem (l := out) (i := k) (by omega)); have q2 := hfa ((nth out k).1 : Int).toNat (by omega); have q3 := hfa ((nth out k).2 : Int).toNat (by omega); omega))) ?_
          refine SQ.gpure (c := 4) rfl rfl rfl rfl rfl rfl rfl (PureOp.indexAddrA Try.underlying50 sz3 rfl rfl (fun _ => by decide)) ?_
          refine SQ.gpure (c := 4) rfl rfl rfl rfl rfl rfl rfl (PureOp.load (v := .int .i64 ((nth out k).1 : Int)) Try.underlying3 rfl rfl (by intro hg; simp [gval] at hg; exact (CellIs.ownc 1 rfl k 0 (by exact cellsOf_get encNN_len _ _ _ (by omega) (by decide))))) ?_
          refine SQ.gpure (c := 4) rfl rfl rfl rfl rfl rfl rfl (PureOp.move rfl) ?_
          refine SQ.gpure (c := 4) rfl rfl rfl rfl rfl rfl rfl (PureOp.move rfl) ?_
          refine SQ.gpure (c := 4) rfl rfl rfl rfl rfl rfl rfl (PureOp.sub rfl rfl (by intro hg; simp [gval] at hg; first | omega | (have q := hfa i (by omega); omega) | (have q := R.pair _ (nth_mem (l := out) (i := k) (by omega)); omega) | (have q := R.pair _ (nth_mem (l := out) (i := k) (by omega)); have q2 := hfa ((nth out k).1 : Int).toNat (by omega); have q3 := hfa ((nth out k).2 : Int).toNat (by omega); omega))) ?_
          refine SQ.gpure (c := 4) rfl rfl rfl rfl rfl rfl rfl (PureOp.indexAddr Try.underlying30 sz50 rfl rfl (AoOk.own 1 rfl) (by intro hg; simp [gval] at hg; first | omega | (have q := hfa i (by omega); omega) | (have q := R.pair _ (nth_mem (l := out) (i := k) (by omega)); omega) | (have q := R.pair _ (nth_mem (l := out) (i := k) (by omega)); have q2 := hfa ((nth out k).1 : Int).toNat (by omega); have q3 := hfa ((nth out k).2 : Int).toNat (by omega); omega))) ?_
          refine SQ.gpure (c := 4) rfl rfl rfl rfl rfl rfl rfl (PureOp.indexAddrA Try.underlying50 sz3 rfl rfl (fun _ => by decide)) ?_
          refine SQ.gpure (c := 4) rfl rfl rfl rfl rfl rfl rfl (PureOp.load (v := .int .i64 ((nth out ((((k : Nat) : Int) - 1).toNat)).1 : Int)) Try.underlying3 rfl rfl (by intro hg; simp [gval] at hg; exact (CellIs.ownc 1 rfl ((((k : Nat) : Int) - 1).toNat) 0 (by exact cellsOf_get encNN_len _ _ _ (by omega) (by decide))))) ?_
          refine SQ.gpure (c := 4) rfl rfl rfl rfl rfl rfl rfl (PureOp.leq rfl rfl) ?_
          refine SQ.gpure (c := 3) rfl rfl rfl rfl rfl rfl rfl (PureOp.and_ rfl rfl rfl rfl) ?_
          refine SQ.pure rfl rfl rfl (PureOp.or_ rfl rfl rfl rfl) ?_
          refine SQ.nil_then ?_
          refine WC.cond rfl (fun h10 => ?_) (fun h10 => ?_)
          · try simp only [Bool.and_eq_true, Bool.or_eq_true, Bool.not_eq_true', Bool.not_eq_false', Bool.and_eq_false_iff, Bool.or_eq_false_iff, decide_eq_true_eq, decide_eq_false_iff_not, Int.not_lt, Int.not_le, ne_eq, Decidable.not_not] at h10
            refine WC.seq ?_
            refine WC.region ?_
            refine SL.pure rfl rfl rfl (PureOp.assign rfl) ?_
            refine SL.nil_then ?_
            refine WC.ret ?_
            refine QX.ret_in ?_
            refine QX.ret_then ?_
            refine QX.ret_then ?_
            refine QX.ret_in ?_
            refine QX.ret_then ?_
            refine QX.ret1 rfl rfl ?_
            intro w hw
            first | rfl | (exfalso; have q := hfa i (by omega); omega) | (exfalso; have q := R.pair _ (nth_mem (l := out) (i := k) (by omega)); omega) | (exfalso; exact once_no (once_B R (i := i) (by omega) (by rw [hc, show k = out.length from by omega])) h8) | (exfalso; exact pair_no R (by omega) h10)
          · try simp only [Bool.and_eq_true, Bool.or_eq_true, Bool.not_eq_true', Bool.not_eq_false', Bool.and_eq_false_iff, Bool.or_eq_false_iff, decide_eq_true_eq, decide_eq_false_iff_not, Int.not_lt, Int.not_le, ne_eq, Decidable.not_not] at h10
            refine WC.skip ?_
            refine QX.normal_in ?_
            refine QX.then_ ?_
            refine WC.region ?_
            refine SL.pure rfl rfl rfl (PureOp.move rfl) ?_
            refine SL.pure rfl rfl rfl (PureOp.addN (k := 1) rfl rfl (fun _ => by first | omega | (have q := hfa i (by omega); omega) | (have q := R.pair _ (nth_mem (l := out) (i := k) (by omega)); omega) | (have q := R.pair _ (nth_mem (l := out) (i := k) (by omega)); have q2 := hfa ((nth out k).1 : Int).toNat (by omega); have q3 := hfa ((nth out k).2 : Int).toNat (by omega); omega))) ?_
            refine SL.pure rfl rfl rfl (PureOp.assign rfl) ?_
            refine SL.nil ?_
            refine QX.round 2 (k + 1) ⟨(by first | omega | (dsimp only; omega)), by first | omega | (dsimp only; omega)⟩ ⟨rfl, rfl, rfl, rfl, rfl, rfl, rfl, rfl, rfl, rfl, rfl, rfl, rfl, rfl, rfl, rfl, rfl, rfl, rfl, rfl, rfl, rfl, rfl, rfl, rfl, rfl, rfl, rfl, rfl, rfl, rfl, rfl, rfl, rfl, rfl, rfl, rfl, rfl, rfl, rfl, rfl, rfl, rfl, rfl, rfl, rfl, rfl, rfl, trivial⟩ rfl
        · try simp only [Bool.and_eq_true, Bool.or_eq_true, Bool.not_eq_true', Bool.not_eq_false', Bool.and_eq_false_iff, Bool.or_eq_false_iff, decide_eq_true_eq, decide_eq_false_iff_not, Int.not_lt, Int.not_le, ne_eq, Decidable.not_not] at h9
          refine WC.exit ?_
          refine QX.exit_then ?_
          refine QX.exit_then ?_
          refine QX.exit_hit ?_
          refine QX.then_ ?_
          refine WC.seq ?_
          refine WC.region ?_
          refine SL.calle rfl rfl rfl rfl rfl rfl callable7 (fun w hw => knows_ok w) ?_
          refine SL.norm [_, _] rfl ?_
          refine SL.pure rfl rfl rfl (PureOp.assign rfl) ?_
          refine SL.nil_then ?_
          refine WC.ret ?_
          refine QX.ret1 rfl rfl ?_
          intro w hw
          first | rfl | (exfalso; have q := hfa i (by omega); omega) | (exfalso; have q := R.pair _ (nth_mem (l := out) (i := k) (by omega)); omega) | (exfalso; exact once_no (once_B R (i := i) (by omega) (by rw [hc, show k = out.length from by omega])) h8) | (exfalso; exact pair_no R (by omega) h10)

end Go.Proofs.Ytblmafknmeicfaa
