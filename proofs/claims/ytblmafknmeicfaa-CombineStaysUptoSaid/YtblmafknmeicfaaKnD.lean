import Derived.Test.YtblmafknmeicfaaKnC
namespace Go.Proofs.Ytblmafknmeicfaa
open Go Go.RowKit Eng
set_option linter.unusedVariables false
set_option linter.unusedSimpArgs false

theorem res_nil {pr : Bool} {e1 e2 : Int} {n : Nat} {rd : Nat → Bool} {mt : Nat → Nat → Bool} (h : (resP pr e1 e2 n rd mt).1 ≠ 0) : (resP pr e1 e2 n rd mt).2.length = 0 := by
  unfold resP at h ⊢
  split
  · rename_i q
    rw [if_pos q] at h
    cases e : runP n rd mt n with
    | none => rfl
    | some s => rw [e] at h; exact absurd rfl h
  · rfl
theorem res_run {pr : Bool} {e1 e2 : Int} {n : Nat} {rd : Nat → Bool} {mt : Nat → Nat → Bool} (h1 : e1 ≠ 0) (h2 : e2 ≠ 0) (h : (resP pr e1 e2 n rd mt).1 = 0) : pr = true ∧ ∃ pd, RunIs n rd mt n pd (resP pr e1 e2 n rd mt).2 := by
  unfold resP at h ⊢
  split
  · rename_i q
    rw [if_pos q] at h
    cases e : runP n rd mt n with
    | none => rw [e] at h; exact absurd h h2
    | some s => exact ⟨q, s.1, run_is (rd := rd) (mt := mt) n (Nat.le_refl _) s.1 s.2 e⟩
  · rename_i q
    rw [if_neg q] at h; exact absurd h h1
theorem pairS_p {fl : List Fa} {rl : List Ru} {al : List Ai} {wl : List Wa} {pl : List Pt} {x : Nat × Nat} (h : (depA al wl (nth pl x.1)).2 = false ∨ (depA al wl (nth pl x.2)).2 = false) : pairS fl rl al wl pl x = 14 := by rw [pairS, if_pos h]
theorem pairS_1 {fl : List Fa} {rl : List Ru} {al : List Ai} {wl : List Wa} {pl : List Pt} {x : Nat × Nat} (h : (depA al wl (nth pl x.1)).2 = true ∧ (depA al wl (nth pl x.2)).2 = true) (h2 : stayE (ruleX fl rl (nth pl x.1)) (depD al wl (nth pl x.1)) (depD al wl (nth pl x.2)) ≠ 0) : pairS fl rl al wl pl x = stayE (ruleX fl rl (nth pl x.1)) (depD al wl (nth pl x.1)) (depD al wl (nth pl x.2)) := by rw [pairS, if_neg (by simp [h.1, h.2]), if_pos h2]
theorem pairS_2 {fl : List Fa} {rl : List Ru} {al : List Ai} {wl : List Wa} {pl : List Pt} {x : Nat × Nat} (h : (depA al wl (nth pl x.1)).2 = true ∧ (depA al wl (nth pl x.2)).2 = true) (h2 : stayE (ruleX fl rl (nth pl x.1)) (depD al wl (nth pl x.1)) (depD al wl (nth pl x.2)) = 0) : pairS fl rl al wl pl x = stayE (ruleX fl rl (nth pl x.2)) (depD al wl (nth pl x.1)) (depD al wl (nth pl x.2)) := by rw [pairS, if_neg (by simp [h.1, h.2]), if_neg (by simp [h2])]
theorem stays_p {wn : Nat} {e : Int} {out : List (Nat × Nat)} {fl : List Fa} {rl : List Ru} {al : List Ai} {wl : List Wa} {pl : List Pt} {rs : Int × List (Nat × Nat)} (h : allK (fromB wn pl) pl.length = true) (h1 : rs.1 = 0) (h2 : out = rs.2) : staysE wn rs fl rl al wl pl = firstZ (fun k => pairS fl rl al wl pl (nth out k)) out.length := by
  rw [staysE, if_pos h, if_neg (by simp [h1]), h2]
theorem stays_e {wn : Nat} {fl : List Fa} {rl : List Ru} {al : List Ai} {wl : List Wa} {pl : List Pt} {rs : Int × List (Nat × Nat)} (h : allK (fromB wn pl) pl.length = true) (h1 : rs.1 ≠ 0) : staysE wn rs fl rl al wl pl = rs.1 := by rw [staysE, if_pos h, if_pos h1]
set_option maxHeartbeats 4000000 in
set_option maxRecDepth 100000 in
theorem stays_ok (u3 : SliceV Unit) (al : List Ai) (aao : Option Addr) (an acap : Nat) (han : an = al.length) (u1 u2 : SliceV Unit) (fl : List Fa) (rl : List Ru) (rao : Option Addr) (rn rcap : Nat) (fao : Option Addr) (fn fcap : Nat) (hfn : fn = fl.length) (hrn : rn = rl.length) (w0 : World) (sA : SliceIn w0 5 aao an acap (rowsF enc88 al)) (hab : an ≤ 1000) (hf : SliceIn w0 9 fao fn fcap (rowsF enc52 fl)) (hr : SliceIn w0 15 rao rn rcap (rowsF enc76 rl)) (hfb : fn ≤ 1000) (hrb : rn ≤ 1000) (hcm : ∀ r ∈ rl, SliceIn w0 1 r.2.2.1.ao r.2.2.1.l.length r.2.2.1.cap (rowsF encI r.2.2.1.l)) (wl : List Wa) (wao : Option Addr) (wn wcap : Nat) (hwn : wn = wl.length) (sW : SliceIn w0 8 wao wn wcap (rowsF enc62 wl)) (hwb : wn ≤ 1000) (hdp : ∀ i, i < wn → -1099511627776 ≤ (nth wl i).1.2.2.2.2.2.1 ∧ (nth wl i).1.2.2.2.2.2.1 ≤ 1099511627776) (hsh : ∀ a ∈ al, SliceIn w0 2 a.2.2.2.2.ao a.2.2.2.2.l.length a.2.2.2.2.cap (rowsF enc133 a.2.2.2.2.l)) (hof : ∀ a ∈ al, ∀ u, -1000000 ≤ offE u a.2.2.2.1 a.2.2.2.2.l ∧ offE u a.2.2.2.1 a.2.2.2.2.l ≤ 1000000) (pl : List Pt) (pao : Option Addr) (pn pcap : Nat) (hpn : pn = pl.length) (hp : SliceIn w0 4 pao pn pcap (rowsF enc42 pl)) (hpb : pn ≤ 1000) : FnC Try.prog 14 [.agg #[.slice aao an acap, .slice u3.ao u3.l.length u3.cap], .agg #[.slice fao fn fcap, .slice rao rn rcap, .slice u1.ao u1.l.length u1.cap, .slice u2.ao u2.l.length u2.cap], .slice wao wn wcap, .slice pao pn pcap] w0 fun v w' => v = .int .i64 (staysE wn (resP (allK (prF fn pl) pl.length) 19 23 pn (rdF fl pl) (mtF fl pl)) fl rl al wl pl) := by
  refine fnc (N := 100) Try.func14 rfl rfl rfl ?_
  refine WC.seq ?_
  refine WC.region ?_
  refine SL.box rfl rfl rfl (fun b1 hb1 => ?_)
  refine SL.norm [_] rfl ?_
  refine SL.box rfl rfl rfl (fun b2 hb2 => ?_)
  refine SL.norm [_, _] rfl ?_
  refine SL.pure rfl rfl rfl (PureOp.assign rfl) ?_
  refine SL.nil_then ?_
  refine WC.seq ?_
  refine WC.seq ?_
  refine WC.region ?_
  refine SL.pure rfl rfl rfl (PureOp.move rfl) ?_
  refine SL.pure rfl rfl rfl (PureOp.len rfl Try.underlying28) ?_
  refine SL.pure rfl rfl rfl (PureOp.move rfl) ?_
  refine SL.nil_then ?_
  refine WC.block ?_
  refine WC.loop (σ := Nat) (fun q_ => [(0, 0, .agg #[.slice aao an acap, .slice u3.ao u3.l.length u3.cap]), (1, 0, .agg #[.slice fao fn fcap, .slice rao rn rcap, .slice u1.ao u1.l.length u1.cap, .slice u2.ao u2.l.length u2.cap]), (2, 0, .slice wao wn wcap), (3, 0, .slice pao pn pcap), (4, 0, .pointer (some ⟨b1, 0, none⟩)), (5, 0, .pointer (some ⟨b2, 0, none⟩)), (22, 0, .slice pao pn pcap), (23, 0, .int .i64 ((pn : Nat) : Int)), (24, 0, .int .i64 ((q_ : Nat) : Int))]) (fun q_ => [Item.cells b1 [.slice aao an acap, .slice u3.ao u3.l.length u3.cap] 39, Item.cells b2 [.slice fao fn fcap, .slice rao rn rcap, .slice u1.ao u1.l.length u1.cap, .slice u2.ao u2.l.length u2.cap] 27]) (fun q_ => q_ ≤ pn ∧ allK (fromB wn pl) q_ = true) (fun q_ => pn - q_) 2 (0) (⟨Nat.zero_le _, rfl⟩) ⟨rfl, rfl, rfl, rfl, rfl, rfl, rfl, rfl, rfl, rfl, rfl, rfl, rfl, rfl, rfl, rfl, rfl, rfl, trivial⟩ rfl ?_
  rintro k ⟨hk, hz⟩
  refine WC.seq ?_
  refine WC.region ?_
  refine SL.pure rfl rfl rfl (PureOp.lss rfl rfl) ?_
  refine SL.nil_then ?_
  refine WC.seq ?_
  refine WC.cond rfl (fun h1 => ?_) (fun h1 => ?_)
  · try simp only [Bool.and_eq_true, Bool.or_eq_true, Bool.not_eq_true', Bool.not_eq_false', Bool.and_eq_false_iff, Bool.or_eq_false_iff, decide_eq_true_eq, decide_eq_false_iff_not, Int.not_lt, Int.not_le, ne_eq, Decidable.not_not] at h1
    refine WC.skip ?_
    refine QX.then_ ?_
    refine WC.seq ?_
    refine WC.block ?_
    refine WC.seq ?_
    refine WC.region ?_
    refine SL.pure rfl rfl rfl (PureOp.indexAddrN Try.underlying28 sz42 rfl rfl (AoOk.in_ hp) (fun _ => by first | omega | (have q := hfa k (by omega); omega))) ?_
    refine SL.pure rfl rfl rfl (PureOp.loads (vs := [.int .i64 ((nth pl k).1), .int .i64 ((nth pl k).2.1), .int .i64 ((nth pl k).2.2.1), .int .i64 ((nth pl k).2.2.2)]) Try.underlying42 rfl rfl (fun _ => (RowIs.in_ hp k 0 4 (by first | omega | (have q := hfa k (by omega); omega)) (by omega))) sz42) ?_
    refine SL.alloc rfl rfl zero42 (fun b3 hb3 => ?_)
    refine SL.norm [_, _, _] rfl ?_
    refine SL.store 2 rfl rfl rfl rfl sz42 rfl rfl ?_
    refine SL.norm [_, _, _] rfl ?_
    refine SL.nil_then ?_
    refine WC.seq ?_
    refine WC.region ?_
    refine SL.pure rfl rfl rfl (PureOp.fieldAddrT 0 Try.underlying42 rfl sz3 rfl rfl) ?_
    refine SL.pure rfl rfl rfl (PureOp.load (v := .int .i64 ((nth pl k).1)) Try.underlying3 rfl rfl (fun _ => (CellIs.cells 2 rfl rfl))) ?_
    refine SL.pure rfl rfl rfl (PureOp.lss rfl rfl) ?_
    refine SL.pure rfl rfl rfl (PureOp.move rfl) ?_
    refine SL.newg 31 false rfl ?_
    refine SL.gpure (c := 1) rfl rfl rfl rfl rfl rfl rfl (PureOp.fieldAddrT 0 Try.underlying42 rfl sz3 rfl rfl) ?_
    refine SL.gpure (c := 1) rfl rfl rfl rfl rfl rfl rfl (PureOp.load (v := .int .i64 ((nth pl k).1)) Try.underlying3 rfl rfl (fun _ => (CellIs.cells 2 rfl rfl))) ?_
    refine SL.gpure (c := 1) rfl rfl rfl rfl rfl rfl rfl (PureOp.move rfl) ?_
    refine SL.gpure (c := 1) rfl rfl rfl rfl rfl rfl rfl (PureOp.len rfl Try.underlying45) ?_
    refine SL.gpure (c := 1) rfl rfl rfl rfl rfl rfl rfl (PureOp.geq rfl rfl) ?_
    refine SL.pure rfl rfl rfl (PureOp.or_ rfl rfl rfl rfl) ?_
    refine SL.nil_then ?_
    refine WC.cond rfl (fun h2 => ?_) (fun h2 => ?_)
    · try simp only [Bool.and_eq_true, Bool.or_eq_true, Bool.not_eq_true', Bool.not_eq_false', Bool.and_eq_false_iff, Bool.or_eq_false_iff, decide_eq_true_eq, decide_eq_false_iff_not, Int.not_lt, Int.not_le, ne_eq, Decidable.not_not] at h2
      refine WC.seq ?_
      refine WC.region ?_
      refine SL.pure rfl rfl rfl (PureOp.assign rfl) ?_
      refine SL.nil_then ?_
      refine WC.ret ?_
      refine QX.ret_in ?_
      refine QX.ret_then ?_
      refine QX.ret_then ?_
      refine QX.ret_in ?_
      refine QX.ret_then ?_
      refine QX.ret1 rfl rfl ?_
      intro w hw
      rw [staysE, if_neg (by rw [allK_not (k := k) (by omega) (fromB_not.2 (by omega))]; simp)]
    · try simp only [Bool.and_eq_true, Bool.or_eq_true, Bool.not_eq_true', Bool.not_eq_false', Bool.and_eq_false_iff, Bool.or_eq_false_iff, decide_eq_true_eq, decide_eq_false_iff_not, Int.not_lt, Int.not_le, ne_eq, Decidable.not_not] at h2
      refine WC.skip ?_
      refine QX.normal_in ?_
      refine QX.then_ ?_
      refine WC.region ?_
      refine SL.pure rfl rfl rfl (PureOp.addN (k := 1) rfl rfl (fun _ => by first | omega | (have q := hfa k (by omega); omega))) ?_
      refine SL.pure rfl rfl rfl (PureOp.move rfl) ?_
      refine SL.nil ?_
      refine QX.round 2 (k + 1) ⟨⟨(by first | omega | (dsimp only; omega)), allK_next hz (fromB_iff.2 (by omega))⟩, by first | omega | (dsimp only; omega)⟩ ⟨rfl, rfl, rfl, rfl, rfl, rfl, rfl, rfl, rfl, rfl, rfl, rfl, rfl, rfl, rfl, rfl, rfl, rfl, trivial⟩ rfl
  · try simp only [Bool.and_eq_true, Bool.or_eq_true, Bool.not_eq_true', Bool.not_eq_false', Bool.and_eq_false_iff, Bool.or_eq_false_iff, decide_eq_true_eq, decide_eq_false_iff_not, Int.not_lt, Int.not_le, ne_eq, Decidable.not_not] at h1
    have hfr : allK (fromB wn pl) pl.length = true := by rw [← hpn, show pn = k from by omega]; exact hz
    refine WC.exit ?_
    refine QX.exit_then ?_
    refine QX.exit_then ?_
    refine QX.exit_hit ?_
    refine QX.then_ ?_
    refine WC.seq ?_
    refine WC.region ?_
    refine SL.pure rfl rfl rfl (PureOp.loads (vs := [.slice fao fn fcap, .slice rao rn rcap, .slice u1.ao u1.l.length u1.cap, .slice u2.ao u2.l.length u2.cap]) Try.underlying27 rfl rfl (fun _ => (RowIs.cells 1 0 4 rfl rfl)) sz27) ?_
    refine SL.pure rfl rfl rfl (PureOp.move rfl) ?_
    refine SL.callo (fun ya yc => .tuple #[.slice ya ((resP (allK (prF fn pl) pl.length) 19 23 pn (rdF fl pl) (mtF fl pl)).2.length) yc, .int .i64 ((resP (allK (prF fn pl) pl.length) 19 23 pn (rdF fl pl) (mtF fl pl)).1)]) rfl rfl rfl rfl rfl rfl callable8 (fun w hw => pairs_ok u1 u2 fl rao rn rcap fao fn fcap hfn w (hf.below hw.below) hfb pl pao pn pcap hpn (hp.below hw.below) hpb) (fun ya yc => ?_)
    refine SL.norm [_, _, _] rfl ?_
    refine SL.pure rfl rfl rfl (PureOp.move rfl) ?_
    refine SL.pure rfl rfl rfl (PureOp.extract rfl rfl) ?_
    refine SL.pure rfl rfl rfl (PureOp.extract rfl rfl) ?_
    refine SL.pure rfl rfl rfl (PureOp.assign rfl) ?_
    refine SL.pure rfl rfl rfl (PureOp.assign rfl) ?_
    refine SL.nil_then ?_
    refine WC.seq ?_
    refine WC.seq ?_
    refine WC.region ?_
    refine SL.pure rfl rfl rfl (PureOp.move rfl) ?_
    refine SL.pure rfl rfl rfl (PureOp.neq rfl rfl) ?_
    refine SL.nil_then ?_
    refine WC.cond rfl (fun h3 => ?_) (fun h3 => ?_)
    · try simp only [Bool.and_eq_true, Bool.or_eq_true, Bool.not_eq_true', Bool.not_eq_false', Bool.and_eq_false_iff, Bool.or_eq_false_iff, decide_eq_true_eq, decide_eq_false_iff_not, Int.not_lt, Int.not_le, ne_eq, Decidable.not_not] at h3
      refine WC.seq ?_
      refine WC.region ?_
      refine SL.pure rfl rfl rfl (PureOp.move rfl) ?_
      refine SL.pure rfl rfl rfl (PureOp.assign rfl) ?_
      refine SL.nil_then ?_
      refine WC.ret ?_
      refine QX.ret_then ?_
      refine QX.ret1 rfl rfl ?_
      intro w hw
      (rw [stays_e hfr h3]) <;> rfl
    · try simp only [Bool.and_eq_true, Bool.or_eq_true, Bool.not_eq_true', Bool.not_eq_false', Bool.and_eq_false_iff, Bool.or_eq_false_iff, decide_eq_true_eq, decide_eq_false_iff_not, Int.not_lt, Int.not_le, ne_eq, Decidable.not_not] at h3
      have hres := res_run (by decide) (by decide) h3
      obtain ⟨hpr, pd, R⟩ := hres
      have hfa : ∀ j, j < pn → 0 ≤ (nth pl j).2.2.1 ∧ (nth pl j).2.2.1 < fn := fun j hj => priced_at hpr (by omega)
      have hrn2 : (resP (allK (prF fn pl) pl.length) 19 23 pn (rdF fl pl) (mtF fl pl)).2.length ≤ 1000 := by have q := R.num; omega
      obtain ⟨out, hout⟩ : ∃ o, o = (resP (allK (prF fn pl) pl.length) 19 23 pn (rdF fl pl) (mtF fl pl)).2 := ⟨_, rfl⟩
      rw [← hout] at R hrn2
      rw [← hout]
      refine WC.skip ?_
      refine QX.then_ ?_
      refine WC.seq ?_
      refine WC.seq ?_
      refine WC.region ?_
      refine SL.pure rfl rfl rfl (PureOp.move rfl) ?_
      refine SL.pure rfl rfl rfl (PureOp.len rfl Try.underlying30) ?_
      refine SL.pure rfl rfl rfl (PureOp.move rfl) ?_
      refine SL.nil_then ?_
      refine WC.block ?_
      refine WC.loop (σ := Nat) (fun q_ => [(0, 0, .agg #[.slice aao an acap, .slice u3.ao u3.l.length u3.cap]), (1, 0, .agg #[.slice fao fn fcap, .slice rao rn rcap, .slice u1.ao u1.l.length u1.cap, .slice u2.ao u2.l.length u2.cap]), (2, 0, .slice wao wn wcap), (3, 0, .slice pao pn pcap), (4, 0, .pointer (some ⟨b1, 0, none⟩)), (5, 0, .pointer (some ⟨b2, 0, none⟩)), (11, 0, .slice ya out.length yc), (12, 0, .int .i64 ((resP (allK (prF fn pl) pl.length) 19 23 pn (rdF fl pl) (mtF fl pl)).1)), (22, 0, .slice pao pn pcap), (23, 0, .int .i64 ((pn : Nat) : Int)), (24, 0, .int .i64 ((k : Nat) : Int)), (25, 0, .bool (decide (((k : Nat) : Int) < ((pn : Nat) : Int)))), (39, 0, .tuple #[.slice ya out.length yc, .int .i64 ((resP (allK (prF fn pl) pl.length) 19 23 pn (rdF fl pl) (mtF fl pl)).1)]), (40, 0, .agg #[.slice fao fn fcap, .slice rao rn rcap, .slice u1.ao u1.l.length u1.cap, .slice u2.ao u2.l.length u2.cap]), (41, 0, .slice pao pn pcap), (42, 0, .tuple #[.slice ya out.length yc, .int .i64 ((resP (allK (prF fn pl) pl.length) 19 23 pn (rdF fl pl) (mtF fl pl)).1)]), (43, 0, .slice ya out.length yc), (44, 0, .int .i64 ((resP (allK (prF fn pl) pl.length) 19 23 pn (rdF fl pl) (mtF fl pl)).1)), (45, 0, .int .i64 ((resP (allK (prF fn pl) pl.length) 19 23 pn (rdF fl pl) (mtF fl pl)).1)), (46, 0, .bool (decide ((resP (allK (prF fn pl) pl.length) 19 23 pn (rdF fl pl) (mtF fl pl)).1 ≠ 0))), (48, 0, .slice ya out.length yc), (49, 0, .int .i64 ((out.length : Nat) : Int)), (50, 0, .int .i64 ((q_ : Nat) : Int))]) (fun q_ => [Item.cells b1 [.slice aao an acap, .slice u3.ao u3.l.length u3.cap] 39, Item.cells b2 [.slice fao fn fcap, .slice rao rn rcap, .slice u1.ao u1.l.length u1.cap, .slice u2.ao u2.l.length u2.cap] 27, Item.own w0.heap.size ya out.length yc 50 2 (cellsOf encNN out)]) (fun q_ => q_ ≤ out.length ∧ firstZ (fun k => pairS fl rl al wl pl (nth out k)) q_ = 0) (fun q_ => out.length - q_) 3 (0) (⟨Nat.zero_le _, rfl⟩) ⟨rfl, rfl, rfl, rfl, rfl, rfl, rfl, rfl, rfl, rfl, rfl, rfl, rfl, rfl, rfl, rfl, rfl, rfl, rfl, rfl, rfl, rfl, rfl, rfl, rfl, rfl, rfl, rfl, rfl, rfl, rfl, rfl, rfl, rfl, rfl, rfl, rfl, rfl, rfl, rfl, rfl, rfl, rfl, rfl, rfl, rfl, trivial⟩ rfl ?_
      rintro kk ⟨hkk, hs⟩
      refine WC.seq ?_
      refine WC.region ?_
      refine SL.pure rfl rfl rfl (PureOp.lss rfl rfl) ?_
      refine SL.nil_then ?_
      refine WC.seq ?_
      refine WC.cond rfl (fun h4 => ?_) (fun h4 => ?_)
      · try simp only [Bool.and_eq_true, Bool.or_eq_true, Bool.not_eq_true', Bool.not_eq_false', Bool.and_eq_false_iff, Bool.or_eq_false_iff, decide_eq_true_eq, decide_eq_false_iff_not, Int.not_lt, Int.not_le, ne_eq, Decidable.not_not] at h4
        have hpk := R.pair _ (nth_mem (l := out) (i := kk) (by omega))
        refine WC.skip ?_
        refine QX.then_ ?_
        refine WC.seq ?_
        refine WC.block ?_
        refine WC.seq ?_
        refine WC.region ?_
        refine SL.pure rfl rfl rfl (PureOp.indexAddrN Try.underlying30 sz50 rfl rfl (AoOk.own 2 rfl) (fun _ => by first | omega | (have q := hfa k (by omega); omega))) ?_
        refine SL.pure rfl rfl rfl (PureOp.loads (vs := [.int .i64 ((nth out kk).1 : Int), .int .i64 ((nth out kk).2 : Int)]) Try.underlying50 rfl rfl (fun _ => (RowIs.ownc 2 rfl kk 0 2 (rowsF encNN out kk) (fun j hj => cellsOf_get encNN_len out _ _ (by omega) (by omega)))) sz50) ?_
        refine SL.alloc rfl rfl zero50 (fun b4 hb4 => ?_)
        refine SL.norm [_, _, _, _] rfl ?_
        refine SL.store 3 rfl rfl rfl rfl sz50 rfl rfl ?_
        refine SL.norm [_, _, _, _] rfl ?_
        refine SL.nil_then ?_
        refine WC.seq ?_
        refine WC.quiet rfl (by kernel_rfl) ?_
        refine SQ.pure rfl rfl rfl (PureOp.loads (vs := [.slice aao an acap, .slice u3.ao u3.l.length u3.cap]) Try.underlying39 rfl rfl (fun _ => (RowIs.cells 0 0 2 rfl rfl)) sz39) ?_
        refine SQ.pure rfl rfl rfl (PureOp.move rfl) ?_
        refine SQ.pure rfl rfl rfl (PureOp.move rfl) ?_
        refine SQ.pure rfl rfl rfl (PureOp.indexAddrA Try.underlying50 sz3 rfl rfl (fun _ => by decide)) ?_
        refine SQ.pure rfl rfl rfl (PureOp.load (v := .int .i64 ((nth out kk).1 : Int)) Try.underlying3 rfl rfl (fun _ => (CellIs.cells 3 rfl rfl))) ?_
        refine SQ.pure rfl rfl rfl (PureOp.indexAddr Try.underlying28 sz42 rfl rfl (AoOk.in_ hp) (fun _ => by first | omega | (have q := hfa k (by omega); omega))) ?_
        refine SQ.pure rfl rfl rfl (PureOp.loads (vs := [.int .i64 ((nth pl ((((nth out kk).1 : Int)).toNat)).1), .int .i64 ((nth pl ((((nth out kk).1 : Int)).toNat)).2.1), .int .i64 ((nth pl ((((nth out kk).1 : Int)).toNat)).2.2.1), .int .i64 ((nth pl ((((nth out kk).1 : Int)).toNat)).2.2.2)]) Try.underlying42 rfl rfl (fun _ => (RowIs.in_ hp ((((nth out kk).1 : Int)).toNat) 0 4 (by first | omega | (have q := hfa k (by omega); omega)) (by omega))) sz42) ?_
        refine SQ.calle rfl rfl rfl rfl rfl rfl callable30 (fun w hw => departure_ok u3 al aao an acap han w (sA.below hw.below) hab wl wao wn wcap hwn (sW.below hw.below) hwb hdp (fun a ha => (hsh a ha).below hw.below) hof (nth pl (nth out kk).1) (by first | exact fromB_iff.1 ((allK_iff _).1 hfr _ (by omega)))) ?_
        refine SQ.pure rfl rfl rfl (PureOp.move rfl) ?_
        refine SQ.pure rfl rfl rfl (PureOp.extract rfl rfl) ?_
        refine SQ.pure rfl rfl rfl (PureOp.extract rfl rfl) ?_
        refine SQ.pure rfl rfl rfl (PureOp.assign rfl) ?_
        refine SQ.pure rfl rfl rfl (PureOp.assign rfl) ?_
        refine SQ.nil_then ?_
        refine WC.seq ?_
        refine WC.quiet rfl (by kernel_rfl) ?_
        refine SQ.pure rfl rfl rfl (PureOp.loads (vs := [.slice aao an acap, .slice u3.ao u3.l.length u3.cap]) Try.underlying39 rfl rfl (fun _ => (RowIs.cells 0 0 2 rfl rfl)) sz39) ?_
        refine SQ.pure rfl rfl rfl (PureOp.move rfl) ?_
        refine SQ.pure rfl rfl rfl (PureOp.move rfl) ?_
        refine SQ.pure rfl rfl rfl (PureOp.indexAddrA Try.underlying50 sz3 rfl rfl (fun _ => by decide)) ?_
        refine SQ.pure rfl rfl rfl (PureOp.load (v := .int .i64 ((nth out kk).2 : Int)) Try.underlying3 rfl rfl (fun _ => (CellIs.cells 3 rfl rfl))) ?_
        refine SQ.pure rfl rfl rfl (PureOp.indexAddr Try.underlying28 sz42 rfl rfl (AoOk.in_ hp) (fun _ => by first | omega | (have q := hfa k (by omega); omega))) ?_
        refine SQ.pure rfl rfl rfl (PureOp.loads (vs := [.int .i64 ((nth pl ((((nth out kk).2 : Int)).toNat)).1), .int .i64 ((nth pl ((((nth out kk).2 : Int)).toNat)).2.1), .int .i64 ((nth pl ((((nth out kk).2 : Int)).toNat)).2.2.1), .int .i64 ((nth pl ((((nth out kk).2 : Int)).toNat)).2.2.2)]) Try.underlying42 rfl rfl (fun _ => (RowIs.in_ hp ((((nth out kk).2 : Int)).toNat) 0 4 (by first | omega | (have q := hfa k (by omega); omega)) (by omega))) sz42) ?_
        refine SQ.calle rfl rfl rfl rfl rfl rfl callable30 (fun w hw => departure_ok u3 al aao an acap han w (sA.below hw.below) hab wl wao wn wcap hwn (sW.below hw.below) hwb hdp (fun a ha => (hsh a ha).below hw.below) hof (nth pl (nth out kk).2) (by first | exact fromB_iff.1 ((allK_iff _).1 hfr _ (by omega)))) ?_
        refine SQ.pure rfl rfl rfl (PureOp.move rfl) ?_
        refine SQ.pure rfl rfl rfl (PureOp.extract rfl rfl) ?_
        refine SQ.pure rfl rfl rfl (PureOp.extract rfl rfl) ?_
        refine SQ.pure rfl rfl rfl (PureOp.assign rfl) ?_
        refine SQ.pure rfl rfl rfl (PureOp.assign rfl) ?_
        refine SQ.nil_then ?_
        refine WC.seq ?_
        refine WC.seq ?_
        refine WC.region ?_
        refine SL.pure rfl rfl rfl (PureOp.move rfl) ?_
        refine SL.pure rfl rfl rfl (PureOp.not rfl) ?_
        refine SL.pure rfl rfl rfl (PureOp.move rfl) ?_
        refine SL.newg 78 false rfl ?_
        refine SL.gpure (c := 1) rfl rfl rfl rfl rfl rfl rfl (PureOp.move rfl) ?_
        refine SL.gpure (c := 1) rfl rfl rfl rfl rfl rfl rfl (PureOp.not rfl) ?_
        refine SL.pure rfl rfl rfl (PureOp.or_ rfl rfl rfl rfl) ?_
        refine SL.nil_then ?_
        refine WC.cond rfl (fun h5 => ?_) (fun h5 => ?_)
        · try simp only [Bool.and_eq_true, Bool.or_eq_true, Bool.not_eq_true', Bool.not_eq_false', Bool.and_eq_false_iff, Bool.or_eq_false_iff, decide_eq_true_eq, decide_eq_false_iff_not, Int.not_lt, Int.not_le, ne_eq, Decidable.not_not] at h5
          refine WC.seq ?_
          refine WC.region ?_
          refine SL.pure rfl rfl rfl (PureOp.assign rfl) ?_
          refine SL.nil_then ?_
          refine WC.ret ?_
          refine QX.ret_then ?_
          refine QX.ret_in ?_
          refine QX.ret_then ?_
          refine QX.ret_then ?_
          refine QX.ret_in ?_
          refine QX.ret_then ?_
          refine QX.ret1 rfl rfl ?_
          intro w hw
          rw [stays_p (e := 0) hfr h3 hout, firstZ_at hs (by omega) (by rw [pairS_p h5]; decide), pairS_p h5]
        · try simp only [Bool.and_eq_true, Bool.or_eq_true, Bool.not_eq_true', Bool.not_eq_false', Bool.and_eq_false_iff, Bool.or_eq_false_iff, decide_eq_true_eq, decide_eq_false_iff_not, Int.not_lt, Int.not_le, ne_eq, Decidable.not_not] at h5
          refine WC.skip ?_
          refine QX.then_ ?_
          refine WC.seq ?_
          refine WC.region ?_
          refine SL.pure rfl rfl rfl (PureOp.loads (vs := [.int .i64 ((nth out kk).1 : Int), .int .i64 ((nth out kk).2 : Int)]) Try.underlying50 rfl rfl (fun _ => (RowIs.cells 3 0 2 rfl rfl)) sz50) ?_
          refine SL.pure rfl rfl rfl (PureOp.move rfl) ?_
          refine SL.nil_then ?_
          refine WC.block ?_
          refine WC.loop (σ := Nat) (fun q_ => [(0, 0, .agg #[.slice aao an acap, .slice u3.ao u3.l.length u3.cap]), (1, 0, .agg #[.slice fao fn fcap, .slice rao rn rcap, .slice u1.ao u1.l.length u1.cap, .slice u2.ao u2.l.length u2.cap]), (2, 0, .slice wao wn wcap), (3, 0, .slice pao pn pcap), (4, 0, .pointer (some ⟨b1, 0, none⟩)), (5, 0, .pointer (some ⟨b2, 0, none⟩)), (11, 0, .slice ya out.length yc), (12, 0, .int .i64 ((resP (allK (prF fn pl) pl.length) 19 23 pn (rdF fl pl) (mtF fl pl)).1)), (14, 0, .pointer (some ⟨b4, 0, none⟩)), (15, 0, .int .i64 (depD al wl (nth pl (nth out kk).1))), (16, 0, .bool ((depA al wl (nth pl (nth out kk).1)).2)), (17, 0, .int .i64 (depD al wl (nth pl (nth out kk).2))), (18, 0, .bool ((depA al wl (nth pl (nth out kk).2)).2)), (22, 0, .slice pao pn pcap), (23, 0, .int .i64 ((pn : Nat) : Int)), (24, 0, .int .i64 ((k : Nat) : Int)), (25, 0, .bool (decide (((k : Nat) : Int) < ((pn : Nat) : Int)))), (39, 0, .tuple #[.slice ya out.length yc, .int .i64 ((resP (allK (prF fn pl) pl.length) 19 23 pn (rdF fl pl) (mtF fl pl)).1)]), (40, 0, .agg #[.slice fao fn fcap, .slice rao rn rcap, .slice u1.ao u1.l.length u1.cap, .slice u2.ao u2.l.length u2.cap]), (41, 0, .slice pao pn pcap), (42, 0, .tuple #[.slice ya out.length yc, .int .i64 ((resP (allK (prF fn pl) pl.length) 19 23 pn (rdF fl pl) (mtF fl pl)).1)]), (43, 0, .slice ya out.length yc), (44, 0, .int .i64 ((resP (allK (prF fn pl) pl.length) 19 23 pn (rdF fl pl) (mtF fl pl)).1)), (45, 0, .int .i64 ((resP (allK (prF fn pl) pl.length) 19 23 pn (rdF fl pl) (mtF fl pl)).1)), (46, 0, .bool (decide ((resP (allK (prF fn pl) pl.length) 19 23 pn (rdF fl pl) (mtF fl pl)).1 ≠ 0))), (48, 0, .slice ya out.length yc), (49, 0, .int .i64 ((out.length : Nat) : Int)), (50, 0, .int .i64 ((kk : Nat) : Int)), (51, 0, .bool (decide (((kk : Nat) : Int) < ((out.length : Nat) : Int)))), (52, 0, .pointer (some ⟨blk ya, off ya + kk * 2, none⟩)), (53, 0, .agg #[.int .i64 ((nth out kk).1 : Int), .int .i64 ((nth out kk).2 : Int)]), (54, 0, .tuple #[.int .i64 (depD al wl (nth pl (nth out kk).1)), .bool ((depA al wl (nth pl (nth out kk).1)).2)]), (55, 0, .agg #[.slice aao an acap, .slice u3.ao u3.l.length u3.cap]), (56, 0, .slice wao wn wcap), (57, 0, .slice pao pn pcap), (58, 0, .pointer (some ⟨b4, 0, none⟩)), (59, 0, .int .i64 ((nth out kk).1 : Int)), (60, 0, .pointer (some ⟨blk pao, off pao + ((((nth out kk).1 : Int)).toNat) * 4, none⟩)), (61, 0, .agg #[.int .i64 ((nth pl ((((nth out kk).1 : Int)).toNat)).1), .int .i64 ((nth pl ((((nth out kk).1 : Int)).toNat)).2.1), .int .i64 ((nth pl ((((nth out kk).1 : Int)).toNat)).2.2.1), .int .i64 ((nth pl ((((nth out kk).1 : Int)).toNat)).2.2.2)]), (62, 0, .tuple #[.int .i64 (depD al wl (nth pl (nth out kk).1)), .bool ((depA al wl (nth pl (nth out kk).1)).2)]), (63, 0, .int .i64 (depD al wl (nth pl (nth out kk).1))), (64, 0, .bool ((depA al wl (nth pl (nth out kk).1)).2)), (65, 0, .tuple #[.int .i64 (depD al wl (nth pl (nth out kk).2)), .bool ((depA al wl (nth pl (nth out kk).2)).2)]), (66, 0, .agg #[.slice aao an acap, .slice u3.ao u3.l.length u3.cap]), (67, 0, .slice wao wn wcap), (68, 0, .slice pao pn pcap), (69, 0, .pointer (some ⟨b4, 1, none⟩)), (70, 0, .int .i64 ((nth out kk).2 : Int)), (71, 0, .pointer (some ⟨blk pao, off pao + ((((nth out kk).2 : Int)).toNat) * 4, none⟩)), (72, 0, .agg #[.int .i64 ((nth pl ((((nth out kk).2 : Int)).toNat)).1), .int .i64 ((nth pl ((((nth out kk).2 : Int)).toNat)).2.1), .int .i64 ((nth pl ((((nth out kk).2 : Int)).toNat)).2.2.1), .int .i64 ((nth pl ((((nth out kk).2 : Int)).toNat)).2.2.2)]), (73, 0, .tuple #[.int .i64 (depD al wl (nth pl (nth out kk).2)), .bool ((depA al wl (nth pl (nth out kk).2)).2)]), (74, 0, .int .i64 (depD al wl (nth pl (nth out kk).2))), (75, 0, .bool ((depA al wl (nth pl (nth out kk).2)).2)), (76, 0, .bool ((depA al wl (nth pl (nth out kk).1)).2)), (77, 0, .bool (!((depA al wl (nth pl (nth out kk).1)).2))), (78, 0, .bool (!((depA al wl (nth pl (nth out kk).1)).2))), (81, 0, .bool ((!((depA al wl (nth pl (nth out kk).1)).2)) || (!((depA al wl (nth pl (nth out kk).2)).2)))), (82, 0, .agg #[.int .i64 ((nth out kk).1 : Int), .int .i64 ((nth out kk).2 : Int)]), (83, 0, .int .i64 ((q_ : Nat) : Int))]) (fun q_ => [Item.cells b1 [.slice aao an acap, .slice u3.ao u3.l.length u3.cap] 39, Item.cells b2 [.slice fao fn fcap, .slice rao rn rcap, .slice u1.ao u1.l.length u1.cap, .slice u2.ao u2.l.length u2.cap] 27, Item.own w0.heap.size ya out.length yc 50 2 (cellsOf encNN out), Item.cells b4 [.int .i64 ((nth out kk).1 : Int), .int .i64 ((nth out kk).2 : Int)] 50]) (fun q_ => q_ ≤ 2 ∧ (1 ≤ q_ → stayE (ruleX fl rl (nth pl (nth out kk).1)) (depD al wl (nth pl (nth out kk).1)) (depD al wl (nth pl (nth out kk).2)) = 0) ∧ (2 ≤ q_ → stayE (ruleX fl rl (nth pl (nth out kk).2)) (depD al wl (nth pl (nth out kk).1)) (depD al wl (nth pl (nth out kk).2)) = 0)) (fun q_ => 2 - q_) 4 (0) (⟨Nat.zero_le _, fun q => by omega, fun q => by omega⟩) ⟨rfl, rfl, rfl, rfl, rfl, rfl, rfl, rfl, rfl, rfl, rfl, rfl, rfl, rfl, rfl, rfl, rfl, rfl, rfl, rfl, rfl, rfl, rfl, rfl, rfl, rfl, rfl, rfl, rfl, rfl, rfl, rfl, rfl, rfl, rfl, rfl, rfl, rfl, rfl, rfl, rfl, rfl, rfl, rfl, rfl, rfl, rfl, rfl, rfl, rfl, rfl, rfl, rfl, rfl, rfl, rfl, rfl, rfl, rfl, rfl, rfl, rfl, rfl, rfl, rfl, rfl, rfl, rfl, rfl, rfl, rfl, rfl, rfl, rfl, rfl, rfl, rfl, rfl, rfl, rfl, rfl, rfl, rfl, rfl, rfl, rfl, rfl, rfl, rfl, rfl, rfl, rfl, rfl, rfl, rfl, rfl, rfl, rfl, rfl, rfl, rfl, rfl, rfl, rfl, rfl, rfl, rfl, rfl, rfl, rfl, rfl, rfl, rfl, rfl, rfl, rfl, rfl, rfl, trivial⟩ rfl ?_
          rintro z ⟨hzz, hs1, hs2⟩
          refine WC.seq ?_
          refine WC.region ?_
          refine SL.pure rfl rfl rfl (PureOp.lss rfl rfl) ?_
          refine SL.nil_then ?_
          refine WC.seq ?_
          refine WC.cond rfl (fun h6 => ?_) (fun h6 => ?_)
          · try simp only [Bool.and_eq_true, Bool.or_eq_true, Bool.not_eq_true', Bool.not_eq_false', Bool.and_eq_false_iff, Bool.or_eq_false_iff, decide_eq_true_eq, decide_eq_false_iff_not, Int.not_lt, Int.not_le, ne_eq, Decidable.not_not] at h6
            rcases (show z = 0 ∨ z = 1 by omega) with rfl | rfl
            · skip
              refine WC.skip ?_
              refine QX.then_ ?_
              refine WC.seq ?_
              refine WC.block ?_
              refine WC.seq ?_
              refine WC.region ?_
              refine SL.pure rfl rfl rfl (PureOp.indexa (v := .int .i64 ((nth out kk).1 : Int)) Try.underlying50 Try.underlying3 rfl sz3 rfl rfl (by decide) rfl) ?_
              refine SL.pure rfl rfl rfl (PureOp.assign rfl) ?_
              refine SL.nil_then ?_
              refine WC.seq ?_
              refine WC.drawH 10 [false, false, false, false, false, false, false, false, false, false] rfl rfl rfl ?_
              refine SD.take 0 [true, false, false, false, false, false, false, false, false, false] rfl (by kernel_rfl) rfl (fun _ h => h) rfl rfl rfl (PureOp.loads (vs := [.slice fao fn fcap, .slice rao rn rcap, .slice u1.ao u1.l.length u1.cap, .slice u2.ao u2.l.length u2.cap]) Try.underlying27 rfl rfl (fun _ => (RowIs.cells 1 0 4 rfl rfl)) sz27) ?_
              refine SD.take 1 [true, true, false, false, false, false, false, false, false, false] rfl (by kernel_rfl) rfl (fun _ h => h) rfl rfl rfl (PureOp.move rfl) ?_
              refine SD.take 2 [true, true, true, false, false, false, false, false, false, false] rfl (by kernel_rfl) rfl (fun _ h => h) rfl rfl rfl (PureOp.move rfl) ?_
              refine SD.take 3 [true, true, true, true, false, false, false, false, false, false] rfl (by kernel_rfl) rfl (fun _ h => h) rfl rfl rfl (PureOp.indexAddr Try.underlying28 sz42 rfl rfl (AoOk.in_ hp) (fun _ => by first | omega | (have q := hfa k (by omega); omega))) ?_
              refine SD.take 4 [true, true, true, true, true, false, false, false, false, false] rfl (by kernel_rfl) rfl (fun _ h => h) rfl rfl rfl (PureOp.loads (vs := [.int .i64 ((nth pl ((((nth out kk).1 : Int)).toNat)).1), .int .i64 ((nth pl ((((nth out kk).1 : Int)).toNat)).2.1), .int .i64 ((nth pl ((((nth out kk).1 : Int)).toNat)).2.2.1), .int .i64 ((nth pl ((((nth out kk).1 : Int)).toNat)).2.2.2)]) Try.underlying42 rfl rfl (fun _ => (RowIs.in_ hp ((((nth out kk).1 : Int)).toNat) 0 4 (by first | omega | (have q := hfa k (by omega); omega)) (by omega))) sz42) ?_
              refine SD.take 6 [true, true, true, true, true, false, true, false, false, false] rfl (by kernel_rfl) rfl (fun _ h => h) rfl rfl rfl (PureOp.move rfl) ?_
              refine SD.take 7 [true, true, true, true, true, false, true, true, false, false] rfl (by kernel_rfl) rfl (fun _ h => h) rfl rfl rfl (PureOp.move rfl) ?_
              refine SD.one 5 [true, true, true, true, true, true, true, true, false, false] (by kernel_rfl) rfl rfl ?_
              refine SL.calle rfl rfl rfl rfl rfl rfl callable27 (fun w hw => ruleof_ok u1 u2 fl rl rao rn rcap fao fn fcap hfn hrn w (hf.below hw.below) (hr.below hw.below) hfb hrb (nth pl (nth out kk).1) (hfa _ (by omega))) ?_
              refine SL.norm [_, _, _, _] rfl ?_
              refine SD.back (fun _ h => h) ?_
              refine SD.one 8 [true, true, true, true, true, true, true, true, true, false] (by kernel_rfl) rfl rfl ?_
              refine SL.calle rfl rfl rfl rfl rfl rfl callable31 (fun w hw => stay_ok (ruleX fl rl (nth pl (nth out kk).1)) (depD al wl (nth pl (nth out kk).1)) (depD al wl (nth pl (nth out kk).2)) w) ?_
              refine SL.norm [_, _, _, _] rfl ?_
              refine SD.back (fun _ h => h) ?_
              refine SD.take 9 [true, true, true, true, true, true, true, true, true, true] rfl (by kernel_rfl) rfl (fun _ h => h) rfl rfl rfl (PureOp.assign rfl) ?_
              refine SD.done (by kernel_rfl) ?_
              refine QX.ofK ?_
              refine QX.then_ ?_
              refine WC.seq ?_
              refine WC.region ?_
              refine SL.pure rfl rfl rfl (PureOp.move rfl) ?_
              refine SL.pure rfl rfl rfl (PureOp.neq rfl rfl) ?_
              refine SL.nil_then ?_
              refine WC.cond rfl (fun h7 => ?_) (fun h7 => ?_)
              · try simp only [Bool.and_eq_true, Bool.or_eq_true, Bool.not_eq_true', Bool.not_eq_false', Bool.and_eq_false_iff, Bool.or_eq_false_iff, decide_eq_true_eq, decide_eq_false_iff_not, Int.not_lt, Int.not_le, ne_eq, Decidable.not_not] at h7
                refine WC.seq ?_
                refine WC.region ?_
                refine SL.pure rfl rfl rfl (PureOp.move rfl) ?_
                refine SL.pure rfl rfl rfl (PureOp.assign rfl) ?_
                refine SL.nil_then ?_
                refine WC.ret ?_
                refine QX.ret_in ?_
                refine QX.ret_then ?_
                refine QX.ret_then ?_
                refine QX.ret_in ?_
                refine QX.ret_in ?_
                refine QX.ret_then ?_
                refine QX.ret_then ?_
                refine QX.ret_in ?_
                refine QX.ret_then ?_
                refine QX.ret1 rfl rfl ?_
                intro w hw
                rw [stays_p (e := 0) hfr h3 hout, firstZ_at hs (by omega) (by rw [pairS_1 h5 h7]; exact h7), pairS_1 h5 h7]
              · try simp only [Bool.and_eq_true, Bool.or_eq_true, Bool.not_eq_true', Bool.not_eq_false', Bool.and_eq_false_iff, Bool.or_eq_false_iff, decide_eq_true_eq, decide_eq_false_iff_not, Int.not_lt, Int.not_le, ne_eq, Decidable.not_not] at h7
                refine WC.skip ?_
                refine QX.normal_in ?_
                refine QX.then_ ?_
                refine WC.region ?_
                refine SL.pure rfl rfl rfl (PureOp.addN (k := 1) rfl rfl (fun _ => by first | omega | (have q := hfa k (by omega); omega))) ?_
                refine SL.pure rfl rfl rfl (PureOp.move rfl) ?_
                refine SL.nil ?_
                refine QX.round 4 (0 + 1) ⟨⟨by omega, fun _ => h7, fun q => by omega⟩, by first | omega | (dsimp only; omega)⟩ ⟨rfl, rfl, rfl, rfl, rfl, rfl, rfl, rfl, rfl, rfl, rfl, rfl, rfl, rfl, rfl, rfl, rfl, rfl, rfl, rfl, rfl, rfl, rfl, rfl, rfl, rfl, rfl, rfl, rfl, rfl, rfl, rfl, rfl, rfl, rfl, rfl, rfl, rfl, rfl, rfl, rfl, rfl, rfl, rfl, rfl, rfl, rfl, rfl, rfl, rfl, rfl, rfl, rfl, rfl, rfl, rfl, rfl, rfl, rfl, rfl, rfl, rfl, rfl, rfl, rfl, rfl, rfl, rfl, rfl, rfl, rfl, rfl, rfl, rfl, rfl, rfl, rfl, rfl, rfl, rfl, rfl, rfl, rfl, rfl, rfl, rfl, rfl, rfl, rfl, rfl, rfl, rfl, rfl, rfl, rfl, rfl, rfl, rfl, rfl, rfl, rfl, rfl, rfl, rfl, rfl, rfl, rfl, rfl, rfl, rfl, rfl, rfl, rfl, rfl, rfl, rfl, rfl, rfl, trivial⟩ rfl
            · skip
              refine WC.skip ?_
              refine QX.then_ ?_
              refine WC.seq ?_
              refine WC.block ?_
              refine WC.seq ?_
              refine WC.region ?_
              refine SL.pure rfl rfl rfl (PureOp.indexa (v := .int .i64 ((nth out kk).2 : Int)) Try.underlying50 Try.underlying3 rfl sz3 rfl rfl (by decide) rfl) ?_
              refine SL.pure rfl rfl rfl (PureOp.assign rfl) ?_
              refine SL.nil_then ?_
              refine WC.seq ?_
              refine WC.drawH 10 [false, false, false, false, false, false, false, false, false, false] rfl rfl rfl ?_
              refine SD.take 0 [true, false, false, false, false, false, false, false, false, false] rfl (by kernel_rfl) rfl (fun _ h => h) rfl rfl rfl (PureOp.loads (vs := [.slice fao fn fcap, .slice rao rn rcap, .slice u1.ao u1.l.length u1.cap, .slice u2.ao u2.l.length u2.cap]) Try.underlying27 rfl rfl (fun _ => (RowIs.cells 1 0 4 rfl rfl)) sz27) ?_
              refine SD.take 1 [true, true, false, false, false, false, false, false, false, false] rfl (by kernel_rfl) rfl (fun _ h => h) rfl rfl rfl (PureOp.move rfl) ?_
              refine SD.take 2 [true, true, true, false, false, false, false, false, false, false] rfl (by kernel_rfl) rfl (fun _ h => h) rfl rfl rfl (PureOp.move rfl) ?_
              refine SD.take 3 [true, true, true, true, false, false, false, false, false, false] rfl (by kernel_rfl) rfl (fun _ h => h) rfl rfl rfl (PureOp.indexAddr Try.underlying28 sz42 rfl rfl (AoOk.in_ hp) (fun _ => by first | omega | (have q := hfa k (by omega); omega))) ?_
              refine SD.take 4 [true, true, true, true, true, false, false, false, false, false] rfl (by kernel_rfl) rfl (fun _ h => h) rfl rfl rfl (PureOp.loads (vs := [.int .i64 ((nth pl ((((nth out kk).2 : Int)).toNat)).1), .int .i64 ((nth pl ((((nth out kk).2 : Int)).toNat)).2.1), .int .i64 ((nth pl ((((nth out kk).2 : Int)).toNat)).2.2.1), .int .i64 ((nth pl ((((nth out kk).2 : Int)).toNat)).2.2.2)]) Try.underlying42 rfl rfl (fun _ => (RowIs.in_ hp ((((nth out kk).2 : Int)).toNat) 0 4 (by first | omega | (have q := hfa k (by omega); omega)) (by omega))) sz42) ?_
              refine SD.take 6 [true, true, true, true, true, false, true, false, false, false] rfl (by kernel_rfl) rfl (fun _ h => h) rfl rfl rfl (PureOp.move rfl) ?_
              refine SD.take 7 [true, true, true, true, true, false, true, true, false, false] rfl (by kernel_rfl) rfl (fun _ h => h) rfl rfl rfl (PureOp.move rfl) ?_
              refine SD.one 5 [true, true, true, true, true, true, true, true, false, false] (by kernel_rfl) rfl rfl ?_
              refine SL.calle rfl rfl rfl rfl rfl rfl callable27 (fun w hw => ruleof_ok u1 u2 fl rl rao rn rcap fao fn fcap hfn hrn w (hf.below hw.below) (hr.below hw.below) hfb hrb (nth pl (nth out kk).2) (hfa _ (by omega))) ?_
              refine SL.norm [_, _, _, _] rfl ?_
              refine SD.back (fun _ h => h) ?_
              refine SD.one 8 [true, true, true, true, true, true, true, true, true, false] (by kernel_rfl) rfl rfl ?_
              refine SL.calle rfl rfl rfl rfl rfl rfl callable31 (fun w hw => stay_ok (ruleX fl rl (nth pl (nth out kk).2)) (depD al wl (nth pl (nth out kk).1)) (depD al wl (nth pl (nth out kk).2)) w) ?_
              refine SL.norm [_, _, _, _] rfl ?_
              refine SD.back (fun _ h => h) ?_
              refine SD.take 9 [true, true, true, true, true, true, true, true, true, true] rfl (by kernel_rfl) rfl (fun _ h => h) rfl rfl rfl (PureOp.assign rfl) ?_
              refine SD.done (by kernel_rfl) ?_
              refine QX.ofK ?_
              refine QX.then_ ?_
              refine WC.seq ?_
              refine WC.region ?_
              refine SL.pure rfl rfl rfl (PureOp.move rfl) ?_
              refine SL.pure rfl rfl rfl (PureOp.neq rfl rfl) ?_
              refine SL.nil_then ?_
              refine WC.cond rfl (fun h8 => ?_) (fun h8 => ?_)
              · try simp only [Bool.and_eq_true, Bool.or_eq_true, Bool.not_eq_true', Bool.not_eq_false', Bool.and_eq_false_iff, Bool.or_eq_false_iff, decide_eq_true_eq, decide_eq_false_iff_not, Int.not_lt, Int.not_le, ne_eq, Decidable.not_not] at h8
                refine WC.seq ?_
                refine WC.region ?_
                refine SL.pure rfl rfl rfl (PureOp.move rfl) ?_
                refine SL.pure rfl rfl rfl (PureOp.assign rfl) ?_
                refine SL.nil_then ?_
                refine WC.ret ?_
                refine QX.ret_in ?_
                refine QX.ret_then ?_
                refine QX.ret_then ?_
                refine QX.ret_in ?_
                refine QX.ret_in ?_
                refine QX.ret_then ?_
                refine QX.ret_then ?_
                refine QX.ret_in ?_
                refine QX.ret_then ?_
                refine QX.ret1 rfl rfl ?_
                intro w hw
                rw [stays_p (e := 0) hfr h3 hout, firstZ_at hs (by omega) (by rw [pairS_2 h5 (hs1 (by omega))]; exact h8), pairS_2 h5 (hs1 (by omega))]
              · try simp only [Bool.and_eq_true, Bool.or_eq_true, Bool.not_eq_true', Bool.not_eq_false', Bool.and_eq_false_iff, Bool.or_eq_false_iff, decide_eq_true_eq, decide_eq_false_iff_not, Int.not_lt, Int.not_le, ne_eq, Decidable.not_not] at h8
                refine WC.skip ?_
                refine QX.normal_in ?_
                refine QX.then_ ?_
                refine WC.region ?_
                refine SL.pure rfl rfl rfl (PureOp.addN (k := 1) rfl rfl (fun _ => by first | omega | (have q := hfa k (by omega); omega))) ?_
                refine SL.pure rfl rfl rfl (PureOp.move rfl) ?_
                refine SL.nil ?_
                refine QX.round 4 (1 + 1) ⟨⟨by omega, fun _ => hs1 (by omega), fun _ => h8⟩, by first | omega | (dsimp only; omega)⟩ ⟨rfl, rfl, rfl, rfl, rfl, rfl, rfl, rfl, rfl, rfl, rfl, rfl, rfl, rfl, rfl, rfl, rfl, rfl, rfl, rfl, rfl, rfl, rfl, rfl, rfl, rfl, rfl, rfl, rfl, rfl, rfl, rfl, rfl, rfl, rfl, rfl, rfl, rfl, rfl, rfl, rfl, rfl, rfl, rfl, rfl, rfl, rfl, rfl, rfl, rfl, rfl, rfl, rfl, rfl, rfl, rfl, rfl, rfl, rfl, rfl, rfl, rfl, rfl, rfl, rfl, rfl, rfl, rfl, rfl, rfl, rfl, rfl, rfl, rfl, rfl, rfl, rfl, rfl, rfl, rfl, rfl, rfl, rfl, rfl, rfl, rfl, rfl, rfl, rfl, rfl, rfl, rfl, rfl, rfl, rfl, rfl, rfl, rfl, rfl, rfl, rfl, rfl, rfl, rfl, rfl, rfl, rfl, rfl, rfl, rfl, rfl, rfl, rfl, rfl, rfl, rfl, rfl, rfl, trivial⟩ rfl
          · try simp only [Bool.and_eq_true, Bool.or_eq_true, Bool.not_eq_true', Bool.not_eq_false', Bool.and_eq_false_iff, Bool.or_eq_false_iff, decide_eq_true_eq, decide_eq_false_iff_not, Int.not_lt, Int.not_le, ne_eq, Decidable.not_not] at h6
            refine WC.exit ?_
            refine QX.exit_then ?_
            refine QX.exit_then ?_
            refine QX.exit_hit ?_
            refine QX.normal_in ?_
            refine QX.then_ ?_
            refine WC.region ?_
            refine SL.pure rfl rfl rfl (PureOp.addN (k := 1) rfl rfl (fun _ => by first | omega | (have q := hfa k (by omega); omega))) ?_
            refine SL.pure rfl rfl rfl (PureOp.move rfl) ?_
            refine SL.nil ?_
            refine QX.round 3 (kk + 1) ⟨⟨(by first | omega | (dsimp only; omega)), firstZ_next hs (by rw [pairS_2 h5 (hs1 (by omega))]; exact hs2 (by omega))⟩, by first | omega | (dsimp only; omega)⟩ ⟨rfl, rfl, rfl, rfl, rfl, rfl, rfl, rfl, rfl, rfl, rfl, rfl, rfl, rfl, rfl, rfl, rfl, rfl, rfl, rfl, rfl, rfl, rfl, rfl, rfl, rfl, rfl, rfl, rfl, rfl, rfl, rfl, rfl, rfl, rfl, rfl, rfl, rfl, rfl, rfl, rfl, rfl, rfl, rfl, rfl, rfl, trivial⟩ rfl
      · try simp only [Bool.and_eq_true, Bool.or_eq_true, Bool.not_eq_true', Bool.not_eq_false', Bool.and_eq_false_iff, Bool.or_eq_false_iff, decide_eq_true_eq, decide_eq_false_iff_not, Int.not_lt, Int.not_le, ne_eq, Decidable.not_not] at h4
        refine WC.exit ?_
        refine QX.exit_then ?_
        refine QX.exit_then ?_
        refine QX.exit_hit ?_
        refine QX.then_ ?_
        refine WC.seq ?_
        refine WC.region ?_
        refine SL.pure rfl rfl rfl (PureOp.assign rfl) ?_
        refine SL.nil_then ?_
        refine WC.ret ?_
        refine QX.ret1 rfl rfl ?_
        intro w hw
        rw [stays_p (e := 0) hfr h3 hout, show out.length = kk from by omega, hs]

def chkE (cv : Bool) (e1 mx st : Int) : Int := if cv = true then (if e1 ≠ 0 then e1 else if mx ≠ 0 then mx else st) else 2
set_option maxHeartbeats 4000000 in
set_option maxRecDepth 100000 in
theorem check_ok (u3 : SliceV Unit) (al : List Ai) (aao : Option Addr) (an acap : Nat) (han : an = al.length) (u1 u2 : SliceV Unit) (fl : List Fa) (rl : List Ru) (rao : Option Addr) (rn rcap : Nat) (fao : Option Addr) (fn fcap : Nat) (hfn : fn = fl.length) (hrn : rn = rl.length) (w0 : World) (sA : SliceIn w0 5 aao an acap (rowsF enc88 al)) (hab : an ≤ 1000) (hf : SliceIn w0 9 fao fn fcap (rowsF enc52 fl)) (hr : SliceIn w0 15 rao rn rcap (rowsF enc76 rl)) (hfb : fn ≤ 1000) (hrb : rn ≤ 1000) (hcm : ∀ r ∈ rl, SliceIn w0 1 r.2.2.1.ao r.2.2.1.l.length r.2.2.1.cap (rowsF encI r.2.2.1.l)) (wl : List Wa) (wao : Option Addr) (wn wcap : Nat) (hwn : wn = wl.length) (sW : SliceIn w0 8 wao wn wcap (rowsF enc62 wl)) (hwb : wn ≤ 1000) (hdp : ∀ i, i < wn → -1099511627776 ≤ (nth wl i).1.2.2.2.2.2.1 ∧ (nth wl i).1.2.2.2.2.2.1 ≤ 1099511627776) (hsh : ∀ a ∈ al, SliceIn w0 2 a.2.2.2.2.ao a.2.2.2.2.l.length a.2.2.2.2.cap (rowsF enc133 a.2.2.2.2.l)) (hof : ∀ a ∈ al, ∀ u, -1000000 ≤ offE u a.2.2.2.1 a.2.2.2.2.l ∧ offE u a.2.2.2.1 a.2.2.2.2.l ≤ 1000000) (pl : List Pt) (pao : Option Addr) (pn pcap : Nat) (hpn : pn = pl.length) (hp : SliceIn w0 4 pao pn pcap (rowsF enc42 pl)) (hpb : pn ≤ 1000) : FnC Try.prog 16 [.agg #[.slice aao an acap, .slice u3.ao u3.l.length u3.cap], .agg #[.slice fao fn fcap, .slice rao rn rcap, .slice u1.ao u1.l.length u1.cap, .slice u2.ao u2.l.length u2.cap], .slice wao wn wcap, .slice pao pn pcap] w0 fun v w' => v = .int .i64 (chkE (covB (wn : Int) pl) (resP (allK (prF fn pl) pl.length) 19 23 pn (rdF fl pl) (mtF fl pl)).1 (mixedE (allK (prF fn pl) pl.length) pn (mixX fl rl pl)) (staysE wn (resP (allK (prF fn pl) pl.length) 19 23 pn (rdF fl pl) (mtF fl pl)) fl rl al wl pl)) := by
  refine fnc (N := 37) Try.func16 rfl rfl rfl ?_
  refine WC.seq ?_
  refine WC.region ?_
  refine SL.box rfl rfl rfl (fun b1 hb1 => ?_)
  refine SL.norm [_] rfl ?_
  refine SL.box rfl rfl rfl (fun b2 hb2 => ?_)
  refine SL.norm [_, _] rfl ?_
  refine SL.pure rfl rfl rfl (PureOp.assign rfl) ?_
  refine SL.nil_then ?_
  refine WC.seq ?_
  refine WC.seq ?_
  refine WC.region ?_
  refine SL.pure rfl rfl rfl (PureOp.move rfl) ?_
  refine SL.pure rfl rfl rfl (PureOp.move rfl) ?_
  refine SL.pure rfl rfl rfl (PureOp.len rfl Try.underlying45) ?_
  refine SL.calle rfl rfl rfl rfl rfl rfl callable33 (fun w hw => covers_ok pl pao pn pcap hpn w (hp.below hw.below) hpb (wn : Int)) ?_
  refine SL.norm [_, _] rfl ?_
  refine SL.pure rfl rfl rfl (PureOp.not rfl) ?_
  refine SL.nil_then ?_
  refine WC.cond rfl (fun h1 => ?_) (fun h1 => ?_)
  · try simp only [Bool.and_eq_true, Bool.or_eq_true, Bool.not_eq_true', Bool.not_eq_false', Bool.and_eq_false_iff, Bool.or_eq_false_iff, decide_eq_true_eq, decide_eq_false_iff_not, Int.not_lt, Int.not_le, ne_eq, Decidable.not_not] at h1
    refine WC.seq ?_
    refine WC.region ?_
    refine SL.pure rfl rfl rfl (PureOp.assign rfl) ?_
    refine SL.nil_then ?_
    refine WC.ret ?_
    refine QX.ret_then ?_
    refine QX.ret1 rfl rfl ?_
    intro w hw
    rw [chkE, if_neg (by simpa using h1)]
  · try simp only [Bool.and_eq_true, Bool.or_eq_true, Bool.not_eq_true', Bool.not_eq_false', Bool.and_eq_false_iff, Bool.or_eq_false_iff, decide_eq_true_eq, decide_eq_false_iff_not, Int.not_lt, Int.not_le, ne_eq, Decidable.not_not] at h1
    refine WC.skip ?_
    refine QX.then_ ?_
    refine WC.seq ?_
    refine WC.seq ?_
    refine WC.region ?_
    refine SL.pure rfl rfl rfl (PureOp.loads (vs := [.slice fao fn fcap, .slice rao rn rcap, .slice u1.ao u1.l.length u1.cap, .slice u2.ao u2.l.length u2.cap]) Try.underlying27 rfl rfl (fun _ => (RowIs.cells 1 0 4 rfl rfl)) sz27) ?_
    refine SL.pure rfl rfl rfl (PureOp.move rfl) ?_
    refine SL.callo (fun ya yc => .tuple #[.slice ya ((resP (allK (prF fn pl) pl.length) 19 23 pn (rdF fl pl) (mtF fl pl)).2.length) yc, .int .i64 ((resP (allK (prF fn pl) pl.length) 19 23 pn (rdF fl pl) (mtF fl pl)).1)]) rfl rfl rfl rfl rfl rfl callable8 (fun w hw => pairs_ok u1 u2 fl rao rn rcap fao fn fcap hfn w (hf.below hw.below) hfb pl pao pn pcap hpn (hp.below hw.below) hpb) (fun ya yc => ?_)
    refine SL.norm [_, _, _] rfl ?_
    refine SL.pure rfl rfl rfl (PureOp.move rfl) ?_
    refine SL.pure rfl rfl rfl (PureOp.extract rfl rfl) ?_
    refine SL.pure rfl rfl rfl (PureOp.extract rfl rfl) ?_
    refine SL.pure rfl rfl rfl (PureOp.assign rfl) ?_
    refine SL.pure rfl rfl rfl (PureOp.assign rfl) ?_
    refine SL.nil_then ?_
    refine WC.seq ?_
    refine WC.region ?_
    refine SL.pure rfl rfl rfl (PureOp.move rfl) ?_
    refine SL.pure rfl rfl rfl (PureOp.neq rfl rfl) ?_
    refine SL.nil_then ?_
    refine WC.cond rfl (fun h2 => ?_) (fun h2 => ?_)
    · try simp only [Bool.and_eq_true, Bool.or_eq_true, Bool.not_eq_true', Bool.not_eq_false', Bool.and_eq_false_iff, Bool.or_eq_false_iff, decide_eq_true_eq, decide_eq_false_iff_not, Int.not_lt, Int.not_le, ne_eq, Decidable.not_not] at h2
      refine WC.seq ?_
      refine WC.region ?_
      refine SL.pure rfl rfl rfl (PureOp.move rfl) ?_
      refine SL.pure rfl rfl rfl (PureOp.assign rfl) ?_
      refine SL.nil_then ?_
      refine WC.ret ?_
      refine QX.ret_then ?_
      refine QX.ret1 rfl rfl ?_
      intro w hw
      (rw [chkE, if_pos (by simpa using h1), if_pos (by simpa using h2)]) <;> rfl
    · try simp only [Bool.and_eq_true, Bool.or_eq_true, Bool.not_eq_true', Bool.not_eq_false', Bool.and_eq_false_iff, Bool.or_eq_false_iff, decide_eq_true_eq, decide_eq_false_iff_not, Int.not_lt, Int.not_le, ne_eq, Decidable.not_not] at h2
      refine WC.skip ?_
      refine QX.then_ ?_
      refine WC.seq ?_
      refine WC.seq ?_
      refine WC.region ?_
      refine SL.pure rfl rfl rfl (PureOp.loads (vs := [.slice fao fn fcap, .slice rao rn rcap, .slice u1.ao u1.l.length u1.cap, .slice u2.ao u2.l.length u2.cap]) Try.underlying27 rfl rfl (fun _ => (RowIs.cells 1 0 4 rfl rfl)) sz27) ?_
      refine SL.pure rfl rfl rfl (PureOp.move rfl) ?_
      refine SL.calle rfl rfl rfl rfl rfl rfl callable12 (fun w hw => mixedw_ok u1 u2 fl rl rao rn rcap fao fn fcap hfn hrn w (hf.below hw.below) (hr.below hw.below) hfb hrb (fun r hr => (hcm r hr).below hw.below) pl pao pn pcap hpn (hp.below hw.below) hpb) ?_
      refine SL.norm [_, _, _] rfl ?_
      refine SL.pure rfl rfl rfl (PureOp.assign rfl) ?_
      refine SL.nil_then ?_
      refine WC.seq ?_
      refine WC.region ?_
      refine SL.pure rfl rfl rfl (PureOp.move rfl) ?_
      refine SL.pure rfl rfl rfl (PureOp.neq rfl rfl) ?_
      refine SL.nil_then ?_
      refine WC.cond rfl (fun h3 => ?_) (fun h3 => ?_)
      · try simp only [Bool.and_eq_true, Bool.or_eq_true, Bool.not_eq_true', Bool.not_eq_false', Bool.and_eq_false_iff, Bool.or_eq_false_iff, decide_eq_true_eq, decide_eq_false_iff_not, Int.not_lt, Int.not_le, ne_eq, Decidable.not_not] at h3
        refine WC.seq ?_
        refine WC.region ?_
        refine SL.pure rfl rfl rfl (PureOp.move rfl) ?_
        refine SL.pure rfl rfl rfl (PureOp.assign rfl) ?_
        refine SL.nil_then ?_
        refine WC.ret ?_
        refine QX.ret_then ?_
        refine QX.ret1 rfl rfl ?_
        intro w hw
        (rw [chkE, if_pos (by simpa using h1), if_neg (by simpa using h2), if_pos (by simpa using h3)]) <;> rfl
      · try simp only [Bool.and_eq_true, Bool.or_eq_true, Bool.not_eq_true', Bool.not_eq_false', Bool.and_eq_false_iff, Bool.or_eq_false_iff, decide_eq_true_eq, decide_eq_false_iff_not, Int.not_lt, Int.not_le, ne_eq, Decidable.not_not] at h3
        refine WC.skip ?_
        refine QX.then_ ?_
        refine WC.seq ?_
        refine WC.region ?_
        refine SL.pure rfl rfl rfl (PureOp.loads (vs := [.slice aao an acap, .slice u3.ao u3.l.length u3.cap]) Try.underlying39 rfl rfl (fun _ => (RowIs.cells 0 0 2 rfl rfl)) sz39) ?_
        refine SL.pure rfl rfl rfl (PureOp.loads (vs := [.slice fao fn fcap, .slice rao rn rcap, .slice u1.ao u1.l.length u1.cap, .slice u2.ao u2.l.length u2.cap]) Try.underlying27 rfl rfl (fun _ => (RowIs.cells 1 0 4 rfl rfl)) sz27) ?_
        refine SL.pure rfl rfl rfl (PureOp.move rfl) ?_
        refine SL.pure rfl rfl rfl (PureOp.move rfl) ?_
        refine SL.calle rfl rfl rfl rfl rfl rfl callable14 (fun w hw => stays_ok u3 al aao an acap han u1 u2 fl rl rao rn rcap fao fn fcap hfn hrn w (sA.below hw.below) hab (hf.below hw.below) (hr.below hw.below) hfb hrb (fun r hr => (hcm r hr).below hw.below) wl wao wn wcap hwn (sW.below hw.below) hwb hdp (fun a ha => (hsh a ha).below hw.below) hof pl pao pn pcap hpn (hp.below hw.below) hpb) ?_
        refine SL.norm [_, _, _] rfl ?_
        refine SL.pure rfl rfl rfl (PureOp.assign rfl) ?_
        refine SL.nil_then ?_
        refine WC.ret ?_
        refine QX.ret1 rfl rfl ?_
        intro w hw
        (rw [chkE, if_pos (by simpa using h1), if_neg (by simpa using h2), if_neg (by simpa using h3)]) <;> rfl

end Go.Proofs.Ytblmafknmeicfaa
