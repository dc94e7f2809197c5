import Derived.Test.YtblgllngkbjfgaaNeP
namespace Go.Proofs.Ytblgllngkbjfgaa
open Go Go.RowKit Eng
set_option linter.unusedVariables false
set_option linter.unusedSimpArgs false

set_option maxHeartbeats 4000000 in
set_option maxRecDepth 100000 in
theorem limits_law (nm : ByteArray) (se ov : Int) (cl : List Cl) (ac : Option Addr) (cc : Nat) (hnm : nm.size ≤ maxLen) (hcs : ∀ i, i < cl.length → (nth cl i).1.size ≤ maxLen) (l : List Int) (ao : Option Addr) (n cap : Nat) (hn : n = l.length) (w0 : World) (hc : SliceIn w0 2 ac cl.length cc (rowsF enc47 cl)) (hs : SliceIn w0 1 ao n cap (rowsF encI l)) (rk : Int) : FnC Try.prog 5 [.agg #[.string nm, .int .i64 se, .int .i64 ov, .slice ac cl.length cc], .slice ao n cap, .int .i64 rk] w0 fun v w' => v = .bool true := by
  refine fnc (N := 122) Try.func5 rfl rfl rfl ?_
  refine WC.seq ?_
  refine WC.region ?_
  refine SL.box rfl rfl rfl (fun b1 hb1 => ?_)
  refine SL.pure rfl rfl rfl (PureOp.assign rfl) ?_
  refine SL.nil_then ?_
  refine WC.seq ?_
  refine WC.seq ?_
  refine WC.region ?_
  refine SL.pure rfl rfl rfl (PureOp.loads (vs := [.string nm, .int .i64 se, .int .i64 ov, .slice ac cl.length cc]) Try.underlying24 rfl rfl (fun _ => (RowIs.cells 0 0 4 rfl rfl)) sz24) ?_
  refine SL.pure rfl rfl rfl (PureOp.move rfl) ?_
  refine SL.callv rfl rfl rfl rfl rfl rfl callable8 (fun w hw => lright_ok nm se ov cl ac cc hnm hcs l ao n cap w (hc.below hw.below)) ?_
  rintro v ⟨rb, rfl, hrb⟩
  refine SL.pure rfl rfl rfl (PureOp.not rfl) ?_
  refine SL.pure rfl rfl rfl (PureOp.move rfl) ?_
  refine SL.newg 19 false rfl ?_
  refine SL.gpure (c := 1) rfl rfl rfl rfl rfl rfl rfl (PureOp.loads (vs := [.string nm, .int .i64 se, .int .i64 ov, .slice ac cl.length cc]) Try.underlying24 rfl rfl (fun _ => (RowIs.cells 0 0 4 rfl rfl)) sz24) ?_
  refine SL.gpure (c := 1) rfl rfl rfl rfl rfl rfl rfl (PureOp.move rfl) ?_
  refine SL.gcalle (c := 1) rfl rfl rfl rfl rfl rfl rfl rfl rfl rfl callable14 (by intro hg; simp [gval] at hg; exact (fun w hw => rfits_ok nm se ov cl ac cl.length cc rfl (hrb hg).1 l ao n cap hn (by have q := hrb hg; omega) w (hs.below hw.below) (hc.below hw.below) (hrb hg).2.2)) ?_
  refine SL.gpure (c := 1) rfl rfl rfl rfl rfl rfl rfl (PureOp.not rfl) ?_
  refine SL.pure rfl rfl rfl (PureOp.or_ rfl rfl rfl rfl) ?_
  refine SL.pure rfl rfl rfl (PureOp.move rfl) ?_
  refine SL.newg 25 false rfl ?_
  refine SL.gpure (c := 2) rfl rfl rfl rfl rfl rfl rfl (PureOp.move rfl) ?_
  refine SL.gpure (c := 2) rfl rfl rfl rfl rfl rfl rfl (PureOp.lss rfl rfl) ?_
  refine SL.pure rfl rfl rfl (PureOp.or_ rfl rfl rfl rfl) ?_
  refine SL.pure rfl rfl rfl (PureOp.move rfl) ?_
  refine SL.newg 29 false rfl ?_
  refine SL.gpure (c := 3) rfl rfl rfl rfl rfl rfl rfl (PureOp.move rfl) ?_
  refine SL.gpure (c := 3) rfl rfl rfl rfl rfl rfl rfl (PureOp.move rfl) ?_
  refine SL.gpure (c := 3) rfl rfl rfl rfl rfl rfl rfl (PureOp.len rfl Try.underlying25) ?_
  refine SL.gpure (c := 3) rfl rfl rfl rfl rfl rfl rfl (PureOp.geq rfl rfl) ?_
  refine SL.pure rfl rfl rfl (PureOp.or_ rfl rfl rfl rfl) ?_
  refine SL.nil_then ?_
  refine WC.cond rfl (fun h1 => ?_) (fun h1 => ?_)
  · try simp only [Bool.and_eq_true, Bool.or_eq_true, Bool.not_eq_true', Bool.not_eq_false', Bool.and_eq_false_iff, Bool.or_eq_false_iff, decide_eq_true_eq, decide_eq_false_iff_not, Int.not_lt, Int.not_le, ne_eq, Decidable.not_not] at h1
    refine WC.seq ?_
    refine WC.region ?_
    refine SL.calle rfl rfl rfl rfl rfl rfl callable9 (fun w hw => awake_ok w) ?_
    refine SL.pure rfl rfl rfl (PureOp.assign rfl) ?_
    refine SL.nil_then ?_
    refine WC.ret ?_
    refine QX.ret_then ?_
    refine QX.ret1 rfl rfl ?_
    intro w hw
    first | rfl | exact congrArg Value.bool (by have q := limits_end hf hk; simpa using q)
  · try simp only [Bool.and_eq_true, Bool.or_eq_true, Bool.not_eq_true', Bool.not_eq_false', Bool.and_eq_false_iff, Bool.or_eq_false_iff, decide_eq_true_eq, decide_eq_false_iff_not, Int.not_lt, Int.not_le, ne_eq, Decidable.not_not] at h1
    obtain ⟨⟨⟨hrb1, hf⟩, hr0⟩, hrn⟩ := h1
    obtain ⟨hcb, hnb, hR⟩ := hrb hrb1
    obtain ⟨k, rfl⟩ : ∃ k : Nat, rk = k := ⟨rk.toNat, by omega⟩
    have hr := (fits_iff.1 hf).1
    have hk : k < l.length := by omega
    have hob := open_bd hR hr hk
    refine WC.skip ?_
    refine QX.then_ ?_
    refine WC.seq ?_
    refine WC.region ?_
    refine SL.pure rfl rfl rfl (PureOp.loads (vs := [.string nm, .int .i64 se, .int .i64 ov, .slice ac cl.length cc]) Try.underlying24 rfl rfl (fun _ => (RowIs.cells 0 0 4 rfl rfl)) sz24) ?_
    refine SL.pure rfl rfl rfl (PureOp.move rfl) ?_
    refine SL.callo (fun oa oc => .slice oa n oc) rfl rfl rfl rfl rfl rfl callable11 (fun w hw => open_r nm se ov cl ac cl.length cc rfl hcb l ao n cap hn (by omega) w (hs.below hw.below) (hc.below hw.below) hR hr) (fun oa oc => ?_)
    refine SL.pure rfl rfl rfl (PureOp.assign rfl) ?_
    refine SL.nil_then ?_
    refine WC.seq ?_
    refine WC.seq ?_
    refine WC.region ?_
    refine SL.pure rfl rfl rfl (PureOp.move rfl) ?_
    refine SL.pure rfl rfl rfl (PureOp.len rfl Try.underlying25) ?_
    refine SL.pure rfl rfl rfl (PureOp.move rfl) ?_
    refine SL.pure rfl rfl rfl (PureOp.len rfl Try.underlying25) ?_
    refine SL.pure rfl rfl rfl (PureOp.neq rfl rfl) ?_
    refine SL.lit 43 false rfl (by simp) ?_
    refine SL.nil_then ?_
    refine WC.condF rfl ?_
    refine WC.skip ?_
    refine QX.then_ ?_
    refine WC.seq ?_
    refine WC.region ?_
    refine SL.pure rfl rfl rfl (PureOp.move rfl) ?_
    refine SL.pure rfl rfl rfl (PureOp.move rfl) ?_
    refine SL.pure rfl rfl rfl (PureOp.indexAddrN Try.underlying25 sz3 rfl rfl (AoOk.own 1 rfl) (fun _ => by (first | omega))) ?_
    refine SL.pure rfl rfl rfl (PureOp.load (v := .int .i64 (opn (se + ov) cl l k)) Try.underlying3 rfl rfl (fun _ => (CellIs.ownc 1 rfl k 0 (by exact (encI_get (by rw [tab_len]; omega)).trans (by rw [tab_nth _ _ (by omega)]))))) ?_
    refine SL.pure rfl rfl rfl (PureOp.assign rfl) ?_
    refine SL.nil_then ?_
    refine WC.seq ?_
    refine WC.region ?_
    refine SL.pure rfl rfl rfl (PureOp.loads (vs := [.string nm, .int .i64 se, .int .i64 ov, .slice ac cl.length cc]) Try.underlying24 rfl rfl (fun _ => (RowIs.cells 0 0 4 rfl rfl)) sz24) ?_
    refine SL.pure rfl rfl rfl (PureOp.move rfl) ?_
    refine SL.pure rfl rfl rfl (PureOp.move rfl) ?_
    refine SL.pure rfl rfl rfl (PureOp.move rfl) ?_
    refine SL.pure rfl rfl rfl (PureOp.add rfl rfl (fun _ => by (first | omega))) ?_
    refine SL.callo (fun sa sc => .tuple #[.slice sa 0 sc, .int .i64 17]) rfl rfl rfl rfl rfl rfl callable17 (fun w hw => Sell_no nm se ov cl ac cl.length cc rfl hcb l ao n cap hn (by omega) w (hs.below hw.below) (hc.below hw.below) hR k (opn (se + ov) cl l k + 1) hr (by omega) hk (by omega) (by omega)) (fun sa sc => ?_)
    refine SL.pure rfl rfl rfl (PureOp.move rfl) ?_
    refine SL.pure rfl rfl rfl (PureOp.extract rfl rfl) ?_
    refine SL.pure rfl rfl rfl (PureOp.extract rfl rfl) ?_
    refine SL.pure rfl rfl rfl (PureOp.assign rfl) ?_
    refine SL.pure rfl rfl rfl (PureOp.assign rfl) ?_
    refine SL.nil_then ?_
    refine WC.seq ?_
    refine WC.seq ?_
    refine WC.region ?_
    refine SL.pure rfl rfl rfl (PureOp.move rfl) ?_
    refine SL.pure rfl rfl rfl (PureOp.neq rfl rfl) ?_
    refine SL.lit 58 false rfl (by decide) ?_
    refine SL.nil_then ?_
    refine WC.condF rfl ?_
    refine WC.skip ?_
    refine QX.then_ ?_
    refine WC.seq ?_
    refine WC.seq ?_
    refine WC.region ?_
    refine SL.pure rfl rfl rfl (PureOp.move rfl) ?_
    refine SL.pure rfl rfl rfl (PureOp.gtr rfl rfl) ?_
    refine SL.nil_then ?_
    refine WC.cond rfl (fun h2 => ?_) (fun h2 => ?_)
    · try simp only [Bool.and_eq_true, Bool.or_eq_true, Bool.not_eq_true', Bool.not_eq_false', Bool.and_eq_false_iff, Bool.or_eq_false_iff, decide_eq_true_eq, decide_eq_false_iff_not, Int.not_lt, Int.not_le, ne_eq, Decidable.not_not] at h2
      refine WC.seq ?_
      refine WC.region ?_
      refine SL.pure rfl rfl rfl (PureOp.loads (vs := [.string nm, .int .i64 se, .int .i64 ov, .slice ac cl.length cc]) Try.underlying24 rfl rfl (fun _ => (RowIs.cells 0 0 4 rfl rfl)) sz24) ?_
      refine SL.pure rfl rfl rfl (PureOp.move rfl) ?_
      refine SL.pure rfl rfl rfl (PureOp.move rfl) ?_
      refine SL.pure rfl rfl rfl (PureOp.move rfl) ?_
      refine SL.callo (fun ta tc => .tuple #[.slice ta n tc, .int .i64 0]) rfl rfl rfl rfl rfl rfl callable17 (fun w hw => Sell_is nm se ov cl ac cl.length cc rfl hcb l ao n cap hn (by omega) w (hs.below hw.below) (hc.below hw.below) hR k (opn (se + ov) cl l k) hr (by omega) hk (Int.le_refl _)) (fun ta tc => ?_)
      refine SL.pure rfl rfl rfl (PureOp.move rfl) ?_
      refine SL.pure rfl rfl rfl (PureOp.extract rfl rfl) ?_
      refine SL.pure rfl rfl rfl (PureOp.extract rfl rfl) ?_
      refine SL.pure rfl rfl rfl (PureOp.assign rfl) ?_
      refine SL.pure rfl rfl rfl (PureOp.assign rfl) ?_
      refine SL.nil_then ?_
      refine WC.seq ?_
      refine WC.region ?_
      refine SL.pure rfl rfl rfl (PureOp.move rfl) ?_
      refine SL.pure rfl rfl rfl (PureOp.neq rfl rfl) ?_
      refine SL.lit 70 false rfl (by decide) ?_
      refine SL.pure rfl rfl rfl (PureOp.move rfl) ?_
      refine SL.ung rfl rfl rfl rfl ?_
      refine SL.pure rfl rfl rfl (PureOp.loads (vs := [.string nm, .int .i64 se, .int .i64 ov, .slice ac cl.length cc]) Try.underlying24 rfl rfl (fun _ => (RowIs.cells 0 0 4 rfl rfl)) sz24) ?_
      refine SL.ung rfl rfl rfl rfl ?_
      refine SL.pure rfl rfl rfl (PureOp.move rfl) ?_
      refine SL.ung rfl rfl rfl rfl ?_
      refine SL.calle rfl rfl rfl rfl rfl rfl callable13 (fun w hw => (by have h := fits_ok nm se ov cl ac cl.length cc rfl hcb (l.set k (nth l k + opn (se + ov) cl l k)) _ n _ (by rw [List.length_set]; exact hn) (by omega) w (SliceIn.rows (hw.mem (i := 3) rfl) encI_len (by rw [List.length_set]; omega)) (hc.below hw.below) hR; rw [sold_fits hR hf hk (by omega) (Int.le_refl _)] at h; exact h)) ?_
      refine SL.ung rfl rfl rfl rfl ?_
      refine SL.pure rfl rfl rfl (PureOp.not rfl) ?_
      refine SL.pure rfl rfl rfl (PureOp.pickF rfl rfl) ?_
      refine SL.pure rfl rfl rfl (PureOp.move rfl) ?_
      refine SL.ung rfl rfl rfl rfl ?_
      refine SL.pure rfl rfl rfl (PureOp.loads (vs := [.string nm, .int .i64 se, .int .i64 ov, .slice ac cl.length cc]) Try.underlying24 rfl rfl (fun _ => (RowIs.cells 0 0 4 rfl rfl)) sz24) ?_
      refine SL.ung rfl rfl rfl rfl ?_
      refine SL.pure rfl rfl rfl (PureOp.move rfl) ?_
      refine SL.ung rfl rfl rfl rfl ?_
      refine SL.callo (fun pa2 pc2 => .slice pa2 n pc2) rfl rfl rfl rfl rfl rfl callable11 (fun w hw => open_r nm se ov cl ac cl.length cc rfl hcb (l.set k (nth l k + opn (se + ov) cl l k)) _ n _ (by rw [List.length_set]; exact hn) (by omega) w (SliceIn.rows (hw.mem (i := 3) rfl) encI_len (by rw [List.length_set]; omega)) (hc.below hw.below) hR ((sold_right hR hr hk (by omega) (Int.le_refl _)).1)) (fun pa2 pc2 => ?_)
      refine SL.ung rfl rfl rfl rfl ?_
      refine SL.pure rfl rfl rfl (PureOp.len rfl Try.underlying25) ?_
      refine SL.ung rfl rfl rfl rfl ?_
      refine SL.pure rfl rfl rfl (PureOp.move rfl) ?_
      refine SL.ung rfl rfl rfl rfl ?_
      refine SL.pure rfl rfl rfl (PureOp.len rfl Try.underlying25) ?_
      refine SL.ung rfl rfl rfl rfl ?_
      refine SL.pure rfl rfl rfl (PureOp.neq rfl rfl) ?_
      refine SL.lit 84 false rfl (by simp) ?_
      refine SL.pure rfl rfl rfl (PureOp.pickF rfl rfl) ?_
      refine SL.pure rfl rfl rfl (PureOp.move rfl) ?_
      refine SL.ung rfl rfl rfl rfl ?_
      refine SL.pure rfl rfl rfl (PureOp.loads (vs := [.string nm, .int .i64 se, .int .i64 ov, .slice ac cl.length cc]) Try.underlying24 rfl rfl (fun _ => (RowIs.cells 0 0 4 rfl rfl)) sz24) ?_
      refine SL.ung rfl rfl rfl rfl ?_
      refine SL.pure rfl rfl rfl (PureOp.move rfl) ?_
      refine SL.ung rfl rfl rfl rfl ?_
      refine SL.callo (fun pa3 pc3 => .slice pa3 n pc3) rfl rfl rfl rfl rfl rfl callable11 (fun w hw => open_r nm se ov cl ac cl.length cc rfl hcb (l.set k (nth l k + opn (se + ov) cl l k)) _ n _ (by rw [List.length_set]; exact hn) (by omega) w (SliceIn.rows (hw.mem (i := 3) rfl) encI_len (by rw [List.length_set]; omega)) (hc.below hw.below) hR ((sold_right hR hr hk (by omega) (Int.le_refl _)).1)) (fun pa3 pc3 => ?_)
      refine SL.ung rfl rfl rfl rfl ?_
      refine SL.pure rfl rfl rfl (PureOp.move rfl) ?_
      refine SL.ung rfl rfl rfl rfl ?_
      refine SL.pure rfl rfl rfl (PureOp.indexAddrN Try.underlying25 sz3 rfl rfl (AoOk.own 5 rfl) (fun _ => by (first | omega))) ?_
      refine SL.ung rfl rfl rfl rfl ?_
      refine SL.pure rfl rfl rfl (PureOp.load (v := .int .i64 (opn (se + ov) cl (l.set k (nth l k + opn (se + ov) cl l k)) k)) Try.underlying3 rfl rfl (fun _ => (CellIs.ownc 5 rfl k 0 (by exact (encI_get (by rw [tab_len]; omega)).trans (by rw [tab_nth _ _ (by omega)]))))) ?_
      refine SL.ung rfl rfl rfl rfl ?_
      refine SL.pure rfl rfl rfl (PureOp.neq rfl rfl) ?_
      refine SL.lit 93 false rfl (by rw [sold_none hR hr hk (by omega) rfl]; decide) ?_
      refine SL.pure rfl rfl rfl (PureOp.pickF rfl rfl) ?_
      refine SL.nil_then ?_
      refine WC.condF rfl ?_
      refine WC.skip ?_
      refine QX.then_ ?_
      refine WC.seq ?_
      refine WC.region ?_
      refine SL.pure rfl rfl rfl (PureOp.loads (vs := [.string nm, .int .i64 se, .int .i64 ov, .slice ac cl.length cc]) Try.underlying24 rfl rfl (fun _ => (RowIs.cells 0 0 4 rfl rfl)) sz24) ?_
      refine SL.pure rfl rfl rfl (PureOp.move rfl) ?_
      refine SL.pure rfl rfl rfl (PureOp.move rfl) ?_
      refine SL.callo (fun ua uc => .tuple #[.slice ua ((cancL cl l (k : Int) 1).length) uc, .int .i64 (cancE cl l (k : Int) 1)]) rfl rfl rfl rfl rfl rfl callable19 (fun w hw => Cancel_ok nm se ov cl ac cl.length cc rfl hcb l ao n cap hn (by omega) w (hs.below hw.below) (hc.below hw.below) hR (k : Int) 1 (by decide)) (fun ua uc => ?_)
      refine SL.pure rfl rfl rfl (PureOp.move rfl) ?_
      refine SL.pure rfl rfl rfl (PureOp.extract rfl rfl) ?_
      refine SL.pure rfl rfl rfl (PureOp.extract rfl rfl) ?_
      refine SL.pure rfl rfl rfl (PureOp.assign rfl) ?_
      refine SL.pure rfl rfl rfl (PureOp.assign rfl) ?_
      refine SL.nil_then ?_
      refine WC.seq ?_
      refine WC.region ?_
      refine SL.pure rfl rfl rfl (PureOp.move rfl) ?_
      refine SL.pure rfl rfl rfl (PureOp.eql rfl rfl) ?_
      refine SL.pure rfl rfl rfl (PureOp.move rfl) ?_
      refine SL.pure rfl rfl rfl (PureOp.move rfl) ?_
      refine SL.pure rfl rfl rfl (PureOp.indexAddrN Try.underlying25 sz3 rfl rfl (AoOk.in_ hs) (fun _ => by (first | omega))) ?_
      refine SL.pure rfl rfl rfl (PureOp.load (v := .int .i64 (nth l k)) Try.underlying3 rfl rfl (fun _ => (CellIs.in_ hs k 0 (by (first | omega)) (by omega)))) ?_
      refine SL.pure rfl rfl rfl (PureOp.gtr rfl rfl) ?_
      refine SL.pure rfl rfl rfl (PureOp.eqlb rfl rfl Try.underlying4) ?_
      refine SL.pure rfl rfl rfl (PureOp.move rfl) ?_
      refine SL.newg 110 true rfl ?_
      refine SL.gpure (c := 4) rfl rfl rfl rfl rfl rfl rfl (PureOp.move rfl) ?_
      refine SL.gpure (c := 4) rfl rfl rfl rfl rfl rfl rfl (PureOp.neq rfl rfl) ?_
      refine SL.gpure (c := 4) rfl rfl rfl rfl rfl rfl rfl (PureOp.move rfl) ?_
      refine SL.newg 113 false rfl ?_
      refine SL.gpure (c := 5) rfl rfl rfl rfl rfl rfl rfl (PureOp.loads (vs := [.string nm, .int .i64 se, .int .i64 ov, .slice ac cl.length cc]) Try.underlying24 rfl rfl (fun _ => (RowIs.cells 0 0 4 rfl rfl)) sz24) ?_
      refine SL.gpure (c := 5) rfl rfl rfl rfl rfl rfl rfl (PureOp.move rfl) ?_
      refine SL.gcalle (c := 5) rfl rfl rfl rfl rfl rfl rfl rfl rfl rfl callable13 (by intro hg; simp [gval] at hg; exact (fun w hw => fits_ok nm se ov cl ac cl.length cc rfl hcb (cancL cl l (k : Int) 1) _ _ _ rfl (by have q := cancL_len (cl := cl) (l := l) (r := (k : Int)) (x := 1); omega) w (SliceIn.rows (hw.mem (i := 6) rfl) encI_len (Nat.le_refl _)) (hc.below hw.below) hR)) ?_
      refine SL.gpure (c := 4) rfl rfl rfl rfl rfl rfl rfl (PureOp.or_ rfl rfl rfl rfl) ?_
      refine SL.pure rfl rfl rfl (PureOp.and_ rfl rfl rfl rfl) ?_
      refine SL.pure rfl rfl rfl (PureOp.move rfl) ?_
      refine SL.newg 119 true rfl ?_
      refine SL.gcalle (c := 6) rfl rfl rfl rfl rfl rfl rfl rfl rfl rfl callable9 (by intro hg; simp [gval] at hg; exact (fun w hw => awake_ok w)) ?_
      refine SL.pure rfl rfl rfl (PureOp.and_ rfl rfl rfl rfl) ?_
      refine SL.pure rfl rfl rfl (PureOp.assign rfl) ?_
      refine SL.nil_then ?_
      refine WC.ret ?_
      refine QX.ret1 rfl rfl ?_
      intro w hw
      first | rfl | exact congrArg Value.bool (by have q := limits_end hf hk; simpa using q)
    · try simp only [Bool.and_eq_true, Bool.or_eq_true, Bool.not_eq_true', Bool.not_eq_false', Bool.and_eq_false_iff, Bool.or_eq_false_iff, decide_eq_true_eq, decide_eq_false_iff_not, Int.not_lt, Int.not_le, ne_eq, Decidable.not_not] at h2
      refine WC.skip ?_
      refine QX.then_ ?_
      refine WC.seq ?_
      refine WC.region ?_
      refine SL.pure rfl rfl rfl (PureOp.loads (vs := [.string nm, .int .i64 se, .int .i64 ov, .slice ac cl.length cc]) Try.underlying24 rfl rfl (fun _ => (RowIs.cells 0 0 4 rfl rfl)) sz24) ?_
      refine SL.pure rfl rfl rfl (PureOp.move rfl) ?_
      refine SL.pure rfl rfl rfl (PureOp.move rfl) ?_
      refine SL.callo (fun ua uc => .tuple #[.slice ua ((cancL cl l (k : Int) 1).length) uc, .int .i64 (cancE cl l (k : Int) 1)]) rfl rfl rfl rfl rfl rfl callable19 (fun w hw => Cancel_ok nm se ov cl ac cl.length cc rfl hcb l ao n cap hn (by omega) w (hs.below hw.below) (hc.below hw.below) hR (k : Int) 1 (by decide)) (fun ua uc => ?_)
      refine SL.pure rfl rfl rfl (PureOp.move rfl) ?_
      refine SL.pure rfl rfl rfl (PureOp.extract rfl rfl) ?_
      refine SL.pure rfl rfl rfl (PureOp.extract rfl rfl) ?_
      refine SL.pure rfl rfl rfl (PureOp.assign rfl) ?_
      refine SL.pure rfl rfl rfl (PureOp.assign rfl) ?_
      refine SL.nil_then ?_
      refine WC.seq ?_
      refine WC.region ?_
      refine SL.pure rfl rfl rfl (PureOp.move rfl) ?_
      refine SL.pure rfl rfl rfl (PureOp.eql rfl rfl) ?_
      refine SL.pure rfl rfl rfl (PureOp.move rfl) ?_
      refine SL.pure rfl rfl rfl (PureOp.move rfl) ?_
      refine SL.pure rfl rfl rfl (PureOp.indexAddrN Try.underlying25 sz3 rfl rfl (AoOk.in_ hs) (fun _ => by (first | omega))) ?_
      refine SL.pure rfl rfl rfl (PureOp.load (v := .int .i64 (nth l k)) Try.underlying3 rfl rfl (fun _ => (CellIs.in_ hs k 0 (by (first | omega)) (by omega)))) ?_
      refine SL.pure rfl rfl rfl (PureOp.gtr rfl rfl) ?_
      refine SL.pure rfl rfl rfl (PureOp.eqlb rfl rfl Try.underlying4) ?_
      refine SL.pure rfl rfl rfl (PureOp.move rfl) ?_
      refine SL.newg 110 true rfl ?_
      refine SL.gpure (c := 4) rfl rfl rfl rfl rfl rfl rfl (PureOp.move rfl) ?_
      refine SL.gpure (c := 4) rfl rfl rfl rfl rfl rfl rfl (PureOp.neq rfl rfl) ?_
      refine SL.gpure (c := 4) rfl rfl rfl rfl rfl rfl rfl (PureOp.move rfl) ?_
      refine SL.newg 113 false rfl ?_
      refine SL.gpure (c := 5) rfl rfl rfl rfl rfl rfl rfl (PureOp.loads (vs := [.string nm, .int .i64 se, .int .i64 ov, .slice ac cl.length cc]) Try.underlying24 rfl rfl (fun _ => (RowIs.cells 0 0 4 rfl rfl)) sz24) ?_
      refine SL.gpure (c := 5) rfl rfl rfl rfl rfl rfl rfl (PureOp.move rfl) ?_
      refine SL.gcalle (c := 5) rfl rfl rfl rfl rfl rfl rfl rfl rfl rfl callable13 (by intro hg; simp [gval] at hg; exact (fun w hw => fits_ok nm se ov cl ac cl.length cc rfl hcb (cancL cl l (k : Int) 1) _ _ _ rfl (by have q := cancL_len (cl := cl) (l := l) (r := (k : Int)) (x := 1); omega) w (SliceIn.rows (hw.mem (i := 3) rfl) encI_len (Nat.le_refl _)) (hc.below hw.below) hR)) ?_
      refine SL.gpure (c := 4) rfl rfl rfl rfl rfl rfl rfl (PureOp.or_ rfl rfl rfl rfl) ?_
      refine SL.pure rfl rfl rfl (PureOp.and_ rfl rfl rfl rfl) ?_
      refine SL.pure rfl rfl rfl (PureOp.move rfl) ?_
      refine SL.newg 119 true rfl ?_
      refine SL.gcalle (c := 6) rfl rfl rfl rfl rfl rfl rfl rfl rfl rfl callable9 (by intro hg; simp [gval] at hg; exact (fun w hw => awake_ok w)) ?_
      refine SL.pure rfl rfl rfl (PureOp.and_ rfl rfl rfl rfl) ?_
      refine SL.pure rfl rfl rfl (PureOp.assign rfl) ?_
      refine SL.nil_then ?_
      refine WC.ret ?_
      refine QX.ret1 rfl rfl ?_
      intro w hw
      first | rfl | exact congrArg Value.bool (by have q := limits_end hf hk; simpa using q)

theorem back_no {se ov : Int} {cl : List Cl} {l : List Int} {k : Nat} (hk : 1 ≤ k) (h3 : (k : Int) < ((openL (se + ov) cl l).length : Nat) ∧ fits (se + ov) cl l = true) (h4 : nth (openL (se + ov) cl l) ((k : Int) - 1).toNat < nth (openL (se + ov) cl l) k) : False := by
  have hr := (fits_iff.1 h3.2).1
  have h5 := open_len (se := se) (ov := ov) hr
  rw [show ((k : Int) - 1).toNat = k - 1 from by omega, open_nth hr (by omega), open_nth hr (by omega)] at h4
  have h6 := open_down (se := se) (ov := ov) hr (i := k - 1)
  rw [show k - 1 + 1 = k from by omega] at h6
  omega
set_option maxHeartbeats 4000000 in
set_option maxRecDepth 100000 in
theorem back_law (nm : ByteArray) (se ov : Int) (cl : List Cl) (ac : Option Addr) (cc : Nat) (hnm : nm.size ≤ maxLen) (hcs : ∀ i, i < cl.length → (nth cl i).1.size ≤ maxLen) (l : List Int) (ao : Option Addr) (n cap : Nat) (hn : n = l.length) (w0 : World) (hc : SliceIn w0 2 ac cl.length cc (rowsF enc47 cl)) (hs : SliceIn w0 1 ao n cap (rowsF encI l)) (r x : Int) (hr64 : -9223372036854775808 ≤ r ∧ r ≤ 9223372036854775807) (hx : -9223372036854775808 ≤ x ∧ x ≤ 9223372036854775807) : FnC Try.prog 6 [.agg #[.string nm, .int .i64 se, .int .i64 ov, .slice ac cl.length cc], .slice ao n cap, .agg #[.int .i64 r, .int .i64 x]] w0 fun v w' => v = .bool true := by
  refine fnc (N := 73) Try.func6 rfl rfl rfl ?_
  refine WC.seq ?_
  refine WC.region ?_
  refine SL.box rfl rfl rfl (fun b1 hb1 => ?_)
  refine SL.box rfl rfl rfl (fun b2 hb2 => ?_)
  refine SL.pure rfl rfl rfl (PureOp.assign rfl) ?_
  refine SL.nil_then ?_
  refine WC.seq ?_
  refine WC.seq ?_
  refine WC.region ?_
  refine SL.pure rfl rfl rfl (PureOp.loads (vs := [.string nm, .int .i64 se, .int .i64 ov, .slice ac cl.length cc]) Try.underlying24 rfl rfl (fun _ => (RowIs.cells 0 0 4 rfl rfl)) sz24) ?_
  refine SL.pure rfl rfl rfl (PureOp.move rfl) ?_
  refine SL.callv rfl rfl rfl rfl rfl rfl callable8 (fun w hw => lright_ok nm se ov cl ac cc hnm hcs l ao n cap w (hc.below hw.below)) ?_
  rintro v ⟨rb, rfl, hrb⟩
  refine SL.pure rfl rfl rfl (PureOp.not rfl) ?_
  refine SL.nil_then ?_
  refine WC.cond rfl (fun h1 => ?_) (fun h1 => ?_)
  · try simp only [Bool.and_eq_true, Bool.or_eq_true, Bool.not_eq_true', Bool.not_eq_false', Bool.and_eq_false_iff, Bool.or_eq_false_iff, decide_eq_true_eq, decide_eq_false_iff_not, Int.not_lt, Int.not_le, ne_eq, Decidable.not_not] at h1
    refine WC.seq ?_
    refine WC.region ?_
    refine SL.calle rfl rfl rfl rfl rfl rfl callable9 (fun w hw => awake_ok w) ?_
    refine SL.pure rfl rfl rfl (PureOp.assign rfl) ?_
    refine SL.nil_then ?_
    refine WC.ret ?_
    refine QX.ret_then ?_
    refine QX.ret1 rfl rfl ?_
    intro w hw
    first | rfl | exact (back_no hk1 (by assumption) (by assumption)).elim
  · try simp only [Bool.and_eq_true, Bool.or_eq_true, Bool.not_eq_true', Bool.not_eq_false', Bool.and_eq_false_iff, Bool.or_eq_false_iff, decide_eq_true_eq, decide_eq_false_iff_not, Int.not_lt, Int.not_le, ne_eq, Decidable.not_not] at h1
    obtain ⟨hcb, hnb, hR⟩ := hrb h1
    refine WC.skip ?_
    refine QX.then_ ?_
    refine WC.seq ?_
    refine WC.region ?_
    refine SL.pure rfl rfl rfl (PureOp.loads (vs := [.string nm, .int .i64 se, .int .i64 ov, .slice ac cl.length cc]) Try.underlying24 rfl rfl (fun _ => (RowIs.cells 0 0 4 rfl rfl)) sz24) ?_
    refine SL.pure rfl rfl rfl (PureOp.move rfl) ?_
    refine SL.pure rfl rfl rfl (PureOp.indexAddrA Try.underlying31 sz3 rfl rfl (fun _ => by decide)) ?_
    refine SL.pure rfl rfl rfl (PureOp.load (v := .int .i64 r) Try.underlying3 rfl rfl (fun _ => (CellIs.cells 1 rfl rfl))) ?_
    refine SL.pure rfl rfl rfl (PureOp.indexAddrA Try.underlying31 sz3 rfl rfl (fun _ => by decide)) ?_
    refine SL.pure rfl rfl rfl (PureOp.load (v := .int .i64 x) Try.underlying3 rfl rfl (fun _ => (CellIs.cells 1 rfl rfl))) ?_
    refine SL.callo (fun sa sc => .tuple #[.slice sa ((sellL (se + ov) cl l r x).length) sc, .int .i64 (sellE (se + ov) cl l r x)]) rfl rfl rfl rfl rfl rfl callable17 (fun w hw => Sell_ok nm se ov cl ac cl.length cc rfl hcb l ao n cap hn (by omega) w (hs.below hw.below) (hc.below hw.below) hR r x hx) (fun sa sc => ?_)
    refine SL.pure rfl rfl rfl (PureOp.move rfl) ?_
    refine SL.pure rfl rfl rfl (PureOp.extract rfl rfl) ?_
    refine SL.pure rfl rfl rfl (PureOp.extract rfl rfl) ?_
    refine SL.pure rfl rfl rfl (PureOp.assign rfl) ?_
    refine SL.pure rfl rfl rfl (PureOp.assign rfl) ?_
    refine SL.nil_then ?_
    refine WC.seq ?_
    refine WC.seq ?_
    refine WC.region ?_
    refine SL.pure rfl rfl rfl (PureOp.move rfl) ?_
    refine SL.pure rfl rfl rfl (PureOp.eql rfl rfl) ?_
    refine SL.nil_then ?_
    refine WC.cond rfl (fun h2 => ?_) (fun h2 => ?_)
    · try simp only [Bool.and_eq_true, Bool.or_eq_true, Bool.not_eq_true', Bool.not_eq_false', Bool.and_eq_false_iff, Bool.or_eq_false_iff, decide_eq_true_eq, decide_eq_false_iff_not, Int.not_lt, Int.not_le, ne_eq, Decidable.not_not] at h2
      refine WC.seq ?_
      refine WC.region ?_
      refine SL.pure rfl rfl rfl (PureOp.loads (vs := [.string nm, .int .i64 se, .int .i64 ov, .slice ac cl.length cc]) Try.underlying24 rfl rfl (fun _ => (RowIs.cells 0 0 4 rfl rfl)) sz24) ?_
      refine SL.pure rfl rfl rfl (PureOp.move rfl) ?_
      refine SL.pure rfl rfl rfl (PureOp.indexAddrA Try.underlying31 sz3 rfl rfl (fun _ => by decide)) ?_
      refine SL.pure rfl rfl rfl (PureOp.load (v := .int .i64 r) Try.underlying3 rfl rfl (fun _ => (CellIs.cells 1 rfl rfl))) ?_
      refine SL.pure rfl rfl rfl (PureOp.indexAddrA Try.underlying31 sz3 rfl rfl (fun _ => by decide)) ?_
      refine SL.pure rfl rfl rfl (PureOp.load (v := .int .i64 x) Try.underlying3 rfl rfl (fun _ => (CellIs.cells 1 rfl rfl))) ?_
      refine SL.callo (fun ba bc => .tuple #[.slice ba l.length bc, .int .i64 0]) rfl rfl rfl rfl rfl rfl callable19 (fun w hw => Cancel_back nm se ov cl ac cl.length cc rfl hcb l _ _ _ r x (by assumption) rfl (by have q1 := sellL_len (se := se) (ov := ov) (cl := cl) (l := l) (r := r) (x := x); omega) hx w (SliceIn.rows (hw.mem (i := 2) rfl) encI_len (Nat.le_refl _)) (hc.below hw.below) hR) (fun ba bc => ?_)
      refine SL.pure rfl rfl rfl (PureOp.move rfl) ?_
      refine SL.pure rfl rfl rfl (PureOp.extract rfl rfl) ?_
      refine SL.pure rfl rfl rfl (PureOp.extract rfl rfl) ?_
      refine SL.pure rfl rfl rfl (PureOp.assign rfl) ?_
      refine SL.pure rfl rfl rfl (PureOp.assign rfl) ?_
      refine SL.nil_then ?_
      refine WC.seq ?_
      refine WC.region ?_
      refine SL.pure rfl rfl rfl (PureOp.move rfl) ?_
      refine SL.pure rfl rfl rfl (PureOp.neq rfl rfl) ?_
      refine SL.lit 41 false rfl (by decide) ?_
      refine SL.pure rfl rfl rfl (PureOp.move rfl) ?_
      refine SL.ung rfl rfl rfl rfl ?_
      refine SL.pure rfl rfl rfl (PureOp.move rfl) ?_
      refine SL.ung rfl rfl rfl rfl ?_
      refine SL.pure rfl rfl rfl (PureOp.move rfl) ?_
      refine SL.ung rfl rfl rfl rfl ?_
      refine SL.calle rfl rfl rfl rfl rfl rfl callable10 (fun w hw => same_ok l _ _ _ _ _ _ rfl hn w (SliceIn.rows (hw.mem (i := 3) rfl) encI_len (Nat.le_refl _)) (hs.below hw.below) (by omega)) ?_
      refine SL.ung rfl rfl rfl rfl ?_
      refine SL.pure rfl rfl rfl (PureOp.not rfl) ?_
      refine SL.pure rfl rfl rfl (PureOp.pickF rfl rfl) ?_
      refine SL.nil_then ?_
      refine WC.condF rfl ?_
      refine WC.skip ?_
      refine QX.then_ ?_
      refine WC.seq ?_
      refine WC.region ?_
      refine SL.pure rfl rfl rfl (PureOp.loads (vs := [.string nm, .int .i64 se, .int .i64 ov, .slice ac cl.length cc]) Try.underlying24 rfl rfl (fun _ => (RowIs.cells 0 0 4 rfl rfl)) sz24) ?_
      refine SL.pure rfl rfl rfl (PureOp.move rfl) ?_
      refine SL.callo (fun oa oc => .slice oa ((openL (se + ov) cl l).length) oc) rfl rfl rfl rfl rfl rfl callable11 (fun w hw => open_ok nm se ov cl ac cl.length cc rfl hcb l ao n cap hn (by omega) w (hs.below hw.below) (hc.below hw.below) hR) (fun oa oc => ?_)
      refine SL.pure rfl rfl rfl (PureOp.assign rfl) ?_
      refine SL.nil_then ?_
      refine WC.seq ?_
      refine WC.seq ?_
      refine WC.region ?_
      refine SL.pure rfl rfl rfl (PureOp.assign rfl) ?_
      refine SL.nil_then ?_
      refine WC.block ?_
      refine WC.loop (σ := Nat) (fun q_ => [(0, 0, .agg #[.string nm, .int .i64 se, .int .i64 ov, .slice ac cl.length cc]), (1, 0, .slice ao n cap), (2, 0, .agg #[.int .i64 r, .int .i64 x]), (3, 0, .pointer (some ⟨b1, 0, none⟩)), (5, 0, .pointer (some ⟨b2, 0, none⟩)), (7, 0, .slice sa ((sellL (se + ov) cl l r x).length) sc), (8, 0, .int .i64 (sellE (se + ov) cl l r x)), (9, 0, .slice ba l.length bc), (10, 0, .int .i64 0), (11, 0, .slice oa ((openL (se + ov) cl l).length) oc), (13, 0, .agg #[.string nm, .int .i64 se, .int .i64 ov, .slice ac cl.length cc]), (14, 0, .slice ao n cap), (15, 0, .bool rb), (16, 0, .bool (!rb)), (18, 0, .tuple #[.slice sa ((sellL (se + ov) cl l r x).length) sc, .int .i64 (sellE (se + ov) cl l r x)]), (19, 0, .agg #[.string nm, .int .i64 se, .int .i64 ov, .slice ac cl.length cc]), (20, 0, .slice ao n cap), (21, 0, .pointer (some ⟨b2, 0, none⟩)), (22, 0, .int .i64 r), (23, 0, .pointer (some ⟨b2, 1, none⟩)), (24, 0, .int .i64 x), (25, 0, .tuple #[.slice sa ((sellL (se + ov) cl l r x).length) sc, .int .i64 (sellE (se + ov) cl l r x)]), (26, 0, .slice sa ((sellL (se + ov) cl l r x).length) sc), (27, 0, .int .i64 (sellE (se + ov) cl l r x)), (28, 0, .int .i64 (sellE (se + ov) cl l r x)), (29, 0, .bool (decide (sellE (se + ov) cl l r x = 0))), (30, 0, .tuple #[.slice ba l.length bc, .int .i64 0]), (31, 0, .agg #[.string nm, .int .i64 se, .int .i64 ov, .slice ac cl.length cc]), (32, 0, .slice sa ((sellL (se + ov) cl l r x).length) sc), (33, 0, .pointer (some ⟨b2, 0, none⟩)), (34, 0, .int .i64 r), (35, 0, .pointer (some ⟨b2, 1, none⟩)), (36, 0, .int .i64 x), (37, 0, .tuple #[.slice ba l.length bc, .int .i64 0]), (38, 0, .slice ba l.length bc), (39, 0, .int .i64 0), (40, 0, .int .i64 0), (41, 0, .bool false), (42, 0, .bool false), (43, 0, .slice ba l.length bc), (44, 0, .slice ao n cap), (45, 0, .bool true), (46, 0, .bool false), (47, 0, .bool false), (48, 0, .agg #[.string nm, .int .i64 se, .int .i64 ov, .slice ac cl.length cc]), (49, 0, .slice ao n cap), (50, 0, .slice oa ((openL (se + ov) cl l).length) oc), (12, 0, .int .i64 ((q_ : Nat) : Int))]) (fun q_ => [Item.cells b1 [.string nm, .int .i64 se, .int .i64 ov, .slice ac cl.length cc] 24, Item.cells b2 [.int .i64 r, .int .i64 x] 31, Item.own w0.heap.size sa ((sellL (se + ov) cl l r x).length) sc 3 1 (cellsOf encI (sellL (se + ov) cl l r x)), Item.own w0.heap.size ba l.length bc 3 1 (cellsOf encI l), Item.own w0.heap.size oa ((openL (se + ov) cl l).length) oc 3 1 (cellsOf encI (openL (se + ov) cl l))]) (fun q_ => 1 ≤ q_) (fun q_ => (openL (se + ov) cl l).length - q_) 5 (1) (Nat.le_refl _) ⟨rfl, rfl, rfl, rfl, rfl, rfl, rfl, rfl, rfl, rfl, rfl, rfl, rfl, rfl, rfl, rfl, rfl, rfl, rfl, rfl, rfl, rfl, rfl, rfl, rfl, rfl, rfl, rfl, rfl, rfl, rfl, rfl, rfl, rfl, rfl, rfl, rfl, rfl, rfl, rfl, rfl, rfl, rfl, rfl, rfl, rfl, rfl, rfl, rfl, rfl, rfl, rfl, rfl, rfl, rfl, rfl, rfl, rfl, rfl, rfl, rfl, rfl, rfl, rfl, rfl, rfl, rfl, rfl, rfl, rfl, rfl, rfl, rfl, rfl, rfl, rfl, rfl, rfl, rfl, rfl, rfl, rfl, rfl, rfl, rfl, rfl, rfl, rfl, rfl, rfl, rfl, rfl, rfl, rfl, rfl, rfl, trivial⟩ rfl ?_
      rintro k hk1
      refine WC.seq ?_
      refine WC.seq ?_
      refine WC.region ?_
      refine SL.pure rfl rfl rfl (PureOp.move rfl) ?_
      refine SL.pure rfl rfl rfl (PureOp.move rfl) ?_
      refine SL.pure rfl rfl rfl (PureOp.len rfl Try.underlying25) ?_
      refine SL.pure rfl rfl rfl (PureOp.lss rfl rfl) ?_
      refine SL.pure rfl rfl rfl (PureOp.move rfl) ?_
      refine SL.newg 55 true rfl ?_
      refine SL.gpure (c := 1) rfl rfl rfl rfl rfl rfl rfl (PureOp.loads (vs := [.string nm, .int .i64 se, .int .i64 ov, .slice ac cl.length cc]) Try.underlying24 rfl rfl (fun _ => (RowIs.cells 0 0 4 rfl rfl)) sz24) ?_
      refine SL.gpure (c := 1) rfl rfl rfl rfl rfl rfl rfl (PureOp.move rfl) ?_
      refine SL.gcalle (c := 1) rfl rfl rfl rfl rfl rfl rfl rfl rfl rfl callable14 (by intro hg; simp [gval] at hg; exact (fun w hw => rfits_ok nm se ov cl ac cl.length cc rfl hcb l ao n cap hn (by omega) w (hs.below hw.below) (hc.below hw.below) hR)) ?_
      refine SL.pure rfl rfl rfl (PureOp.and_ rfl rfl rfl rfl) ?_
      refine SL.nil_then ?_
      refine WC.cond rfl (fun h3 => ?_) (fun h3 => ?_)
      · try simp only [Bool.and_eq_true, Bool.or_eq_true, Bool.not_eq_true', Bool.not_eq_false', Bool.and_eq_false_iff, Bool.or_eq_false_iff, decide_eq_true_eq, decide_eq_false_iff_not, Int.not_lt, Int.not_le, ne_eq, Decidable.not_not] at h3
        refine WC.skip ?_
        refine QX.then_ ?_
        refine WC.seq ?_
        refine WC.block ?_
        refine WC.seq ?_
        refine WC.quiet rfl (by kernel_rfl) ?_
        refine SQ.pure rfl rfl rfl (PureOp.move rfl) ?_
        refine SQ.pure rfl rfl rfl (PureOp.move rfl) ?_
        refine SQ.pure rfl rfl rfl (PureOp.indexAddrN Try.underlying25 sz3 rfl rfl (AoOk.own 4 rfl) (fun _ => by (have q := open_le (se := se) (ov := ov) (cl := cl) (l := l); omega))) ?_
        refine SQ.pure rfl rfl rfl (PureOp.load Try.underlying3 rfl rfl (fun _ => (CellIs.ownc 4 rfl k 0 (by exact encI_get (by omega))))) ?_
        refine SQ.pure rfl rfl rfl (PureOp.move rfl) ?_
        refine SQ.pure rfl rfl rfl (PureOp.move rfl) ?_
        refine SQ.pure rfl rfl rfl (PureOp.sub rfl rfl (fun _ => by (have q := open_le (se := se) (ov := ov) (cl := cl) (l := l); omega))) ?_
        refine SQ.pure rfl rfl rfl (PureOp.indexAddr Try.underlying25 sz3 rfl rfl (AoOk.own 4 rfl) (fun _ => by (have q := open_le (se := se) (ov := ov) (cl := cl) (l := l); omega))) ?_
        refine SQ.pure rfl rfl rfl (PureOp.load Try.underlying3 rfl rfl (fun _ => (CellIs.ownc 4 rfl (((k : Nat) : Int) - 1).toNat 0 (by exact encI_get (by omega))))) ?_
        refine SQ.pure rfl rfl rfl (PureOp.gtr rfl rfl) ?_
        refine SQ.nil_then ?_
        refine WC.cond rfl (fun h4 => ?_) (fun h4 => ?_)
        · try simp only [Bool.and_eq_true, Bool.or_eq_true, Bool.not_eq_true', Bool.not_eq_false', Bool.and_eq_false_iff, Bool.or_eq_false_iff, decide_eq_true_eq, decide_eq_false_iff_not, Int.not_lt, Int.not_le, ne_eq, Decidable.not_not] at h4
          refine WC.seq ?_
          refine WC.region ?_
          refine SL.pure rfl rfl rfl (PureOp.assign rfl) ?_
          refine SL.nil_then ?_
          refine WC.ret ?_
          refine QX.ret_in ?_
          refine QX.ret_then ?_
          refine QX.ret_then ?_
          refine QX.ret_in ?_
          refine QX.ret_then ?_
          refine QX.ret1 rfl rfl ?_
          intro w hw
          first | rfl | exact (back_no hk1 (by assumption) (by assumption)).elim
        · try simp only [Bool.and_eq_true, Bool.or_eq_true, Bool.not_eq_true', Bool.not_eq_false', Bool.and_eq_false_iff, Bool.or_eq_false_iff, decide_eq_true_eq, decide_eq_false_iff_not, Int.not_lt, Int.not_le, ne_eq, Decidable.not_not] at h4
          refine WC.skip ?_
          refine QX.normal_in ?_
          refine QX.then_ ?_
          refine WC.region ?_
          refine SL.pure rfl rfl rfl (PureOp.move rfl) ?_
          refine SL.pure rfl rfl rfl (PureOp.addN (k := 1) rfl rfl (fun _ => by (have q := open_le (se := se) (ov := ov) (cl := cl) (l := l); omega))) ?_
          refine SL.pure rfl rfl rfl (PureOp.assign rfl) ?_
          refine SL.nil ?_
          refine QX.round 5 (k + 1) ⟨by omega, by first | omega | (dsimp only; omega)⟩ ⟨rfl, rfl, rfl, rfl, rfl, rfl, rfl, rfl, rfl, rfl, rfl, rfl, rfl, rfl, rfl, rfl, rfl, rfl, rfl, rfl, rfl, rfl, rfl, rfl, rfl, rfl, rfl, rfl, rfl, rfl, rfl, rfl, rfl, rfl, rfl, rfl, rfl, rfl, rfl, rfl, rfl, rfl, rfl, rfl, rfl, rfl, rfl, rfl, rfl, rfl, rfl, rfl, rfl, rfl, rfl, rfl, rfl, rfl, rfl, rfl, rfl, rfl, rfl, rfl, rfl, rfl, rfl, rfl, rfl, rfl, rfl, rfl, rfl, rfl, rfl, rfl, rfl, rfl, rfl, rfl, rfl, rfl, rfl, rfl, rfl, rfl, rfl, rfl, rfl, rfl, rfl, rfl, rfl, rfl, rfl, rfl, trivial⟩ rfl
      · try simp only [Bool.and_eq_true, Bool.or_eq_true, Bool.not_eq_true', Bool.not_eq_false', Bool.and_eq_false_iff, Bool.or_eq_false_iff, decide_eq_true_eq, decide_eq_false_iff_not, Int.not_lt, Int.not_le, ne_eq, Decidable.not_not] at h3
        refine WC.exit ?_
        refine QX.exit_then ?_
        refine QX.exit_then ?_
        refine QX.exit_hit ?_
        refine QX.then_ ?_
        refine WC.seq ?_
        refine WC.region ?_
        refine SL.calle rfl rfl rfl rfl rfl rfl callable9 (fun w hw => awake_ok w) ?_
        refine SL.pure rfl rfl rfl (PureOp.assign rfl) ?_
        refine SL.nil_then ?_
        refine WC.ret ?_
        refine QX.ret1 rfl rfl ?_
        intro w hw
        first | rfl | exact (back_no hk1 (by assumption) (by assumption)).elim
    · try simp only [Bool.and_eq_true, Bool.or_eq_true, Bool.not_eq_true', Bool.not_eq_false', Bool.and_eq_false_iff, Bool.or_eq_false_iff, decide_eq_true_eq, decide_eq_false_iff_not, Int.not_lt, Int.not_le, ne_eq, Decidable.not_not] at h2
      refine WC.skip ?_
      refine QX.then_ ?_
      refine WC.seq ?_
      refine WC.region ?_
      refine SL.pure rfl rfl rfl (PureOp.loads (vs := [.string nm, .int .i64 se, .int .i64 ov, .slice ac cl.length cc]) Try.underlying24 rfl rfl (fun _ => (RowIs.cells 0 0 4 rfl rfl)) sz24) ?_
      refine SL.pure rfl rfl rfl (PureOp.move rfl) ?_
      refine SL.callo (fun oa oc => .slice oa ((openL (se + ov) cl l).length) oc) rfl rfl rfl rfl rfl rfl callable11 (fun w hw => open_ok nm se ov cl ac cl.length cc rfl hcb l ao n cap hn (by omega) w (hs.below hw.below) (hc.below hw.below) hR) (fun oa oc => ?_)
      refine SL.pure rfl rfl rfl (PureOp.assign rfl) ?_
      refine SL.nil_then ?_
      refine WC.seq ?_
      refine WC.seq ?_
      refine WC.region ?_
      refine SL.pure rfl rfl rfl (PureOp.assign rfl) ?_
      refine SL.nil_then ?_
      refine WC.block ?_
      refine WC.loop (σ := Nat) (fun q_ => [(0, 0, .agg #[.string nm, .int .i64 se, .int .i64 ov, .slice ac cl.length cc]), (1, 0, .slice ao n cap), (2, 0, .agg #[.int .i64 r, .int .i64 x]), (3, 0, .pointer (some ⟨b1, 0, none⟩)), (5, 0, .pointer (some ⟨b2, 0, none⟩)), (7, 0, .slice sa ((sellL (se + ov) cl l r x).length) sc), (8, 0, .int .i64 (sellE (se + ov) cl l r x)), (11, 0, .slice oa ((openL (se + ov) cl l).length) oc), (13, 0, .agg #[.string nm, .int .i64 se, .int .i64 ov, .slice ac cl.length cc]), (14, 0, .slice ao n cap), (15, 0, .bool rb), (16, 0, .bool (!rb)), (18, 0, .tuple #[.slice sa ((sellL (se + ov) cl l r x).length) sc, .int .i64 (sellE (se + ov) cl l r x)]), (19, 0, .agg #[.string nm, .int .i64 se, .int .i64 ov, .slice ac cl.length cc]), (20, 0, .slice ao n cap), (21, 0, .pointer (some ⟨b2, 0, none⟩)), (22, 0, .int .i64 r), (23, 0, .pointer (some ⟨b2, 1, none⟩)), (24, 0, .int .i64 x), (25, 0, .tuple #[.slice sa ((sellL (se + ov) cl l r x).length) sc, .int .i64 (sellE (se + ov) cl l r x)]), (26, 0, .slice sa ((sellL (se + ov) cl l r x).length) sc), (27, 0, .int .i64 (sellE (se + ov) cl l r x)), (28, 0, .int .i64 (sellE (se + ov) cl l r x)), (29, 0, .bool (decide (sellE (se + ov) cl l r x = 0))), (48, 0, .agg #[.string nm, .int .i64 se, .int .i64 ov, .slice ac cl.length cc]), (49, 0, .slice ao n cap), (50, 0, .slice oa ((openL (se + ov) cl l).length) oc), (12, 0, .int .i64 ((q_ : Nat) : Int))]) (fun q_ => [Item.cells b1 [.string nm, .int .i64 se, .int .i64 ov, .slice ac cl.length cc] 24, Item.cells b2 [.int .i64 r, .int .i64 x] 31, Item.own w0.heap.size sa ((sellL (se + ov) cl l r x).length) sc 3 1 (cellsOf encI (sellL (se + ov) cl l r x)), Item.own w0.heap.size oa ((openL (se + ov) cl l).length) oc 3 1 (cellsOf encI (openL (se + ov) cl l))]) (fun q_ => 1 ≤ q_) (fun q_ => (openL (se + ov) cl l).length - q_) 4 (1) (Nat.le_refl _) ⟨rfl, rfl, rfl, rfl, rfl, rfl, rfl, rfl, rfl, rfl, rfl, rfl, rfl, rfl, rfl, rfl, rfl, rfl, rfl, rfl, rfl, rfl, rfl, rfl, rfl, rfl, rfl, rfl, rfl, rfl, rfl, rfl, rfl, rfl, rfl, rfl, rfl, rfl, rfl, rfl, rfl, rfl, rfl, rfl, rfl, rfl, rfl, rfl, rfl, rfl, rfl, rfl, rfl, rfl, rfl, rfl, trivial⟩ rfl ?_
      rintro k hk1
      refine WC.seq ?_
      refine WC.seq ?_
      refine WC.region ?_
      refine SL.pure rfl rfl rfl (PureOp.move rfl) ?_
      refine SL.pure rfl rfl rfl (PureOp.move rfl) ?_
      refine SL.pure rfl rfl rfl (PureOp.len rfl Try.underlying25) ?_
      refine SL.pure rfl rfl rfl (PureOp.lss rfl rfl) ?_
      refine SL.pure rfl rfl rfl (PureOp.move rfl) ?_
      refine SL.newg 55 true rfl ?_
      refine SL.gpure (c := 1) rfl rfl rfl rfl rfl rfl rfl (PureOp.loads (vs := [.string nm, .int .i64 se, .int .i64 ov, .slice ac cl.length cc]) Try.underlying24 rfl rfl (fun _ => (RowIs.cells 0 0 4 rfl rfl)) sz24) ?_
      refine SL.gpure (c := 1) rfl rfl rfl rfl rfl rfl rfl (PureOp.move rfl) ?_
      refine SL.gcalle (c := 1) rfl rfl rfl rfl rfl rfl rfl rfl rfl rfl callable14 (by intro hg; simp [gval] at hg; exact (fun w hw => rfits_ok nm se ov cl ac cl.length cc rfl hcb l ao n cap hn (by omega) w (hs.below hw.below) (hc.below hw.below) hR)) ?_
      refine SL.pure rfl rfl rfl (PureOp.and_ rfl rfl rfl rfl) ?_
      refine SL.nil_then ?_
      refine WC.cond rfl (fun h5 => ?_) (fun h5 => ?_)
      · try simp only [Bool.and_eq_true, Bool.or_eq_true, Bool.not_eq_true', Bool.not_eq_false', Bool.and_eq_false_iff, Bool.or_eq_false_iff, decide_eq_true_eq, decide_eq_false_iff_not, Int.not_lt, Int.not_le, ne_eq, Decidable.not_not] at h5
        refine WC.skip ?_
        refine QX.then_ ?_
        refine WC.seq ?_
        refine WC.block ?_
        refine WC.seq ?_
        refine WC.quiet rfl (by kernel_rfl) ?_
        refine SQ.pure rfl rfl rfl (PureOp.move rfl) ?_
        refine SQ.pure rfl rfl rfl (PureOp.move rfl) ?_
        refine SQ.pure rfl rfl rfl (PureOp.indexAddrN Try.underlying25 sz3 rfl rfl (AoOk.own 3 rfl) (fun _ => by (have q := open_le (se := se) (ov := ov) (cl := cl) (l := l); omega))) ?_
        refine SQ.pure rfl rfl rfl (PureOp.load Try.underlying3 rfl rfl (fun _ => (CellIs.ownc 3 rfl k 0 (by exact encI_get (by omega))))) ?_
        refine SQ.pure rfl rfl rfl (PureOp.move rfl) ?_
        refine SQ.pure rfl rfl rfl (PureOp.move rfl) ?_
        refine SQ.pure rfl rfl rfl (PureOp.sub rfl rfl (fun _ => by (have q := open_le (se := se) (ov := ov) (cl := cl) (l := l); omega))) ?_
        refine SQ.pure rfl rfl rfl (PureOp.indexAddr Try.underlying25 sz3 rfl rfl (AoOk.own 3 rfl) (fun _ => by (have q := open_le (se := se) (ov := ov) (cl := cl) (l := l); omega))) ?_
        refine SQ.pure rfl rfl rfl (PureOp.load Try.underlying3 rfl rfl (fun _ => (CellIs.ownc 3 rfl (((k : Nat) : Int) - 1).toNat 0 (by exact encI_get (by omega))))) ?_
        refine SQ.pure rfl rfl rfl (PureOp.gtr rfl rfl) ?_
        refine SQ.nil_then ?_
        refine WC.cond rfl (fun h6 => ?_) (fun h6 => ?_)
        · try simp only [Bool.and_eq_true, Bool.or_eq_true, Bool.not_eq_true', Bool.not_eq_false', Bool.and_eq_false_iff, Bool.or_eq_false_iff, decide_eq_true_eq, decide_eq_false_iff_not, Int.not_lt, Int.not_le, ne_eq, Decidable.not_not] at h6
          refine WC.seq ?_
          refine WC.region ?_
          refine SL.pure rfl rfl rfl (PureOp.assign rfl) ?_
          refine SL.nil_then ?_
          refine WC.ret ?_
          refine QX.ret_in ?_
          refine QX.ret_then ?_
          refine QX.ret_then ?_
          refine QX.ret_in ?_
          refine QX.ret_then ?_
          refine QX.ret1 rfl rfl ?_
          intro w hw
          first | rfl | exact (back_no hk1 (by assumption) (by assumption)).elim
        · try simp only [Bool.and_eq_true, Bool.or_eq_true, Bool.not_eq_true', Bool.not_eq_false', Bool.and_eq_false_iff, Bool.or_eq_false_iff, decide_eq_true_eq, decide_eq_false_iff_not, Int.not_lt, Int.not_le, ne_eq, Decidable.not_not] at h6
          refine WC.skip ?_
          refine QX.normal_in ?_
          refine QX.then_ ?_
          refine WC.region ?_
          refine SL.pure rfl rfl rfl (PureOp.move rfl) ?_
          refine SL.pure rfl rfl rfl (PureOp.addN (k := 1) rfl rfl (fun _ => by (have q := open_le (se := se) (ov := ov) (cl := cl) (l := l); omega))) ?_
          refine SL.pure rfl rfl rfl (PureOp.assign rfl) ?_
          refine SL.nil ?_
          refine QX.round 4 (k + 1) ⟨by omega, by first | omega | (dsimp only; omega)⟩ ⟨rfl, rfl, rfl, rfl, rfl, rfl, rfl, rfl, rfl, rfl, rfl, rfl, rfl, rfl, rfl, rfl, rfl, rfl, rfl, rfl, rfl, rfl, rfl, rfl, rfl, rfl, rfl, rfl, rfl, rfl, rfl, rfl, rfl, rfl, rfl, rfl, rfl, rfl, rfl, rfl, rfl, rfl, rfl, rfl, rfl, rfl, rfl, rfl, rfl, rfl, rfl, rfl, rfl, rfl, rfl, rfl, trivial⟩ rfl
      · try simp only [Bool.and_eq_true, Bool.or_eq_true, Bool.not_eq_true', Bool.not_eq_false', Bool.and_eq_false_iff, Bool.or_eq_false_iff, decide_eq_true_eq, decide_eq_false_iff_not, Int.not_lt, Int.not_le, ne_eq, Decidable.not_not] at h5
        refine WC.exit ?_
        refine QX.exit_then ?_
        refine QX.exit_then ?_
        refine QX.exit_hit ?_
        refine QX.then_ ?_
        refine WC.seq ?_
        refine WC.region ?_
        refine SL.calle rfl rfl rfl rfl rfl rfl callable9 (fun w hw => awake_ok w) ?_
        refine SL.pure rfl rfl rfl (PureOp.assign rfl) ?_
        refine SL.nil_then ?_
        refine WC.ret ?_
        refine QX.ret1 rfl rfl ?_
        intro w hw
        first | rfl | exact (back_no hk1 (by assumption) (by assumption)).elim

end Go.Proofs.Ytblgllngkbjfgaa
