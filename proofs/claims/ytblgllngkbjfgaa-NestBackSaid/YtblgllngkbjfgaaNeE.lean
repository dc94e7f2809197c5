import Derived.Test.YtblgllngkbjfgaaNeD
namespace Go.Proofs.Ytblgllngkbjfgaa
open Go Go.RowKit Eng
set_option linter.unusedVariables false
set_option linter.unusedSimpArgs false

set_option maxHeartbeats 4000000 in
set_option maxRecDepth 100000 in
theorem excess_ok (nm : ByteArray) (se ov : Int) (cl : List Cl) (ac : Option Addr) (nc cc : Nat) (hnc : nc = cl.length) (hcb : nc ≤ 30) (l : List Int) (ao : Option Addr) (n cap : Nat) (hn : n = l.length) (hnb : n ≤ 1000) (w0 : World) (hs : SliceIn w0 1 ao n cap (rowsF encI l)) (hc : SliceIn w0 2 ac nc cc (rowsF enc47 cl)) (hR : Rt se ov cl) : FnC Try.prog 15 [.agg #[.string nm, .int .i64 se, .int .i64 ov, .slice ac nc cc], .slice ao n cap] w0 fun v w' => v = .int .i64 (excess (se + ov) cl l) := by
  refine fnc (N := 26) Try.func15 rfl rfl rfl ?_
  refine WC.seq ?_
  refine WC.region ?_
  refine SL.box rfl rfl rfl (fun b1 hb1 => ?_)
  refine SL.pure rfl rfl rfl (PureOp.assign rfl) ?_
  refine SL.nil_then ?_
  refine WC.seq ?_
  refine WC.seq ?_
  refine WC.region ?_
  refine SL.pure rfl rfl rfl (PureOp.loads (vs := [.string nm, .int .i64 se, .int .i64 ov, .slice ac nc cc]) Try.underlying24 rfl rfl (fun _ => (RowIs.cells 0 0 4 rfl rfl)) sz24) ?_
  refine SL.pure rfl rfl rfl (PureOp.move rfl) ?_
  refine SL.calle rfl rfl rfl rfl rfl rfl callable23 (fun w hw => right_ok nm se ov cl ac nc cc hnc hcb l ao n cap hn hnb w (hs.below hw.below) (hc.below hw.below)) ?_
  refine SL.pure rfl rfl rfl (PureOp.not rfl) ?_
  refine SL.nil_then ?_
  refine WC.cond rfl (fun h1 => ?_) (fun h1 => ?_)
  · try simp only [Bool.and_eq_true, Bool.or_eq_true, Bool.not_eq_true', Bool.not_eq_false', Bool.and_eq_false_iff, Bool.or_eq_false_iff, decide_eq_true_eq, decide_eq_false_iff_not, Int.not_lt, Int.not_le, ne_eq, Decidable.not_not] at h1
    refine WC.seq ?_
    refine WC.region ?_
    refine SL.pure rfl rfl rfl (PureOp.assign rfl) ?_
    refine SL.nil_then ?_
    refine WC.ret ?_
    refine QX.ret_then ?_
    refine QX.ret1 rfl rfl ?_
    intro w hw
    have q : rightB cl l = false := by assumption
    rw [excess, if_neg (by rw [q]; simp)]
  · try simp only [Bool.and_eq_true, Bool.or_eq_true, Bool.not_eq_true', Bool.not_eq_false', Bool.and_eq_false_iff, Bool.or_eq_false_iff, decide_eq_true_eq, decide_eq_false_iff_not, Int.not_lt, Int.not_le, ne_eq, Decidable.not_not] at h1
    have hr : Right cl l := right_iff.1 (by assumption)
    refine WC.skip ?_
    refine QX.then_ ?_
    refine WC.seq ?_
    refine WC.region ?_
    refine SL.pure rfl rfl rfl (PureOp.assign rfl) ?_
    refine SL.nil_then ?_
    refine WC.seq ?_
    refine WC.seq ?_
    refine WC.region ?_
    refine SL.pure rfl rfl rfl (PureOp.loads (vs := [.string nm, .int .i64 se, .int .i64 ov, .slice ac nc cc]) Try.underlying24 rfl rfl (fun _ => (RowIs.cells 0 0 4 rfl rfl)) sz24) ?_
    refine SL.pure rfl rfl rfl (PureOp.move rfl) ?_
    refine SL.callo (fun sa sc => .slice sa n sc) rfl rfl rfl rfl rfl rfl callable24 (fun w hw => spare_ok nm se ov cl ac nc cc hnc hcb l ao n cap hn hnb w (hs.below hw.below) (hc.below hw.below) hR hr) (fun sa sc => ?_)
    refine SL.pure rfl rfl rfl (PureOp.len rfl Try.underlying25) ?_
    refine SL.pure rfl rfl rfl (PureOp.move rfl) ?_
    refine SL.nil_then ?_
    refine WC.block ?_
    refine WC.loop (σ := Nat × Int) (fun q_ => [(0, 0, .agg #[.string nm, .int .i64 se, .int .i64 ov, .slice ac nc cc]), (1, 0, .slice ao n cap), (2, 0, .pointer (some ⟨b1, 0, none⟩)), (4, 0, .int .i64 0), (8, 0, .agg #[.string nm, .int .i64 se, .int .i64 ov, .slice ac nc cc]), (9, 0, .slice ao n cap), (10, 0, .bool (rightB cl l)), (11, 0, .bool (!(rightB cl l))), (12, 0, .agg #[.string nm, .int .i64 se, .int .i64 ov, .slice ac nc cc]), (13, 0, .slice ao n cap), (14, 0, .slice sa n sc), (15, 0, .int .i64 ((n : Nat) : Int)), (16, 0, .int .i64 ((q_.1 : Nat) : Int)), (5, 0, .int .i64 q_.2)]) (fun q_ => [Item.cells b1 [.string nm, .int .i64 se, .int .i64 ov, .slice ac nc cc] 24, Item.own w0.heap.size sa n sc 3 1 (cellsOf encI (tab n (sp (se + ov) cl l)))]) (fun q_ => q_.1 ≤ n ∧ q_.2 = exc (sp (se + ov) cl l) q_.1) (fun q_ => n - q_.1) 2 ((0, 0)) (⟨Nat.zero_le _, rfl⟩) ⟨rfl, rfl, rfl, rfl, rfl, rfl, rfl, rfl, rfl, rfl, rfl, rfl, rfl, rfl, rfl, rfl, rfl, rfl, rfl, rfl, rfl, rfl, rfl, rfl, rfl, rfl, rfl, rfl, trivial⟩ rfl ?_
    rintro ⟨k, m⟩ ⟨hk, hm⟩
    try dsimp only at *
    refine WC.seq ?_
    refine WC.region ?_
    refine SL.pure rfl rfl rfl (PureOp.lss rfl rfl) ?_
    refine SL.nil_then ?_
    refine WC.seq ?_
    refine WC.cond rfl (fun h2 => ?_) (fun h2 => ?_)
    · try simp only [Bool.and_eq_true, Bool.or_eq_true, Bool.not_eq_true', Bool.not_eq_false', Bool.and_eq_false_iff, Bool.or_eq_false_iff, decide_eq_true_eq, decide_eq_false_iff_not, Int.not_lt, Int.not_le, ne_eq, Decidable.not_not] at h2
      refine WC.skip ?_
      refine QX.then_ ?_
      refine WC.seq ?_
      refine WC.block ?_
      refine WC.seq ?_
      refine WC.region ?_
      refine SL.pure rfl rfl rfl (PureOp.indexAddrN Try.underlying25 sz3 rfl rfl (AoOk.own 1 rfl) (fun _ => by (first | omega | (have q1 := sp_bd hR hr (i := k) (by omega); omega)))) ?_
      refine SL.pure rfl rfl rfl (PureOp.load (v := .int .i64 (sp (se + ov) cl l k)) Try.underlying3 rfl rfl (fun _ => (CellIs.ownc 1 rfl k 0 (by exact (encI_get (by rw [tab_len]; omega)).trans (by rw [tab_nth _ _ (by omega)]))))) ?_
      refine SL.pure rfl rfl rfl (PureOp.assign rfl) ?_
      refine SL.nil_then ?_
      refine WC.region ?_
      refine SL.pure rfl rfl rfl (PureOp.move rfl) ?_
      refine SL.pure rfl rfl rfl (PureOp.move rfl) ?_
      refine SL.pure rfl rfl rfl (PureOp.neg rfl (fun _ => by (first | omega | (have q1 := sp_bd hR hr (i := k) (by omega); omega)))) ?_
      refine SL.pure rfl rfl rfl (PureOp.max_ rfl rfl) ?_
      refine SL.pure rfl rfl rfl (PureOp.assign rfl) ?_
      refine SL.nil ?_
      refine QX.normal_in ?_
      refine QX.then_ ?_
      refine WC.region ?_
      refine SL.pure rfl rfl rfl (PureOp.addN (k := 1) rfl rfl (fun _ => by (first | omega | (have q1 := sp_bd hR hr (i := k) (by omega); omega)))) ?_
      refine SL.pure rfl rfl rfl (PureOp.move rfl) ?_
      refine SL.nil ?_
      refine QX.round (σ := Nat × Int) (Ef := fun q_ => [(0, 0, .agg #[.string nm, .int .i64 se, .int .i64 ov, .slice ac nc cc]), (1, 0, .slice ao n cap), (2, 0, .pointer (some ⟨b1, 0, none⟩)), (4, 0, .int .i64 0), (8, 0, .agg #[.string nm, .int .i64 se, .int .i64 ov, .slice ac nc cc]), (9, 0, .slice ao n cap), (10, 0, .bool (rightB cl l)), (11, 0, .bool (!(rightB cl l))), (12, 0, .agg #[.string nm, .int .i64 se, .int .i64 ov, .slice ac nc cc]), (13, 0, .slice ao n cap), (14, 0, .slice sa n sc), (15, 0, .int .i64 ((n : Nat) : Int)), (16, 0, .int .i64 ((q_.1 : Nat) : Int)), (5, 0, .int .i64 q_.2)]) (Hf := fun q_ => [Item.cells b1 [.string nm, .int .i64 se, .int .i64 ov, .slice ac nc cc] 24, Item.own w0.heap.size sa n sc 3 1 (cellsOf encI (tab n (sp (se + ov) cl l)))]) (I := fun q_ => q_.1 ≤ n ∧ q_.2 = exc (sp (se + ov) cl l) q_.1) (μ := fun q_ => n - q_.1) (s := (k, m)) 2 ((k + 1, max m (-(sp (se + ov) cl l k)))) ⟨⟨(by first | omega | (dsimp only; omega)), by show max m (-(sp (se + ov) cl l k)) = _; rw [hm]; rfl⟩, by first | omega | (dsimp only; omega)⟩ ⟨rfl, rfl, rfl, rfl, rfl, rfl, rfl, rfl, rfl, rfl, rfl, rfl, rfl, rfl, rfl, rfl, rfl, rfl, rfl, rfl, rfl, rfl, rfl, rfl, rfl, rfl, rfl, rfl, trivial⟩ rfl
    · try simp only [Bool.and_eq_true, Bool.or_eq_true, Bool.not_eq_true', Bool.not_eq_false', Bool.and_eq_false_iff, Bool.or_eq_false_iff, decide_eq_true_eq, decide_eq_false_iff_not, Int.not_lt, Int.not_le, ne_eq, Decidable.not_not] at h2
      refine WC.exit ?_
      refine QX.exit_then ?_
      refine QX.exit_then ?_
      refine QX.exit_hit ?_
      refine QX.then_ ?_
      refine WC.seq ?_
      refine WC.region ?_
      refine SL.pure rfl rfl rfl (PureOp.move rfl) ?_
      refine SL.pure rfl rfl rfl (PureOp.assign rfl) ?_
      refine SL.nil_then ?_
      refine WC.ret ?_
      refine QX.ret1 rfl rfl ?_
      intro w hw
      obtain rfl : k = n := by omega
      rw [excess, if_pos (right_iff.2 hr), ← hn, hm]

set_option maxHeartbeats 4000000 in
set_option maxRecDepth 100000 in
theorem rexcess_ok (nm : ByteArray) (se ov : Int) (cl : List Cl) (ac : Option Addr) (nc cc : Nat) (hnc : nc = cl.length) (hcb : nc ≤ 30) (l : List Int) (ao : Option Addr) (n cap : Nat) (hn : n = l.length) (hnb : n ≤ 1000) (w0 : World) (hs : SliceIn w0 1 ao n cap (rowsF encI l)) (hc : SliceIn w0 2 ac nc cc (rowsF enc47 cl)) (hR : Rt se ov cl) : FnC Try.prog 16 [.agg #[.string nm, .int .i64 se, .int .i64 ov, .slice ac nc cc], .slice ao n cap] w0 fun v w' => v = .int .i64 (excess (se + ov) cl l) := by
  refine fnc (N := 25) Try.func16 rfl rfl rfl ?_
  refine WC.seq ?_
  refine WC.region ?_
  refine SL.box rfl rfl rfl (fun b1 hb1 => ?_)
  refine SL.pure rfl rfl rfl (PureOp.assign rfl) ?_
  refine SL.nil_then ?_
  refine WC.seq ?_
  refine WC.region ?_
  refine SL.pure rfl rfl rfl (PureOp.assign rfl) ?_
  refine SL.nil_then ?_
  refine WC.seq ?_
  refine WC.seq ?_
  refine WC.region ?_
  refine SL.pure rfl rfl rfl (PureOp.assign rfl) ?_
  refine SL.nil_then ?_
  refine WC.block ?_
  refine WC.loop (σ := Nat × Int) (fun q_ => [(0, 0, .agg #[.string nm, .int .i64 se, .int .i64 ov, .slice ac nc cc]), (1, 0, .slice ao n cap), (2, 0, .pointer (some ⟨b1, 0, none⟩)), (4, 0, .int .i64 0), (6, 0, .int .i64 ((q_.1 : Nat) : Int)), (5, 0, .int .i64 q_.2)]) (fun q_ => [Item.cells b1 [.string nm, .int .i64 se, .int .i64 ov, .slice ac nc cc] 24]) (fun q_ => (q_.1 = 0 ∨ rightB cl l = true) ∧ q_.1 ≤ n ∧ q_.2 = exc (sp (se + ov) cl l) q_.1) (fun q_ => n - q_.1) 1 ((0, 0)) (⟨.inl rfl, Nat.zero_le _, rfl⟩) ⟨rfl, rfl, rfl, rfl, rfl, rfl, rfl, rfl, rfl, rfl, rfl, rfl, trivial⟩ rfl ?_
  rintro ⟨k, m⟩ ⟨hk0, hk, hm⟩
  try dsimp only at *
  refine WC.seq ?_
  refine WC.seq ?_
  refine WC.region ?_
  refine SL.pure rfl rfl rfl (PureOp.loads (vs := [.string nm, .int .i64 se, .int .i64 ov, .slice ac nc cc]) Try.underlying24 rfl rfl (fun _ => (RowIs.cells 0 0 4 rfl rfl)) sz24) ?_
  refine SL.pure rfl rfl rfl (PureOp.move rfl) ?_
  refine SL.calle rfl rfl rfl rfl rfl rfl callable25 (fun w hw => rright_ok nm se ov cl ac nc cc hnc hcb l ao n cap hn hnb w (hs.below hw.below) (hc.below hw.below)) ?_
  refine SL.pure rfl rfl rfl (PureOp.move rfl) ?_
  refine SL.newg 10 true rfl ?_
  refine SL.gpure (c := 1) rfl rfl rfl rfl rfl rfl rfl (PureOp.move rfl) ?_
  refine SL.gpure (c := 1) rfl rfl rfl rfl rfl rfl rfl (PureOp.move rfl) ?_
  refine SL.gpure (c := 1) rfl rfl rfl rfl rfl rfl rfl (PureOp.len rfl Try.underlying25) ?_
  refine SL.gpure (c := 1) rfl rfl rfl rfl rfl rfl rfl (PureOp.lss rfl rfl) ?_
  refine SL.pure rfl rfl rfl (PureOp.and_ rfl rfl rfl rfl) ?_
  refine SL.nil_then ?_
  refine WC.cond rfl (fun h1 => ?_) (fun h1 => ?_)
  · try simp only [Bool.and_eq_true, Bool.or_eq_true, Bool.not_eq_true', Bool.not_eq_false', Bool.and_eq_false_iff, Bool.or_eq_false_iff, decide_eq_true_eq, decide_eq_false_iff_not, Int.not_lt, Int.not_le, ne_eq, Decidable.not_not] at h1
    obtain ⟨hrb, hkn⟩ := h1
    refine WC.skip ?_
    refine QX.then_ ?_
    refine WC.seq ?_
    refine WC.block ?_
    refine WC.region ?_
    refine SL.pure rfl rfl rfl (PureOp.move rfl) ?_
    refine SL.pure rfl rfl rfl (PureOp.loads (vs := [.string nm, .int .i64 se, .int .i64 ov, .slice ac nc cc]) Try.underlying24 rfl rfl (fun _ => (RowIs.cells 0 0 4 rfl rfl)) sz24) ?_
    refine SL.pure rfl rfl rfl (PureOp.move rfl) ?_
    refine SL.pure rfl rfl rfl (PureOp.move rfl) ?_
    refine SL.calle rfl rfl rfl rfl rfl rfl callable26 (fun w hw => over_ok nm se ov cl ac nc cc hnc hcb l ao n cap hn hnb w (hs.below hw.below) (hc.below hw.below) hR (right_iff.1 (by assumption)) k (by omega)) ?_
    refine SL.pure rfl rfl rfl (PureOp.max_ rfl rfl) ?_
    refine SL.pure rfl rfl rfl (PureOp.assign rfl) ?_
    refine SL.nil ?_
    refine QX.normal_in ?_
    refine QX.then_ ?_
    refine WC.region ?_
    refine SL.pure rfl rfl rfl (PureOp.move rfl) ?_
    refine SL.pure rfl rfl rfl (PureOp.addN (k := 1) rfl rfl (fun _ => by omega)) ?_
    refine SL.pure rfl rfl rfl (PureOp.assign rfl) ?_
    refine SL.nil ?_
    refine QX.round (σ := Nat × Int) (Ef := fun q_ => [(0, 0, .agg #[.string nm, .int .i64 se, .int .i64 ov, .slice ac nc cc]), (1, 0, .slice ao n cap), (2, 0, .pointer (some ⟨b1, 0, none⟩)), (4, 0, .int .i64 0), (6, 0, .int .i64 ((q_.1 : Nat) : Int)), (5, 0, .int .i64 q_.2)]) (Hf := fun q_ => [Item.cells b1 [.string nm, .int .i64 se, .int .i64 ov, .slice ac nc cc] 24]) (I := fun q_ => (q_.1 = 0 ∨ rightB cl l = true) ∧ q_.1 ≤ n ∧ q_.2 = exc (sp (se + ov) cl l) q_.1) (μ := fun q_ => n - q_.1) (s := (k, m)) 1 ((k + 1, max m (-(sp (se + ov) cl l k)))) ⟨⟨.inr hrb, (by first | omega | (dsimp only; omega)), by show max m (-(sp (se + ov) cl l k)) = _; rw [hm]; rfl⟩, by first | omega | (dsimp only; omega)⟩ ⟨rfl, rfl, rfl, rfl, rfl, rfl, rfl, rfl, rfl, rfl, rfl, rfl, trivial⟩ rfl
  · try simp only [Bool.and_eq_true, Bool.or_eq_true, Bool.not_eq_true', Bool.not_eq_false', Bool.and_eq_false_iff, Bool.or_eq_false_iff, decide_eq_true_eq, decide_eq_false_iff_not, Int.not_lt, Int.not_le, ne_eq, Decidable.not_not] at h1
    refine WC.exit ?_
    refine QX.exit_then ?_
    refine QX.exit_then ?_
    refine QX.exit_hit ?_
    refine QX.then_ ?_
    refine WC.seq ?_
    refine WC.region ?_
    refine SL.pure rfl rfl rfl (PureOp.move rfl) ?_
    refine SL.pure rfl rfl rfl (PureOp.assign rfl) ?_
    refine SL.nil_then ?_
    refine WC.ret ?_
    refine QX.ret1 rfl rfl ?_
    intro w hw
    cases hb : rightB cl l with
      | true =>
        have hkn : k = n := by
          rcases h1 with h1 | h1
          · rw [hb] at h1; cases h1
          · omega
        subst hkn
        rw [excess, if_pos hb, ← hn, hm]
      | false =>
        obtain rfl : k = 0 := by
          rcases hk0 with q | q
          · exact q
          · rw [hb] at q; cases q
        rw [excess, if_neg (by rw [hb]; simp), hm]; rfl

set_option maxHeartbeats 4000000 in
set_option maxRecDepth 100000 in
theorem fits_ok (nm : ByteArray) (se ov : Int) (cl : List Cl) (ac : Option Addr) (nc cc : Nat) (hnc : nc = cl.length) (hcb : nc ≤ 30) (l : List Int) (ao : Option Addr) (n cap : Nat) (hn : n = l.length) (hnb : n ≤ 1000) (w0 : World) (hs : SliceIn w0 1 ao n cap (rowsF encI l)) (hc : SliceIn w0 2 ac nc cc (rowsF enc47 cl)) (hR : Rt se ov cl) : FnC Try.prog 13 [.agg #[.string nm, .int .i64 se, .int .i64 ov, .slice ac nc cc], .slice ao n cap] w0 fun v w' => v = .bool (fits (se + ov) cl l) := by
  refine fnc (N := 14) Try.func13 rfl rfl rfl ?_
  refine WC.seq ?_
  refine WC.region ?_
  refine SL.box rfl rfl rfl (fun b1 hb1 => ?_)
  refine SL.pure rfl rfl rfl (PureOp.assign rfl) ?_
  refine SL.nil_then ?_
  refine WC.seq ?_
  refine WC.region ?_
  refine SL.pure rfl rfl rfl (PureOp.loads (vs := [.string nm, .int .i64 se, .int .i64 ov, .slice ac nc cc]) Try.underlying24 rfl rfl (fun _ => (RowIs.cells 0 0 4 rfl rfl)) sz24) ?_
  refine SL.pure rfl rfl rfl (PureOp.move rfl) ?_
  refine SL.calle rfl rfl rfl rfl rfl rfl callable23 (fun w hw => right_ok nm se ov cl ac nc cc hnc hcb l ao n cap hn hnb w (hs.below hw.below) (hc.below hw.below)) ?_
  refine SL.pure rfl rfl rfl (PureOp.move rfl) ?_
  refine SL.newg 8 true rfl ?_
  refine SL.gpure (c := 1) rfl rfl rfl rfl rfl rfl rfl (PureOp.loads (vs := [.string nm, .int .i64 se, .int .i64 ov, .slice ac nc cc]) Try.underlying24 rfl rfl (fun _ => (RowIs.cells 0 0 4 rfl rfl)) sz24) ?_
  refine SL.gpure (c := 1) rfl rfl rfl rfl rfl rfl rfl (PureOp.move rfl) ?_
  refine SL.gcalle (c := 1) rfl rfl rfl rfl rfl rfl rfl rfl rfl rfl callable15 (by intro hg; simp [gval] at hg; exact (fun w hw => excess_ok nm se ov cl ac nc cc hnc hcb l ao n cap hn hnb w (hs.below hw.below) (hc.below hw.below) hR)) ?_
  refine SL.gpure (c := 1) rfl rfl rfl rfl rfl rfl rfl (PureOp.eql rfl rfl) ?_
  refine SL.pure rfl rfl rfl (PureOp.and_ rfl rfl rfl rfl) ?_
  refine SL.pure rfl rfl rfl (PureOp.assign rfl) ?_
  refine SL.nil_then ?_
  refine WC.ret ?_
  refine QX.ret1 rfl rfl ?_
  intro w hw
  rfl

set_option maxHeartbeats 4000000 in
set_option maxRecDepth 100000 in
theorem rfits_ok (nm : ByteArray) (se ov : Int) (cl : List Cl) (ac : Option Addr) (nc cc : Nat) (hnc : nc = cl.length) (hcb : nc ≤ 30) (l : List Int) (ao : Option Addr) (n cap : Nat) (hn : n = l.length) (hnb : n ≤ 1000) (w0 : World) (hs : SliceIn w0 1 ao n cap (rowsF encI l)) (hc : SliceIn w0 2 ac nc cc (rowsF enc47 cl)) (hR : Rt se ov cl) : FnC Try.prog 14 [.agg #[.string nm, .int .i64 se, .int .i64 ov, .slice ac nc cc], .slice ao n cap] w0 fun v w' => v = .bool (fits (se + ov) cl l) := by
  refine fnc (N := 14) Try.func14 rfl rfl rfl ?_
  refine WC.seq ?_
  refine WC.region ?_
  refine SL.box rfl rfl rfl (fun b1 hb1 => ?_)
  refine SL.pure rfl rfl rfl (PureOp.assign rfl) ?_
  refine SL.nil_then ?_
  refine WC.seq ?_
  refine WC.region ?_
  refine SL.pure rfl rfl rfl (PureOp.loads (vs := [.string nm, .int .i64 se, .int .i64 ov, .slice ac nc cc]) Try.underlying24 rfl rfl (fun _ => (RowIs.cells 0 0 4 rfl rfl)) sz24) ?_
  refine SL.pure rfl rfl rfl (PureOp.move rfl) ?_
  refine SL.calle rfl rfl rfl rfl rfl rfl callable25 (fun w hw => rright_ok nm se ov cl ac nc cc hnc hcb l ao n cap hn hnb w (hs.below hw.below) (hc.below hw.below)) ?_
  refine SL.pure rfl rfl rfl (PureOp.move rfl) ?_
  refine SL.newg 8 true rfl ?_
  refine SL.gpure (c := 1) rfl rfl rfl rfl rfl rfl rfl (PureOp.loads (vs := [.string nm, .int .i64 se, .int .i64 ov, .slice ac nc cc]) Try.underlying24 rfl rfl (fun _ => (RowIs.cells 0 0 4 rfl rfl)) sz24) ?_
  refine SL.gpure (c := 1) rfl rfl rfl rfl rfl rfl rfl (PureOp.move rfl) ?_
  refine SL.gcalle (c := 1) rfl rfl rfl rfl rfl rfl rfl rfl rfl rfl callable16 (by intro hg; simp [gval] at hg; exact (fun w hw => rexcess_ok nm se ov cl ac nc cc hnc hcb l ao n cap hn hnb w (hs.below hw.below) (hc.below hw.below) hR)) ?_
  refine SL.gpure (c := 1) rfl rfl rfl rfl rfl rfl rfl (PureOp.eql rfl rfl) ?_
  refine SL.pure rfl rfl rfl (PureOp.and_ rfl rfl rfl rfl) ?_
  refine SL.pure rfl rfl rfl (PureOp.assign rfl) ?_
  refine SL.nil_then ?_
  refine WC.ret ?_
  refine QX.ret1 rfl rfl ?_
  intro w hw
  rfl

set_option maxHeartbeats 4000000 in
set_option maxRecDepth 100000 in
theorem change_ok (nm : ByteArray) (se ov : Int) (cl : List Cl) (ac : Option Addr) (nc cc : Nat) (hnc : nc = cl.length) (hcb : nc ≤ 30) (l : List Int) (ao : Option Addr) (n cap : Nat) (hn : n = l.length) (hnb : n ≤ 1000) (w0 : World) (hs : SliceIn w0 1 ao n cap (rowsF encI l)) (hc : SliceIn w0 2 ac nc cc (rowsF enc47 cl)) (r x : Int) (hx : -9223372036854775808 ≤ x ∧ x ≤ 9223372036854775807) : FnC Try.prog 27 [.agg #[.string nm, .int .i64 se, .int .i64 ov, .slice ac nc cc], .slice ao n cap, .int .i64 r, .int .i64 x] w0 fun v w' => ∃ a c, v = .tuple #[.slice a (chL cl l r x).length c, .int .i64 (badE cl l r x)] ∧ w'.ownsRow w0.heap.size 3 1 (.slice a (chL cl l r x).length c) (chL cl l r x).length (cellsOf encI (chL cl l r x)) := by
  refine fnc (N := 30) Try.func27 rfl rfl rfl ?_
  refine WC.seq ?_
  refine WC.region ?_
  refine SL.box rfl rfl rfl (fun b1 hb1 => ?_)
  refine SL.pure rfl rfl rfl (PureOp.assign rfl) ?_
  refine SL.pure rfl rfl rfl (PureOp.assign rfl) ?_
  refine SL.nil_then ?_
  refine WC.seq ?_
  refine WC.block ?_
  refine WC.seq ?_
  refine WC.region ?_
  refine SL.pure rfl rfl rfl (PureOp.loads (vs := [.string nm, .int .i64 se, .int .i64 ov, .slice ac nc cc]) Try.underlying24 rfl rfl (fun _ => (RowIs.cells 0 0 4 rfl rfl)) sz24) ?_
  refine SL.pure rfl rfl rfl (PureOp.move rfl) ?_
  refine SL.calle rfl rfl rfl rfl rfl rfl callable23 (fun w hw => right_ok nm se ov cl ac nc cc hnc hcb l ao n cap hn hnb w (hs.below hw.below) (hc.below hw.below)) ?_
  refine SL.pure rfl rfl rfl (PureOp.not rfl) ?_
  refine SL.pure rfl rfl rfl (PureOp.move rfl) ?_
  refine SL.newg 15 false rfl ?_
  refine SL.gpure (c := 1) rfl rfl rfl rfl rfl rfl rfl (PureOp.move rfl) ?_
  refine SL.gpure (c := 1) rfl rfl rfl rfl rfl rfl rfl (PureOp.lss rfl rfl) ?_
  refine SL.pure rfl rfl rfl (PureOp.or_ rfl rfl rfl rfl) ?_
  refine SL.pure rfl rfl rfl (PureOp.assign rfl) ?_
  refine SL.nil_then ?_
  refine WC.cond rfl (fun h1 => ?_) (fun h1 => ?_)
  · try simp only [Bool.and_eq_true, Bool.or_eq_true, Bool.not_eq_true', Bool.not_eq_false', Bool.and_eq_false_iff, Bool.or_eq_false_iff, decide_eq_true_eq, decide_eq_false_iff_not, Int.not_lt, Int.not_le, ne_eq, Decidable.not_not] at h1
    refine WC.seq ?_
    refine WC.region ?_
    refine SL.pure rfl rfl rfl (PureOp.assign rfl) ?_
    refine SL.pure rfl rfl rfl (PureOp.assign rfl) ?_
    refine SL.nil_then ?_
    refine WC.ret ?_
    refine QX.ret_in ?_
    refine QX.ret_then ?_
    refine QX.ret2 rfl rfl rfl ?_
    intro w hw
    have q : badE cl l r x = 2 := by
      rw [badE, if_pos]
      rcases h1 with h1 | h1
      · exact .inl h1
      · exact .inr h1
    try rw [chL]
    rw [q]
    exact ⟨none, 0, rfl, ownsRow_nil⟩
  · try simp only [Bool.and_eq_true, Bool.or_eq_true, Bool.not_eq_true', Bool.not_eq_false', Bool.and_eq_false_iff, Bool.or_eq_false_iff, decide_eq_true_eq, decide_eq_false_iff_not, Int.not_lt, Int.not_le, ne_eq, Decidable.not_not] at h1
    refine WC.seq ?_
    refine WC.region ?_
    refine SL.pure rfl rfl rfl (PureOp.move rfl) ?_
    refine SL.pure rfl rfl rfl (PureOp.lss rfl rfl) ?_
    refine SL.pure rfl rfl rfl (PureOp.move rfl) ?_
    refine SL.newg 22 false rfl ?_
    refine SL.gpure (c := 2) rfl rfl rfl rfl rfl rfl rfl (PureOp.move rfl) ?_
    refine SL.gpure (c := 2) rfl rfl rfl rfl rfl rfl rfl (PureOp.move rfl) ?_
    refine SL.gpure (c := 2) rfl rfl rfl rfl rfl rfl rfl (PureOp.len rfl Try.underlying25) ?_
    refine SL.gpure (c := 2) rfl rfl rfl rfl rfl rfl rfl (PureOp.geq rfl rfl) ?_
    refine SL.pure rfl rfl rfl (PureOp.or_ rfl rfl rfl rfl) ?_
    refine SL.pure rfl rfl rfl (PureOp.assign rfl) ?_
    refine SL.nil_then ?_
    refine WC.cond rfl (fun h2 => ?_) (fun h2 => ?_)
    · try simp only [Bool.and_eq_true, Bool.or_eq_true, Bool.not_eq_true', Bool.not_eq_false', Bool.and_eq_false_iff, Bool.or_eq_false_iff, decide_eq_true_eq, decide_eq_false_iff_not, Int.not_lt, Int.not_le, ne_eq, Decidable.not_not] at h2
      refine WC.seq ?_
      refine WC.region ?_
      refine SL.pure rfl rfl rfl (PureOp.assign rfl) ?_
      refine SL.pure rfl rfl rfl (PureOp.assign rfl) ?_
      refine SL.nil_then ?_
      refine WC.ret ?_
      refine QX.ret_in ?_
      refine QX.ret_then ?_
      refine QX.ret2 rfl rfl rfl ?_
      intro w hw
      have q : badE cl l r x = 16 := by
        rw [badE, if_neg (by rw [h1.1]; simp; omega), if_pos (by omega)]
      try rw [chL]
      rw [q]
      exact ⟨none, 0, rfl, ownsRow_nil⟩
    · try simp only [Bool.and_eq_true, Bool.or_eq_true, Bool.not_eq_true', Bool.not_eq_false', Bool.and_eq_false_iff, Bool.or_eq_false_iff, decide_eq_true_eq, decide_eq_false_iff_not, Int.not_lt, Int.not_le, ne_eq, Decidable.not_not] at h2
      refine WC.skip ?_
      refine QX.normal_in ?_
      refine QX.then_ ?_
      refine WC.seq ?_
      refine WC.region ?_
      refine SL.pure rfl rfl rfl (PureOp.move rfl) ?_
      refine SL.callo (fun ka kc => .slice ka l.length kc) rfl rfl rfl rfl rfl rfl callable35 (fun w hw => clone_ok l ao n cap hn hnb w (hs.below hw.below)) (fun ka kc => ?_)
      refine SL.pure rfl rfl rfl (PureOp.assign rfl) ?_
      refine SL.pure rfl rfl rfl (PureOp.assign rfl) ?_
      refine SL.nil_then ?_
      refine WC.ret ?_
      refine QX.ret2 rfl rfl rfl ?_
      intro w hw
      have q : badE cl l r x = 0 := by
        rw [badE, if_neg (by rw [h1.1]; simp; omega), if_neg (by omega)]
      try rw [chL]
      rw [q]
      exact ⟨_, _, rfl, hw.mem (i := 1) rfl⟩

set_option maxHeartbeats 4000000 in
set_option maxRecDepth 100000 in
theorem bad_ok_ (nm : ByteArray) (se ov : Int) (cl : List Cl) (ac : Option Addr) (nc cc : Nat) (hnc : nc = cl.length) (hcb : nc ≤ 30) (l : List Int) (ao : Option Addr) (n cap : Nat) (hn : n = l.length) (hnb : n ≤ 1000) (w0 : World) (hs : SliceIn w0 1 ao n cap (rowsF encI l)) (hc : SliceIn w0 2 ac nc cc (rowsF enc47 cl)) (r x : Int) (hx : -9223372036854775808 ≤ x ∧ x ≤ 9223372036854775807) : FnC Try.prog 28 [.agg #[.string nm, .int .i64 se, .int .i64 ov, .slice ac nc cc], .slice ao n cap, .int .i64 r, .int .i64 x] w0 fun v w' => v = .int .i64 (badE cl l r x) := by
  refine fnc (N := 25) Try.func28 rfl rfl rfl ?_
  refine WC.seq ?_
  refine WC.region ?_
  refine SL.box rfl rfl rfl (fun b1 hb1 => ?_)
  refine SL.pure rfl rfl rfl (PureOp.assign rfl) ?_
  refine SL.nil_then ?_
  refine WC.seq ?_
  refine WC.seq ?_
  refine WC.region ?_
  refine SL.pure rfl rfl rfl (PureOp.loads (vs := [.string nm, .int .i64 se, .int .i64 ov, .slice ac nc cc]) Try.underlying24 rfl rfl (fun _ => (RowIs.cells 0 0 4 rfl rfl)) sz24) ?_
  refine SL.pure rfl rfl rfl (PureOp.move rfl) ?_
  refine SL.calle rfl rfl rfl rfl rfl rfl callable25 (fun w hw => rright_ok nm se ov cl ac nc cc hnc hcb l ao n cap hn hnb w (hs.below hw.below) (hc.below hw.below)) ?_
  refine SL.pure rfl rfl rfl (PureOp.not rfl) ?_
  refine SL.pure rfl rfl rfl (PureOp.move rfl) ?_
  refine SL.newg 13 false rfl ?_
  refine SL.gpure (c := 1) rfl rfl rfl rfl rfl rfl rfl (PureOp.move rfl) ?_
  refine SL.gpure (c := 1) rfl rfl rfl rfl rfl rfl rfl (PureOp.lss rfl rfl) ?_
  refine SL.pure rfl rfl rfl (PureOp.or_ rfl rfl rfl rfl) ?_
  refine SL.nil_then ?_
  refine WC.cond rfl (fun h1 => ?_) (fun h1 => ?_)
  · try simp only [Bool.and_eq_true, Bool.or_eq_true, Bool.not_eq_true', Bool.not_eq_false', Bool.and_eq_false_iff, Bool.or_eq_false_iff, decide_eq_true_eq, decide_eq_false_iff_not, Int.not_lt, Int.not_le, ne_eq, Decidable.not_not] at h1
    refine WC.seq ?_
    refine WC.region ?_
    refine SL.pure rfl rfl rfl (PureOp.assign rfl) ?_
    refine SL.nil_then ?_
    refine WC.ret ?_
    refine QX.ret_then ?_
    refine QX.ret1 rfl rfl ?_
    intro w hw
    have q : badE cl l r x = 2 := by
      rw [badE, if_pos]
      rcases h1 with h1 | h1
      · exact .inl h1
      · exact .inr h1
    try rw [chL]
    rw [q]
    
  · try simp only [Bool.and_eq_true, Bool.or_eq_true, Bool.not_eq_true', Bool.not_eq_false', Bool.and_eq_false_iff, Bool.or_eq_false_iff, decide_eq_true_eq, decide_eq_false_iff_not, Int.not_lt, Int.not_le, ne_eq, Decidable.not_not] at h1
    refine WC.skip ?_
    refine QX.then_ ?_
    refine WC.seq ?_
    refine WC.seq ?_
    refine WC.region ?_
    refine SL.pure rfl rfl rfl (PureOp.move rfl) ?_
    refine SL.pure rfl rfl rfl (PureOp.lss rfl rfl) ?_
    refine SL.pure rfl rfl rfl (PureOp.move rfl) ?_
    refine SL.newg 19 false rfl ?_
    refine SL.gpure (c := 2) rfl rfl rfl rfl rfl rfl rfl (PureOp.move rfl) ?_
    refine SL.gpure (c := 2) rfl rfl rfl rfl rfl rfl rfl (PureOp.move rfl) ?_
    refine SL.gpure (c := 2) rfl rfl rfl rfl rfl rfl rfl (PureOp.len rfl Try.underlying25) ?_
    refine SL.gpure (c := 2) rfl rfl rfl rfl rfl rfl rfl (PureOp.geq rfl rfl) ?_
    refine SL.pure rfl rfl rfl (PureOp.or_ rfl rfl rfl rfl) ?_
    refine SL.nil_then ?_
    refine WC.cond rfl (fun h2 => ?_) (fun h2 => ?_)
    · try simp only [Bool.and_eq_true, Bool.or_eq_true, Bool.not_eq_true', Bool.not_eq_false', Bool.and_eq_false_iff, Bool.or_eq_false_iff, decide_eq_true_eq, decide_eq_false_iff_not, Int.not_lt, Int.not_le, ne_eq, Decidable.not_not] at h2
      refine WC.seq ?_
      refine WC.region ?_
      refine SL.pure rfl rfl rfl (PureOp.assign rfl) ?_
      refine SL.nil_then ?_
      refine WC.ret ?_
      refine QX.ret_then ?_
      refine QX.ret1 rfl rfl ?_
      intro w hw
      have q : badE cl l r x = 16 := by
        rw [badE, if_neg (by rw [h1.1]; simp; omega), if_pos (by omega)]
      try rw [chL]
      rw [q]
      
    · try simp only [Bool.and_eq_true, Bool.or_eq_true, Bool.not_eq_true', Bool.not_eq_false', Bool.and_eq_false_iff, Bool.or_eq_false_iff, decide_eq_true_eq, decide_eq_false_iff_not, Int.not_lt, Int.not_le, ne_eq, Decidable.not_not] at h2
      refine WC.skip ?_
      refine QX.then_ ?_
      refine WC.seq ?_
      refine WC.region ?_
      refine SL.pure rfl rfl rfl (PureOp.assign rfl) ?_
      refine SL.nil_then ?_
      refine WC.ret ?_
      refine QX.ret1 rfl rfl ?_
      intro w hw
      have q : badE cl l r x = 0 := by
        rw [badE, if_neg (by rw [h1.1]; simp; omega), if_neg (by omega)]
      try rw [chL]
      rw [q]
      

set_option maxHeartbeats 4000000 in
set_option maxRecDepth 100000 in
theorem with_ok (l : List Int) (ao : Option Addr) (n cap : Nat) (hn : n = l.length) (hnb : n ≤ 1000) (w0 : World) (hs : SliceIn w0 1 ao n cap (rowsF encI l)) (r x : Int) (hr1 : 0 ≤ r ∧ r < n) (hx : -9223372036854775808 ≤ nth l r.toNat + x ∧ nth l r.toNat + x ≤ 9223372036854775807) : FnC Try.prog 29 [.slice ao n cap, .int .i64 r, .int .i64 x] w0 fun v w' => ∃ a c, v = .slice a (l.set r.toNat (nth l r.toNat + x)).length c ∧ w'.ownsRow w0.heap.size 3 1 (.slice a (l.set r.toNat (nth l r.toNat + x)).length c) (l.set r.toNat (nth l r.toNat + x)).length (cellsOf encI (l.set r.toNat (nth l r.toNat + x))) := by
  refine fnc (N := 32) Try.func29 rfl rfl rfl ?_
  refine WC.seq ?_
  refine WC.region ?_
  refine SL.pure rfl rfl rfl (PureOp.assign rfl) ?_
  refine SL.nil_then ?_
  refine WC.seq ?_
  refine WC.region ?_
  refine SL.addnil 3 1 ?_
  refine SL.pure rfl rfl rfl (PureOp.assign rfl) ?_
  refine SL.nil_then ?_
  refine WC.seq ?_
  refine WC.seq ?_
  refine WC.region ?_
  refine SL.pure rfl rfl rfl (PureOp.assign rfl) ?_
  refine SL.nil_then ?_
  refine WC.block ?_
  refine WC.loop (σ := Nat × Option Addr × Nat) (fun q_ => [(0, 0, .slice ao n cap), (1, 0, .int .i64 r), (2, 0, .int .i64 x), (6, 0, .slice none 0 0), (8, 0, .int .i64 ((q_.1 : Nat) : Int)), (7, 0, .slice q_.2.1 q_.1 q_.2.2)]) (fun q_ => [Item.own w0.heap.size q_.2.1 q_.1 q_.2.2 3 1 (cellsOf encI (tab q_.1 (nth l)))]) (fun q_ => q_.1 ≤ n) (fun q_ => n - q_.1) 1 ((0, none, 0)) (Nat.zero_le _) ⟨rfl, rfl, rfl, rfl, rfl, rfl, rfl, rfl, rfl, rfl, rfl, rfl, trivial⟩ rfl ?_
  rintro ⟨k, a, c⟩ hk
  try dsimp only at *
  refine WC.seq ?_
  refine WC.seq ?_
  refine WC.region ?_
  refine SL.pure rfl rfl rfl (PureOp.move rfl) ?_
  refine SL.pure rfl rfl rfl (PureOp.move rfl) ?_
  refine SL.pure rfl rfl rfl (PureOp.len rfl Try.underlying25) ?_
  refine SL.pure rfl rfl rfl (PureOp.lss rfl rfl) ?_
  refine SL.nil_then ?_
  refine WC.cond rfl (fun h1 => ?_) (fun h1 => ?_)
  · try simp only [Bool.and_eq_true, Bool.or_eq_true, Bool.not_eq_true', Bool.not_eq_false', Bool.and_eq_false_iff, Bool.or_eq_false_iff, decide_eq_true_eq, decide_eq_false_iff_not, Int.not_lt, Int.not_le, ne_eq, Decidable.not_not] at h1
    refine WC.skip ?_
    refine QX.then_ ?_
    refine WC.seq ?_
    refine WC.block ?_
    refine WC.region ?_
    refine SL.pure rfl rfl rfl (PureOp.move rfl) ?_
    refine SL.pure rfl rfl rfl (PureOp.move rfl) ?_
    refine SL.pure rfl rfl rfl (PureOp.move rfl) ?_
    refine SL.pure rfl rfl rfl (PureOp.indexAddrN Try.underlying25 sz3 rfl rfl (AoOk.in_ hs) (fun _ => by (first | omega | (simp only [tab_len, cellsOf_length encI_len]; omega)))) ?_
    refine SL.pure rfl rfl rfl (PureOp.load (v := .int .i64 (nth l k)) Try.underlying3 rfl rfl (fun _ => (CellIs.in_ hs k 0 (by (first | omega | (simp only [tab_len, cellsOf_length encI_len]; omega))) (by omega)))) ?_
    refine SL.buildSlice rfl rfl Try.underlying25 elem3 rfl rfl rfl rfl (fun b1 hb1 => ?_)
    refine SL.append 0 rfl rfl Try.underlying25 elem3 rfl rfl rfl rfl (SrcIs.own 1 rfl) (by rfl) (by (first | omega | (simp only [tab_len, cellsOf_length encI_len]; omega))) (by (first | omega | (simp only [tab_len, cellsOf_length encI_len]; omega))) (fun ao1_ cap1_ => ?_)
    refine SL.itemxs 0 rfl (show _ = cellsOf encI (tab (k + 1) (nth l)) from by rw [tab_succ, cellsOf_append, cellsOf_one]; rfl) ?_
    refine SL.pure rfl rfl rfl (PureOp.assign rfl) ?_
    refine SL.nil ?_
    refine QX.normal_in ?_
    refine QX.then_ ?_
    refine WC.region ?_
    refine SL.pure rfl rfl rfl (PureOp.move rfl) ?_
    refine SL.pure rfl rfl rfl (PureOp.addN (k := 1) rfl rfl (fun _ => by (first | omega | (simp only [tab_len, cellsOf_length encI_len]; omega)))) ?_
    refine SL.pure rfl rfl rfl (PureOp.assign rfl) ?_
    refine SL.nil ?_
    refine QX.round (σ := Nat × Option Addr × Nat) (Ef := fun q_ => [(0, 0, .slice ao n cap), (1, 0, .int .i64 r), (2, 0, .int .i64 x), (6, 0, .slice none 0 0), (8, 0, .int .i64 ((q_.1 : Nat) : Int)), (7, 0, .slice q_.2.1 q_.1 q_.2.2)]) (Hf := fun q_ => [Item.own w0.heap.size q_.2.1 q_.1 q_.2.2 3 1 (cellsOf encI (tab q_.1 (nth l)))]) (I := fun q_ => q_.1 ≤ n) (μ := fun q_ => n - q_.1) (s := (k, a, c)) 1 ((k + 1, ao1_, cap1_)) ⟨(by first | omega | (dsimp only; omega)), by first | omega | (dsimp only; omega)⟩ ⟨rfl, rfl, rfl, rfl, rfl, rfl, rfl, rfl, rfl, rfl, rfl, rfl, trivial⟩ rfl
  · try simp only [Bool.and_eq_true, Bool.or_eq_true, Bool.not_eq_true', Bool.not_eq_false', Bool.and_eq_false_iff, Bool.or_eq_false_iff, decide_eq_true_eq, decide_eq_false_iff_not, Int.not_lt, Int.not_le, ne_eq, Decidable.not_not] at h1
    refine WC.exit ?_
    refine QX.exit_then ?_
    refine QX.exit_then ?_
    refine QX.exit_hit ?_
    refine QX.then_ ?_
    refine WC.seq ?_
    refine WC.region ?_
    refine SL.pure rfl rfl rfl (PureOp.move rfl) ?_
    refine SL.pure rfl rfl rfl (PureOp.move rfl) ?_
    refine SL.pure rfl rfl rfl (PureOp.move rfl) ?_
    refine SL.pure rfl rfl rfl (PureOp.move rfl) ?_
    refine SL.pure rfl rfl rfl (PureOp.indexAddr Try.underlying25 sz3 rfl rfl (AoOk.own 0 rfl) (fun _ => by (first | omega | (simp only [tab_len, cellsOf_length encI_len]; omega)))) ?_
    refine SL.pure rfl rfl rfl (PureOp.load (v := .int .i64 (nth l r.toNat)) Try.underlying3 rfl rfl (fun _ => (CellIs.ownc 0 rfl (r).toNat 0 (by exact (encI_get (by rw [tab_len]; omega)).trans (by rw [tab_nth _ _ (by omega)]))))) ?_
    refine SL.pure rfl rfl rfl (PureOp.move rfl) ?_
    refine SL.pure rfl rfl rfl (PureOp.add rfl rfl (fun _ => by (first | omega | (simp only [tab_len, cellsOf_length encI_len]; omega)))) ?_
    refine SL.pure rfl rfl rfl (PureOp.indexAddr Try.underlying25 sz3 rfl rfl (AoOk.own 0 rfl) (fun _ => by (first | omega | (simp only [tab_len, cellsOf_length encI_len]; omega)))) ?_
    refine SL.storeown (k := ((r).toNat)) (j := 0) 0 rfl rfl rfl rfl sz3 (by (rw [cellsOf_length encI_len, tab_len]; omega)) rfl ?_
    refine SL.itemxs 0 rfl (show _ = cellsOf encI (l.set r.toNat (nth l r.toNat + x)) from by
        obtain rfl : k = n := by omega
        rw [encI_set (by rw [tab_len]; omega), hn, ← tab_of_list]) ?_
    refine SL.nil_then ?_
    refine WC.seq ?_
    refine WC.region ?_
    refine SL.pure rfl rfl rfl (PureOp.move rfl) ?_
    refine SL.pure rfl rfl rfl (PureOp.assign rfl) ?_
    refine SL.nil_then ?_
    refine WC.ret ?_
    refine QX.ret1 rfl rfl ?_
    intro w hw
    obtain rfl : k = n := by omega
    have h := hw.mem (i := 0) rfl
    rw [List.length_set, ← hn]
    exact ⟨_, _, rfl, h⟩

end Go.Proofs.Ytblgllngkbjfgaa
