import Derived.Test.YtblmafknmeicfaaPrB
namespace Go.Proofs.Ytblmafknmeicfaa
open Go Go.RowKit Eng
set_option linter.unusedVariables false
set_option linter.unusedSimpArgs false

set_option maxHeartbeats 4000000 in
set_option maxRecDepth 100000 in
theorem paired_ok (w0 : World) (out : List (Nat × Nat)) (oa : Option Addr) (on oc : Nat) (hon : on = out.length) (hO : SliceIn w0 2 oa on oc (rowsF encNN out)) (honb : on ≤ 1000) (j : Nat) : FnC Try.prog 22 [.slice oa on oc, .int .i64 ((j : Nat) : Int)] w0 fun v w' => v = .bool (!(freeB out j)) := by
  refine fnc (N := 28) Try.func22 rfl rfl rfl ?_
  refine WC.seq ?_
  refine WC.region ?_
  refine SL.pure rfl rfl rfl (PureOp.assign rfl) ?_
  refine SL.nil_then ?_
  refine WC.seq ?_
  refine WC.seq ?_
  refine WC.region ?_
  refine SL.pure rfl rfl rfl (PureOp.assign rfl) ?_
  refine SL.nil_then ?_
  refine WC.block ?_
  refine WC.loop (σ := Nat) (fun q_ => [(0, 0, .slice oa on oc), (1, 0, .int .i64 ((j : Nat) : Int)), (5, 0, .int .i64 ((q_ : Nat) : Int))]) (fun q_ => []) (fun q_ => q_ ≤ on ∧ allK (fun k => !(inB (nth out k) j)) q_ = true) (fun q_ => on - q_) 0 (0) (⟨Nat.zero_le _, rfl⟩) ⟨rfl, rfl, rfl, rfl, rfl, rfl, trivial⟩ rfl ?_
  rintro k ⟨hk, hz⟩
  refine WC.seq ?_
  refine WC.seq ?_
  refine WC.region ?_
  refine SL.pure rfl rfl rfl (PureOp.move rfl) ?_
  refine SL.pure rfl rfl rfl (PureOp.move rfl) ?_
  refine SL.pure rfl rfl rfl (PureOp.len rfl Try.underlying30) ?_
  refine SL.pure rfl rfl rfl (PureOp.lss rfl rfl) ?_
  refine SL.nil_then ?_
  refine WC.cond rfl (fun h1 => ?_) (fun h1 => ?_)
  · try simp only [Bool.and_eq_true, Bool.or_eq_true, Bool.not_eq_true', Bool.not_eq_false', Bool.and_eq_false_iff, Bool.or_eq_false_iff, decide_eq_true_eq, decide_eq_false_iff_not, Int.not_lt, Int.not_le, ne_eq, Decidable.not_not] at h1
    refine WC.skip ?_
    refine QX.then_ ?_
    refine WC.seq ?_
    refine WC.block ?_
    refine WC.seq ?_
    refine WC.region ?_
    refine SL.pure rfl rfl rfl (PureOp.move rfl) ?_
    refine SL.pure rfl rfl rfl (PureOp.move rfl) ?_
    refine SL.pure rfl rfl rfl (PureOp.indexAddrN Try.underlying30 sz50 rfl rfl (AoOk.in_ hO) (fun _ => by omega)) ?_
    refine SL.pure rfl rfl rfl (PureOp.indexAddrA Try.underlying50 sz3 rfl rfl (fun _ => by decide)) ?_
    refine SL.pure rfl rfl rfl (PureOp.load (v := .int .i64 ((nth out k).1 : Int)) Try.underlying3 rfl rfl (fun _ => (CellIs.in_ hO k 0 (by omega) (by omega)))) ?_
    refine SL.pure rfl rfl rfl (PureOp.move rfl) ?_
    refine SL.pure rfl rfl rfl (PureOp.eql rfl rfl) ?_
    refine SL.pure rfl rfl rfl (PureOp.move rfl) ?_
    refine SL.newg 19 false rfl ?_
    refine SL.gpure (c := 1) rfl rfl rfl rfl rfl rfl rfl (PureOp.move rfl) ?_
    refine SL.gpure (c := 1) rfl rfl rfl rfl rfl rfl rfl (PureOp.move rfl) ?_
    refine SL.gpure (c := 1) rfl rfl rfl rfl rfl rfl rfl (PureOp.indexAddrN Try.underlying30 sz50 rfl rfl (AoOk.in_ hO) (by intro hg; simp [gval] at hg; omega)) ?_
    refine SL.gpure (c := 1) rfl rfl rfl rfl rfl rfl rfl (PureOp.indexAddrA Try.underlying50 sz3 rfl rfl (fun _ => by decide)) ?_
    refine SL.gpure (c := 1) rfl rfl rfl rfl rfl rfl rfl (PureOp.load (v := .int .i64 ((nth out k).2 : Int)) Try.underlying3 rfl rfl (by intro hg; simp [gval] at hg; exact (CellIs.in_ hO k 1 (by omega) (by omega)))) ?_
    refine SL.gpure (c := 1) rfl rfl rfl rfl rfl rfl rfl (PureOp.move rfl) ?_
    refine SL.gpure (c := 1) rfl rfl rfl rfl rfl rfl rfl (PureOp.eql rfl rfl) ?_
    refine SL.pure rfl rfl rfl (PureOp.or_ rfl rfl rfl rfl) ?_
    refine SL.nil_then ?_
    refine WC.cond rfl (fun h2 => ?_) (fun h2 => ?_)
    · try simp only [Bool.and_eq_true, Bool.or_eq_true, Bool.not_eq_true', Bool.not_eq_false', Bool.and_eq_false_iff, Bool.or_eq_false_iff, decide_eq_true_eq, decide_eq_false_iff_not, Int.not_lt, Int.not_le, ne_eq, Decidable.not_not] at h2
      refine WC.seq ?_
      refine WC.region ?_
      refine SL.pure rfl rfl rfl (PureOp.assign rfl) ?_
      refine SL.nil_then ?_
      refine WC.ret ?_
      refine QX.ret_in ?_
      refine QX.ret_then ?_
      refine QX.ret_then ?_
      refine QX.ret_in ?_
      refine QX.ret_then ?_
      refine QX.ret1 rfl rfl ?_
      intro w hw
      rw [freeB, allK_not (k := k) (by omega) (by unfold inB; rw [Bool.not_eq_false', Bool.or_eq_true, decide_eq_true_iff, decide_eq_true_iff]; omega)]; rfl
    · try simp only [Bool.and_eq_true, Bool.or_eq_true, Bool.not_eq_true', Bool.not_eq_false', Bool.and_eq_false_iff, Bool.or_eq_false_iff, decide_eq_true_eq, decide_eq_false_iff_not, Int.not_lt, Int.not_le, ne_eq, Decidable.not_not] at h2
      refine WC.skip ?_
      refine QX.normal_in ?_
      refine QX.then_ ?_
      refine WC.region ?_
      refine SL.pure rfl rfl rfl (PureOp.move rfl) ?_
      refine SL.pure rfl rfl rfl (PureOp.addN (k := 1) rfl rfl (fun _ => by omega)) ?_
      refine SL.pure rfl rfl rfl (PureOp.assign rfl) ?_
      refine SL.nil ?_
      refine QX.round 0 (k + 1) ⟨⟨(by first | omega | (dsimp only; omega)), allK_next hz (by unfold inB; rw [Bool.not_eq_true', Bool.or_eq_false_iff, decide_eq_false_iff_not, decide_eq_false_iff_not]; omega)⟩, by first | omega | (dsimp only; omega)⟩ ⟨rfl, rfl, rfl, rfl, rfl, rfl, trivial⟩ rfl
  · try simp only [Bool.and_eq_true, Bool.or_eq_true, Bool.not_eq_true', Bool.not_eq_false', Bool.and_eq_false_iff, Bool.or_eq_false_iff, decide_eq_true_eq, decide_eq_false_iff_not, Int.not_lt, Int.not_le, ne_eq, Decidable.not_not] at h1
    refine WC.exit ?_
    refine QX.exit_then ?_
    refine QX.exit_then ?_
    refine QX.exit_hit ?_
    refine QX.then_ ?_
    refine WC.seq ?_
    refine WC.region ?_
    refine SL.pure rfl rfl rfl (PureOp.assign rfl) ?_
    refine SL.nil_then ?_
    refine WC.ret ?_
    refine QX.ret1 rfl rfl ?_
    intro w hw
    rw [freeB, ← hon, show on = k from by omega, hz]; rfl

theorem prt_no {fl : List Fa} {pl : List Pt} {pd : List Bool} {out : List (Nat × Nat)} {n i k : Nat} (R : RunIs n (rdF fl pl) (mtF fl pl) i pd out) (hik : i ≤ k) (hk : k < n) (hrd : rdF fl pl i = true) (h : freeB out k = false ∨ ((fareX fl pl i).2.2.2.2.2.1 = false ∨ (fareX fl pl k).2.2.2.2.2.1 = false ∨ backB (fareX fl pl i) (fareX fl pl k) = false)) : okK (rdF fl pl) (mtF fl pl) pd i k = false := by
  rw [paired_free R hik hk] at h
  rcases h with h | h | h
  · exact okK_no (.inl (by simpa using h))
  · rw [show (fareX fl pl i).2.2.2.2.2.1 = true from hrd] at h; cases h
  · exact okK_no (.inr (okB_no h))
theorem prt_yes {fl : List Fa} {pl : List Pt} {pd : List Bool} {out : List (Nat × Nat)} {n i k : Nat} (R : RunIs n (rdF fl pl) (mtF fl pl) i pd out) (hik : i ≤ k) (hk : k < n) (h : freeB out k = true) (h2 : (fareX fl pl k).2.2.2.2.2.1 = true ∧ backB (fareX fl pl i) (fareX fl pl k) = true) : okK (rdF fl pl) (mtF fl pl) pd i k = true := by
  rw [paired_free R hik hk] at h
  exact okK_yes (by simpa using h) (okB_yes h2)
set_option maxHeartbeats 4000000 in
set_option maxRecDepth 100000 in
theorem partner_ok (u1 u2 : SliceV Unit) (fl : List Fa) (rao : Option Addr) (rn rcap : Nat) (fao : Option Addr) (fn fcap : Nat) (hfn : fn = fl.length) (w0 : World) (hf : SliceIn w0 9 fao fn fcap (rowsF enc52 fl)) (hfb : fn ≤ 1000) (pl : List Pt) (pao : Option Addr) (pn pcap : Nat) (hpn : pn = pl.length) (hp : SliceIn w0 4 pao pn pcap (rowsF enc42 pl)) (hpb : pn ≤ 1000) (out : List (Nat × Nat)) (oa : Option Addr) (on oc : Nat) (hon : on = out.length) (hO : SliceIn w0 2 oa on oc (rowsF encNN out)) (honb : on ≤ 1000) (i : Nat) (hi : i < pn) (pd : List Bool) (R : RunIs pn (rdF fl pl) (mtF fl pl) i pd out) (hrd : rdF fl pl i = true) (hfa : ∀ j, j < pn → 0 ≤ (nth pl j).2.2.1 ∧ (nth pl j).2.2.1 < fn) : FnC Try.prog 23 [.agg #[.slice fao fn fcap, .slice rao rn rcap, .slice u1.ao u1.l.length u1.cap, .slice u2.ao u2.l.length u2.cap], .slice pao pn pcap, .slice oa on oc, .int .i64 ((i : Nat) : Int)] w0 fun v w' => v = .int .i64 (if fstK (okK (rdF fl pl) (mtF fl pl) pd i) pn (i + 1) = pn then -1 else (fstK (okK (rdF fl pl) (mtF fl pl) pd i) pn (i + 1) : Nat)) := by
  refine fnc (N := 44) Try.func23 rfl rfl rfl ?_
  refine WC.seq ?_
  refine WC.region ?_
  refine SL.box rfl rfl rfl (fun b1 hb1 => ?_)
  refine SL.norm [_] rfl ?_
  refine SL.pure rfl rfl rfl (PureOp.assign rfl) ?_
  refine SL.nil_then ?_
  refine WC.seq ?_
  refine WC.seq ?_
  refine WC.region ?_
  refine SL.pure rfl rfl rfl (PureOp.move rfl) ?_
  refine SL.pure rfl rfl rfl (PureOp.addN (k := 1) rfl rfl (fun _ => by first | omega | (have q := hfa k (by omega); omega) | (have q := hfa i (by omega); omega))) ?_
  refine SL.pure rfl rfl rfl (PureOp.assign rfl) ?_
  refine SL.nil_then ?_
  refine WC.block ?_
  refine WC.loop (σ := Nat) (fun q_ => [(0, 0, .agg #[.slice fao fn fcap, .slice rao rn rcap, .slice u1.ao u1.l.length u1.cap, .slice u2.ao u2.l.length u2.cap]), (1, 0, .slice pao pn pcap), (2, 0, .slice oa on oc), (3, 0, .int .i64 ((i : Nat) : Int)), (4, 0, .pointer (some ⟨b1, 0, none⟩)), (10, 0, .int .i64 ((i : Nat) : Int)), (11, 0, .int .i64 ((i + 1 : Nat) : Int)), (9, 0, .int .i64 ((q_ : Nat) : Int))]) (fun q_ => [Item.cells b1 [.slice fao fn fcap, .slice rao rn rcap, .slice u1.ao u1.l.length u1.cap, .slice u2.ao u2.l.length u2.cap] 27]) (fun q_ => (i + 1 ≤ q_ ∧ q_ ≤ pn) ∧ ∀ j, i + 1 ≤ j → j < q_ → okK (rdF fl pl) (mtF fl pl) pd i j = false) (fun q_ => pn - q_) 1 (i + 1) (⟨⟨Nat.le_refl _, by omega⟩, fun j q1 q2 => by omega⟩) ⟨rfl, rfl, rfl, rfl, rfl, rfl, rfl, rfl, rfl, rfl, rfl, rfl, rfl, rfl, rfl, rfl, trivial⟩ rfl ?_
  rintro k ⟨hk, hq⟩
  refine WC.seq ?_
  refine WC.seq ?_
  refine WC.region ?_
  refine SL.pure rfl rfl rfl (PureOp.move rfl) ?_
  refine SL.pure rfl rfl rfl (PureOp.move rfl) ?_
  refine SL.pure rfl rfl rfl (PureOp.len rfl Try.underlying28) ?_
  refine SL.pure rfl rfl rfl (PureOp.lss rfl rfl) ?_
  refine SL.nil_then ?_
  refine WC.cond rfl (fun h1 => ?_) (fun h1 => ?_)
  · try simp only [Bool.and_eq_true, Bool.or_eq_true, Bool.not_eq_true', Bool.not_eq_false', Bool.and_eq_false_iff, Bool.or_eq_false_iff, decide_eq_true_eq, decide_eq_false_iff_not, Int.not_lt, Int.not_le, ne_eq, Decidable.not_not] at h1
    refine WC.skip ?_
    refine QX.then_ ?_
    refine WC.seq ?_
    refine WC.block ?_
    refine WC.seq ?_
    refine WC.quiet rfl (by kernel_rfl) ?_
    refine SQ.pure rfl rfl rfl (PureOp.move rfl) ?_
    refine SQ.pure rfl rfl rfl (PureOp.move rfl) ?_
    refine SQ.calle rfl rfl rfl rfl rfl rfl callable22 (fun w hw => paired_ok w out oa on oc hon (hO.below hw.below) honb k) ?_
    refine SQ.pure rfl rfl rfl (PureOp.not rfl) ?_
    refine SQ.pure rfl rfl rfl (PureOp.move rfl) ?_
    refine SQ.newg 22 true rfl ?_
    refine SQ.gpure (c := 1) rfl rfl rfl rfl rfl rfl rfl (PureOp.fieldAddrT 0 Try.underlying27 rfl sz22 rfl rfl) ?_
    refine SQ.gpure (c := 1) rfl rfl rfl rfl rfl rfl rfl (PureOp.load (v := .slice fao fn fcap) Try.underlying22 rfl rfl (fun _ => (CellIs.cells 0 rfl rfl))) ?_
    refine SQ.gpure (c := 1) rfl rfl rfl rfl rfl rfl rfl (PureOp.move rfl) ?_
    refine SQ.gpure (c := 1) rfl rfl rfl rfl rfl rfl rfl (PureOp.move rfl) ?_
    refine SQ.gpure (c := 1) rfl rfl rfl rfl rfl rfl rfl (PureOp.indexAddrN Try.underlying28 sz42 rfl rfl (AoOk.in_ hp) (by intro hg; simp [gval] at hg; first | omega | (have q := hfa k (by omega); omega) | (have q := hfa i (by omega); omega))) ?_
    refine SQ.gpure (c := 1) rfl rfl rfl rfl rfl rfl rfl (PureOp.fieldAddr 2 Try.underlying42 rfl rfl sz3 rfl) ?_
    refine SQ.gpure (c := 1) rfl rfl rfl rfl rfl rfl rfl (PureOp.load (v := .int .i64 ((nth pl i).2.2.1)) Try.underlying3 rfl rfl (by intro hg; simp [gval] at hg; exact (CellIs.in_ hp i 2 (by first | omega | (have q := hfa k (by omega); omega) | (have q := hfa i (by omega); omega)) (by omega)))) ?_
    refine SQ.gpure (c := 1) rfl rfl rfl rfl rfl rfl rfl (PureOp.indexAddr Try.underlying22 sz52 rfl rfl (AoOk.in_ hf) (by intro hg; simp [gval] at hg; first | omega | (have q := hfa k (by omega); omega) | (have q := hfa i (by omega); omega))) ?_
    refine SQ.gpure (c := 1) rfl rfl rfl rfl rfl rfl rfl (PureOp.loads (vs := [.string ((nth fl (((nth pl i).2.2.1).toNat)).1), .string ((nth fl (((nth pl i).2.2.1).toNat)).2.1), .string ((nth fl (((nth pl i).2.2.1).toNat)).2.2.1), .string ((nth fl (((nth pl i).2.2.1).toNat)).2.2.2.1), .string ((nth fl (((nth pl i).2.2.1).toNat)).2.2.2.2.1), .bool ((nth fl (((nth pl i).2.2.1).toNat)).2.2.2.2.2.1), .int .i64 ((nth fl (((nth pl i).2.2.1).toNat)).2.2.2.2.2.2.1), .int .i64 ((nth fl (((nth pl i).2.2.1).toNat)).2.2.2.2.2.2.2.1), .int .i64 ((nth fl (((nth pl i).2.2.1).toNat)).2.2.2.2.2.2.2.2)]) Try.underlying52 rfl rfl (by intro hg; simp [gval] at hg; exact (RowIs.in_ hf (((nth pl i).2.2.1).toNat) 0 9 (by first | omega | (have q := hfa k (by omega); omega) | (have q := hfa i (by omega); omega)) (by omega))) sz52) ?_
    refine SQ.gpure (c := 1) rfl rfl rfl rfl rfl rfl rfl (PureOp.fieldAddrT 0 Try.underlying27 rfl sz22 rfl rfl) ?_
    refine SQ.gpure (c := 1) rfl rfl rfl rfl rfl rfl rfl (PureOp.load (v := .slice fao fn fcap) Try.underlying22 rfl rfl (fun _ => (CellIs.cells 0 rfl rfl))) ?_
    refine SQ.gpure (c := 1) rfl rfl rfl rfl rfl rfl rfl (PureOp.move rfl) ?_
    refine SQ.gpure (c := 1) rfl rfl rfl rfl rfl rfl rfl (PureOp.move rfl) ?_
    refine SQ.gpure (c := 1) rfl rfl rfl rfl rfl rfl rfl (PureOp.indexAddrN Try.underlying28 sz42 rfl rfl (AoOk.in_ hp) (by intro hg; simp [gval] at hg; first | omega | (have q := hfa k (by omega); omega) | (have q := hfa i (by omega); omega))) ?_
    refine SQ.gpure (c := 1) rfl rfl rfl rfl rfl rfl rfl (PureOp.fieldAddr 2 Try.underlying42 rfl rfl sz3 rfl) ?_
    refine SQ.gpure (c := 1) rfl rfl rfl rfl rfl rfl rfl (PureOp.load (v := .int .i64 ((nth pl k).2.2.1)) Try.underlying3 rfl rfl (by intro hg; simp [gval] at hg; exact (CellIs.in_ hp k 2 (by first | omega | (have q := hfa k (by omega); omega) | (have q := hfa i (by omega); omega)) (by omega)))) ?_
    refine SQ.gpure (c := 1) rfl rfl rfl rfl rfl rfl rfl (PureOp.indexAddr Try.underlying22 sz52 rfl rfl (AoOk.in_ hf) (by intro hg; simp [gval] at hg; first | omega | (have q := hfa k (by omega); omega) | (have q := hfa i (by omega); omega))) ?_
    refine SQ.gpure (c := 1) rfl rfl rfl rfl rfl rfl rfl (PureOp.loads (vs := [.string ((nth fl (((nth pl k).2.2.1).toNat)).1), .string ((nth fl (((nth pl k).2.2.1).toNat)).2.1), .string ((nth fl (((nth pl k).2.2.1).toNat)).2.2.1), .string ((nth fl (((nth pl k).2.2.1).toNat)).2.2.2.1), .string ((nth fl (((nth pl k).2.2.1).toNat)).2.2.2.2.1), .bool ((nth fl (((nth pl k).2.2.1).toNat)).2.2.2.2.2.1), .int .i64 ((nth fl (((nth pl k).2.2.1).toNat)).2.2.2.2.2.2.1), .int .i64 ((nth fl (((nth pl k).2.2.1).toNat)).2.2.2.2.2.2.2.1), .int .i64 ((nth fl (((nth pl k).2.2.1).toNat)).2.2.2.2.2.2.2.2)]) Try.underlying52 rfl rfl (by intro hg; simp [gval] at hg; exact (RowIs.in_ hf (((nth pl k).2.2.1).toNat) 0 9 (by first | omega | (have q := hfa k (by omega); omega) | (have q := hfa i (by omega); omega)) (by omega))) sz52) ?_
    refine SQ.gcalle (c := 1) rfl rfl rfl rfl rfl rfl rfl rfl rfl rfl callable35 (by intro hg; simp [gval] at hg; exact (fun w hw => returns_ok (fareX fl pl i) (fareX fl pl k) w)) ?_
    refine SQ.pure rfl rfl rfl (PureOp.and_ rfl rfl rfl rfl) ?_
    refine SQ.nil_then ?_
    refine WC.cond rfl (fun h2 => ?_) (fun h2 => ?_)
    · try simp only [Bool.and_eq_true, Bool.or_eq_true, Bool.not_eq_true', Bool.not_eq_false', Bool.and_eq_false_iff, Bool.or_eq_false_iff, decide_eq_true_eq, decide_eq_false_iff_not, Int.not_lt, Int.not_le, ne_eq, Decidable.not_not] at h2
      refine WC.seq ?_
      refine WC.region ?_
      refine SL.pure rfl rfl rfl (PureOp.move rfl) ?_
      refine SL.pure rfl rfl rfl (PureOp.assign rfl) ?_
      refine SL.nil_then ?_
      refine WC.ret ?_
      refine QX.ret_in ?_
      refine QX.ret_then ?_
      refine QX.ret_then ?_
      refine QX.ret_in ?_
      refine QX.ret_then ?_
      refine QX.ret1 rfl rfl ?_
      intro w hw
      rw [fstK_at (r := k) hq hk.1 (by omega) (fun _ => prt_yes R (by omega) (by omega) h2.1 h2.2.2), if_neg (by omega)]
    · try simp only [Bool.and_eq_true, Bool.or_eq_true, Bool.not_eq_true', Bool.not_eq_false', Bool.and_eq_false_iff, Bool.or_eq_false_iff, decide_eq_true_eq, decide_eq_false_iff_not, Int.not_lt, Int.not_le, ne_eq, Decidable.not_not] at h2
      refine WC.skip ?_
      refine QX.normal_in ?_
      refine QX.then_ ?_
      refine WC.region ?_
      refine SL.pure rfl rfl rfl (PureOp.move rfl) ?_
      refine SL.pure rfl rfl rfl (PureOp.addN (k := 1) rfl rfl (fun _ => by first | omega | (have q := hfa k (by omega); omega) | (have q := hfa i (by omega); omega))) ?_
      refine SL.pure rfl rfl rfl (PureOp.assign rfl) ?_
      refine SL.nil ?_
      refine QX.round 1 (k + 1) ⟨⟨(by first | omega | (dsimp only; omega)), okK_next hq (prt_no R (by omega) (by omega) hrd h2)⟩, by first | omega | (dsimp only; omega)⟩ ⟨rfl, rfl, rfl, rfl, rfl, rfl, rfl, rfl, rfl, rfl, rfl, rfl, rfl, rfl, rfl, rfl, trivial⟩ rfl
  · try simp only [Bool.and_eq_true, Bool.or_eq_true, Bool.not_eq_true', Bool.not_eq_false', Bool.and_eq_false_iff, Bool.or_eq_false_iff, decide_eq_true_eq, decide_eq_false_iff_not, Int.not_lt, Int.not_le, ne_eq, Decidable.not_not] at h1
    refine WC.exit ?_
    refine QX.exit_then ?_
    refine QX.exit_then ?_
    refine QX.exit_hit ?_
    refine QX.then_ ?_
    refine WC.seq ?_
    refine WC.region ?_
    refine SL.pure rfl rfl rfl (PureOp.assign rfl) ?_
    refine SL.nil_then ?_
    refine WC.ret ?_
    refine QX.ret1 rfl rfl ?_
    intro w hw
    rw [fstK_at (r := pn) (by rw [show pn = k from by omega]; exact hq) (by omega) (Nat.le_refl _) (fun q => absurd q (Nat.lt_irrefl _)), if_pos rfl]

end Go.Proofs.Ytblmafknmeicfaa
