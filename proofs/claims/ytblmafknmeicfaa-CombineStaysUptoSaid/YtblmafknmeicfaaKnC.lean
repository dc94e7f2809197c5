import Derived.Test.YtblmafknmeicfaaKnB
namespace Go.Proofs.Ytblmafknmeicfaa
open Go Go.RowKit Eng
set_option linter.unusedVariables false
set_option linter.unusedSimpArgs false

theorem depA_in {w : World} {al : List Ai} {wl : List Wa} (hsh : ∀ a ∈ al, SliceIn w 2 a.2.2.2.2.ao a.2.2.2.2.l.length a.2.2.2.2.cap (rowsF enc133 a.2.2.2.2.l)) (cd : ByteArray) : SliceIn w 2 (findE al cd).1.2.2.2.2.ao (findE al cd).1.2.2.2.2.l.length (findE al cd).1.2.2.2.2.cap (rowsF enc133 (findE al cd).1.2.2.2.2.l) := by
  rcases findE_mem cd al with h | h
  · exact hsh _ h
  · rw [h]; exact ⟨Nat.le_refl _, by simp [ai0, maxLen], .inl rfl, fun i hi => absurd hi (by simp [ai0])⟩
theorem depA_of {al : List Ai} (hof : ∀ a ∈ al, ∀ u, -1000000 ≤ offE u a.2.2.2.1 a.2.2.2.2.l ∧ offE u a.2.2.2.1 a.2.2.2.2.l ≤ 1000000) (cd : ByteArray) (u : Int) : -1000000 ≤ offE u (findE al cd).1.2.2.2.1 (findE al cd).1.2.2.2.2.l ∧ offE u (findE al cd).1.2.2.2.1 (findE al cd).1.2.2.2.2.l ≤ 1000000 := by
  rcases findE_mem cd al with h | h
  · exact hof _ h u
  · rw [h]; exact ⟨show (-1000000 : Int) ≤ 0 by decide, show (0 : Int) ≤ 1000000 by decide⟩
set_option maxHeartbeats 4000000 in
set_option maxRecDepth 100000 in
theorem departure_ok (u3 : SliceV Unit) (al : List Ai) (aao : Option Addr) (an acap : Nat) (han : an = al.length) (w0 : World) (sA : SliceIn w0 5 aao an acap (rowsF enc88 al)) (hab : an ≤ 1000) (wl : List Wa) (wao : Option Addr) (wn wcap : Nat) (hwn : wn = wl.length) (sW : SliceIn w0 8 wao wn wcap (rowsF enc62 wl)) (hwb : wn ≤ 1000) (hdp : ∀ i, i < wn → -1099511627776 ≤ (nth wl i).1.2.2.2.2.2.1 ∧ (nth wl i).1.2.2.2.2.2.1 ≤ 1099511627776) (hsh : ∀ a ∈ al, SliceIn w0 2 a.2.2.2.2.ao a.2.2.2.2.l.length a.2.2.2.2.cap (rowsF enc133 a.2.2.2.2.l)) (hof : ∀ a ∈ al, ∀ u, -1000000 ≤ offE u a.2.2.2.1 a.2.2.2.2.l ∧ offE u a.2.2.2.1 a.2.2.2.2.l ≤ 1000000) (x : Pt) (hx : 0 ≤ x.1 ∧ x.1 < wn) : FnC Try.prog 30 [.agg #[.slice aao an acap, .slice u3.ao u3.l.length u3.cap], .slice wao wn wcap, .agg #[.int .i64 x.1, .int .i64 x.2.1, .int .i64 x.2.2.1, .int .i64 x.2.2.2]] w0 fun v w' => v = .tuple #[.int .i64 (depD al wl x), .bool (depA al wl x).2] := by
  refine fnc (N := 37) Try.func30 rfl rfl rfl ?_
  refine WC.seq ?_
  refine WC.region ?_
  refine SL.box rfl rfl rfl (fun b1 hb1 => ?_)
  refine SL.norm [_] rfl ?_
  refine SL.box rfl rfl rfl (fun b2 hb2 => ?_)
  refine SL.norm [_, _] rfl ?_
  refine SL.pure rfl rfl rfl (PureOp.assign rfl) ?_
  refine SL.pure rfl rfl rfl (PureOp.assign rfl) ?_
  refine SL.nil_then ?_
  refine WC.seq ?_
  refine WC.region ?_
  refine SL.pure rfl rfl rfl (PureOp.move rfl) ?_
  refine SL.pure rfl rfl rfl (PureOp.fieldAddrT 0 Try.underlying42 rfl sz3 rfl rfl) ?_
  refine SL.pure rfl rfl rfl (PureOp.load (v := .int .i64 x.1) Try.underlying3 rfl rfl (fun _ => (CellIs.cells 1 rfl rfl))) ?_
  refine SL.pure rfl rfl rfl (PureOp.indexAddr Try.underlying45 sz62 rfl rfl (AoOk.in_ sW) (fun _ => by omega)) ?_
  refine SL.pure rfl rfl rfl (PureOp.fieldAddr 0 Try.underlying62 rfl rfl sz60 rfl) ?_
  refine SL.pure rfl rfl rfl (PureOp.loads (vs := [.string ((nth wl ((x.1).toNat)).1.1), .int .i64 ((nth wl ((x.1).toNat)).1.2.1), .int .i64 ((nth wl ((x.1).toNat)).1.2.2.1), .string ((nth wl ((x.1).toNat)).1.2.2.2.1), .string ((nth wl ((x.1).toNat)).1.2.2.2.2.1), .int .i64 ((nth wl ((x.1).toNat)).1.2.2.2.2.2.1), .int .i64 ((nth wl ((x.1).toNat)).1.2.2.2.2.2.2)]) Try.underlying60 rfl rfl (fun _ => (RowIs.in_ sW ((x.1).toNat) 0 7 (by omega) (by omega))) sz60) ?_
  refine SL.alloc rfl rfl zero60 (fun b3 hb3 => ?_)
  refine SL.norm [_, _, _] rfl ?_
  refine SL.store 2 rfl rfl rfl rfl sz60 rfl rfl ?_
  refine SL.norm [_, _, _] rfl ?_
  refine SL.nil_then ?_
  refine WC.seq ?_
  refine WC.region ?_
  refine SL.pure rfl rfl rfl (PureOp.loads (vs := [.slice aao an acap, .slice u3.ao u3.l.length u3.cap]) Try.underlying39 rfl rfl (fun _ => (RowIs.cells 0 0 2 rfl rfl)) sz39) ?_
  refine SL.pure rfl rfl rfl (PureOp.fieldAddrT 3 Try.underlying60 rfl sz9 rfl rfl) ?_
  refine SL.pure rfl rfl rfl (PureOp.load (v := .string ((nth wl ((x.1).toNat)).1.2.2.2.1)) Try.underlying9 rfl rfl (fun _ => (CellIs.cells 2 rfl rfl))) ?_
  refine SL.calle rfl rfl rfl rfl rfl rfl callable48 (fun w hw => find_ok u3 al aao an acap han w (sA.below hw.below) hab (nth wl (x.1).toNat).1.2.2.2.1) ?_
  refine SL.norm [_, _, _] rfl ?_
  refine SL.pure rfl rfl rfl (PureOp.move rfl) ?_
  refine SL.pure rfl rfl rfl (PureOp.extract rfl rfl) ?_
  refine SL.pure rfl rfl rfl (PureOp.extract rfl rfl) ?_
  refine SL.alloc rfl rfl zero88 (fun b4 hb4 => ?_)
  refine SL.norm [_, _, _, _] rfl ?_
  refine SL.store 3 rfl rfl rfl rfl sz88 rfl rfl ?_
  refine SL.norm [_, _, _, _] rfl ?_
  refine SL.pure rfl rfl rfl (PureOp.assign rfl) ?_
  refine SL.nil_then ?_
  refine WC.seq ?_
  refine WC.region ?_
  refine SL.pure rfl rfl rfl (PureOp.fieldAddrT 3 Try.underlying88 rfl sz86 rfl rfl) ?_
  refine SL.pure rfl rfl rfl (PureOp.loads (vs := [.int .i64 ((findE al (nth wl (x.1).toNat).1.2.2.2.1).1.2.2.2.1), .slice ((findE al (nth wl (x.1).toNat).1.2.2.2.1).1.2.2.2.2.ao) ((findE al (nth wl (x.1).toNat).1.2.2.2.1).1.2.2.2.2.l.length) ((findE al (nth wl (x.1).toNat).1.2.2.2.1).1.2.2.2.2.cap)]) Try.underlying86 rfl rfl (fun _ => (RowIs.cells 3 3 2 rfl rfl)) sz86) ?_
  refine SL.pure rfl rfl rfl (PureOp.fieldAddrT 5 Try.underlying60 rfl sz3 rfl rfl) ?_
  refine SL.pure rfl rfl rfl (PureOp.load (v := .int .i64 ((nth wl ((x.1).toNat)).1.2.2.2.2.2.1)) Try.underlying3 rfl rfl (fun _ => (CellIs.cells 2 rfl rfl))) ?_
  refine SL.calle rfl rfl rfl rfl rfl rfl callable50 (fun w hw => local_ok _ _ _ _ _ rfl (nth wl (x.1).toNat).1.2.2.2.2.2.1 w (depA_in (wl := wl) (fun a ha => (hsh a ha).below hw.below) (nth wl (x.1).toNat).1.2.2.2.1) (by have q := hdp (x.1).toNat (by omega); omega) (depA_of hof _ _)) ?_
  refine SL.norm [_, _, _, _] rfl ?_
  refine SL.callv rfl rfl rfl rfl rfl rfl callable49 (fun w hw => split_ok ((nth wl (x.1).toNat).1.2.2.2.2.2.1 + offE (nth wl (x.1).toNat).1.2.2.2.2.2.1 (findE al (nth wl (x.1).toNat).1.2.2.2.1).1.2.2.2.1 (findE al (nth wl (x.1).toNat).1.2.2.2.1).1.2.2.2.2.l) (by have q := hdp (x.1).toNat (by omega); have q2 := depA_of hof (nth wl (x.1).toNat).1.2.2.2.1 (nth wl (x.1).toNat).1.2.2.2.2.2.1; omega) w) ?_
  rintro v ⟨mm, rfl⟩
  refine SL.norm [_, _, _, _] rfl ?_
  refine SL.pure rfl rfl rfl (PureOp.move rfl) ?_
  refine SL.pure rfl rfl rfl (PureOp.extract rfl rfl) ?_
  refine SL.pure rfl rfl rfl (PureOp.extract rfl rfl) ?_
  refine SL.pure rfl rfl rfl (PureOp.assign rfl) ?_
  refine SL.pure rfl rfl rfl (PureOp.assign rfl) ?_
  refine SL.nil_then ?_
  refine WC.seq ?_
  refine WC.region ?_
  refine SL.pure rfl rfl rfl (PureOp.move rfl) ?_
  refine SL.pure rfl rfl rfl (PureOp.move rfl) ?_
  refine SL.pure rfl rfl rfl (PureOp.assign rfl) ?_
  refine SL.pure rfl rfl rfl (PureOp.assign rfl) ?_
  refine SL.nil_then ?_
  refine WC.ret ?_
  refine QX.ret2 rfl rfl rfl ?_
  intro w hw
  rfl

set_option maxHeartbeats 4000000 in
set_option maxRecDepth 100000 in
theorem stay_ok (r : Ru) (o b : Int) (w0 : World) : FnC Try.prog 31 [.agg #[.int .i64 r.1, .int .i64 r.2.1.1, .slice r.2.1.2.1.ao r.2.1.2.1.l.length r.2.1.2.1.cap, .int .i64 r.2.1.2.2.1, .int .i64 r.2.1.2.2.2.1, .int .i64 r.2.1.2.2.2.2.1.1, .int .i64 r.2.1.2.2.2.2.1.2.1, .int .i64 r.2.1.2.2.2.2.1.2.2, .slice r.2.1.2.2.2.2.2.ao r.2.1.2.2.2.2.2.l.length r.2.1.2.2.2.2.2.cap, .slice r.2.2.1.ao r.2.2.1.l.length r.2.2.1.cap, .int .i64 r.2.2.2.1, .int .i64 r.2.2.2.2.1, .int .i64 r.2.2.2.2.2.1, .int .i64 r.2.2.2.2.2.2.1, .slice r.2.2.2.2.2.2.2.ao r.2.2.2.2.2.2.2.l.length r.2.2.2.2.2.2.2.cap], .int .i64 o, .int .i64 b] w0 fun v w' => v = .int .i64 (stayE r o b) := by
  refine fnc (N := 40) Try.func31 rfl rfl rfl ?_
  refine WC.seq ?_
  refine WC.region ?_
  refine SL.box rfl rfl rfl (fun b1 hb1 => ?_)
  refine SL.norm [_] rfl ?_
  refine SL.pure rfl rfl rfl (PureOp.assign rfl) ?_
  refine SL.nil_then ?_
  refine WC.seq ?_
  refine WC.seq ?_
  refine WC.region ?_
  refine SL.pure rfl rfl rfl (PureOp.move rfl) ?_
  refine SL.pure rfl rfl rfl (PureOp.lss rfl rfl) ?_
  refine SL.pure rfl rfl rfl (PureOp.move rfl) ?_
  refine SL.newg 10 false rfl ?_
  refine SL.gpure (c := 1) rfl rfl rfl rfl rfl rfl rfl (PureOp.move rfl) ?_
  refine SL.gpure (c := 1) rfl rfl rfl rfl rfl rfl rfl (PureOp.geq rfl rfl) ?_
  refine SL.pure rfl rfl rfl (PureOp.or_ rfl rfl rfl rfl) ?_
  refine SL.pure rfl rfl rfl (PureOp.move rfl) ?_
  refine SL.newg 14 false rfl ?_
  refine SL.gpure (c := 2) rfl rfl rfl rfl rfl rfl rfl (PureOp.move rfl) ?_
  refine SL.gpure (c := 2) rfl rfl rfl rfl rfl rfl rfl (PureOp.lss rfl rfl) ?_
  refine SL.pure rfl rfl rfl (PureOp.or_ rfl rfl rfl rfl) ?_
  refine SL.pure rfl rfl rfl (PureOp.move rfl) ?_
  refine SL.newg 18 false rfl ?_
  refine SL.gpure (c := 3) rfl rfl rfl rfl rfl rfl rfl (PureOp.move rfl) ?_
  refine SL.gpure (c := 3) rfl rfl rfl rfl rfl rfl rfl (PureOp.geq rfl rfl) ?_
  refine SL.pure rfl rfl rfl (PureOp.or_ rfl rfl rfl rfl) ?_
  refine SL.nil_then ?_
  refine WC.cond rfl (fun h1 => ?_) (fun h1 => ?_)
  · try simp only [Bool.and_eq_true, Bool.or_eq_true, Bool.not_eq_true', Bool.not_eq_false', Bool.and_eq_false_iff, Bool.or_eq_false_iff, decide_eq_true_eq, decide_eq_false_iff_not, Int.not_lt, Int.not_le, ne_eq, Decidable.not_not] at h1
    refine WC.seq ?_
    refine WC.region ?_
    refine SL.pure rfl rfl rfl (PureOp.assign rfl) ?_
    refine SL.nil_then ?_
    refine WC.ret ?_
    refine QX.ret_then ?_
    refine QX.ret1 rfl rfl ?_
    intro w hw
    rw [stayE, if_pos (by omega)]
  · try simp only [Bool.and_eq_true, Bool.or_eq_true, Bool.not_eq_true', Bool.not_eq_false', Bool.and_eq_false_iff, Bool.or_eq_false_iff, decide_eq_true_eq, decide_eq_false_iff_not, Int.not_lt, Int.not_le, ne_eq, Decidable.not_not] at h1
    refine WC.skip ?_
    refine QX.then_ ?_
    refine WC.seq ?_
    refine WC.seq ?_
    refine WC.region ?_
    refine SL.pure rfl rfl rfl (PureOp.move rfl) ?_
    refine SL.pure rfl rfl rfl (PureOp.move rfl) ?_
    refine SL.pure rfl rfl rfl (PureOp.sub rfl rfl (fun _ => by omega)) ?_
    refine SL.pure rfl rfl rfl (PureOp.assign rfl) ?_
    refine SL.nil_then ?_
    refine WC.seq ?_
    refine WC.region ?_
    refine SL.pure rfl rfl rfl (PureOp.move rfl) ?_
    refine SL.pure rfl rfl rfl (PureOp.fieldAddrT 10 Try.underlying76 rfl sz3 rfl rfl) ?_
    refine SL.pure rfl rfl rfl (PureOp.load (v := .int .i64 r.2.2.2.1) Try.underlying3 rfl rfl (fun _ => (CellIs.cells 0 rfl rfl))) ?_
    refine SL.pure rfl rfl rfl (PureOp.lss rfl rfl) ?_
    refine SL.pure rfl rfl rfl (PureOp.move rfl) ?_
    refine SL.newg 29 false rfl ?_
    refine SL.gpure (c := 4) rfl rfl rfl rfl rfl rfl rfl (PureOp.fieldAddrT 11 Try.underlying76 rfl sz3 rfl rfl) ?_
    refine SL.gpure (c := 4) rfl rfl rfl rfl rfl rfl rfl (PureOp.load (v := .int .i64 r.2.2.2.2.1) Try.underlying3 rfl rfl (fun _ => (CellIs.cells 0 rfl rfl))) ?_
    refine SL.gpure (c := 4) rfl rfl rfl rfl rfl rfl rfl (PureOp.gtr rfl rfl) ?_
    refine SL.gpure (c := 4) rfl rfl rfl rfl rfl rfl rfl (PureOp.move rfl) ?_
    refine SL.newg 33 true rfl ?_
    refine SL.gpure (c := 5) rfl rfl rfl rfl rfl rfl rfl (PureOp.move rfl) ?_
    refine SL.gpure (c := 5) rfl rfl rfl rfl rfl rfl rfl (PureOp.fieldAddrT 11 Try.underlying76 rfl sz3 rfl rfl) ?_
    refine SL.gpure (c := 5) rfl rfl rfl rfl rfl rfl rfl (PureOp.load (v := .int .i64 r.2.2.2.2.1) Try.underlying3 rfl rfl (fun _ => (CellIs.cells 0 rfl rfl))) ?_
    refine SL.gpure (c := 5) rfl rfl rfl rfl rfl rfl rfl (PureOp.gtr rfl rfl) ?_
    refine SL.gpure (c := 4) rfl rfl rfl rfl rfl rfl rfl (PureOp.and_ rfl rfl rfl rfl) ?_
    refine SL.pure rfl rfl rfl (PureOp.or_ rfl rfl rfl rfl) ?_
    refine SL.nil_then ?_
    refine WC.cond rfl (fun h2 => ?_) (fun h2 => ?_)
    · try simp only [Bool.and_eq_true, Bool.or_eq_true, Bool.not_eq_true', Bool.not_eq_false', Bool.and_eq_false_iff, Bool.or_eq_false_iff, decide_eq_true_eq, decide_eq_false_iff_not, Int.not_lt, Int.not_le, ne_eq, Decidable.not_not] at h2
      refine WC.seq ?_
      refine WC.region ?_
      refine SL.pure rfl rfl rfl (PureOp.assign rfl) ?_
      refine SL.nil_then ?_
      refine WC.ret ?_
      refine QX.ret_then ?_
      refine QX.ret1 rfl rfl ?_
      intro w hw
      rw [stayE, if_neg (by omega), if_pos (by omega)]
    · try simp only [Bool.and_eq_true, Bool.or_eq_true, Bool.not_eq_true', Bool.not_eq_false', Bool.and_eq_false_iff, Bool.or_eq_false_iff, decide_eq_true_eq, decide_eq_false_iff_not, Int.not_lt, Int.not_le, ne_eq, Decidable.not_not] at h2
      refine WC.skip ?_
      refine QX.then_ ?_
      refine WC.seq ?_
      refine WC.region ?_
      refine SL.pure rfl rfl rfl (PureOp.assign rfl) ?_
      refine SL.nil_then ?_
      refine WC.ret ?_
      refine QX.ret1 rfl rfl ?_
      intro w hw
      rw [stayE, if_neg (by omega), if_neg (by omega)]

set_option maxHeartbeats 4000000 in
set_option maxRecDepth 100000 in
theorem covers_ok (pl : List Pt) (pao : Option Addr) (pn pcap : Nat) (hpn : pn = pl.length) (w0 : World) (hp : SliceIn w0 4 pao pn pcap (rowsF enc42 pl)) (hpb : pn ≤ 1000) (n : Int) : FnC Try.prog 33 [.slice pao pn pcap, .int .i64 n] w0 fun v w' => v = .bool (covB n pl) := by
  refine fnc (N := 36) Try.func33 rfl rfl rfl ?_
  refine WC.seq ?_
  refine WC.region ?_
  refine SL.pure rfl rfl rfl (PureOp.assign rfl) ?_
  refine SL.nil_then ?_
  refine WC.seq ?_
  refine WC.region ?_
  refine SL.pure rfl rfl rfl (PureOp.assign rfl) ?_
  refine SL.nil_then ?_
  refine WC.seq ?_
  refine WC.seq ?_
  refine WC.region ?_
  refine SL.pure rfl rfl rfl (PureOp.move rfl) ?_
  refine SL.pure rfl rfl rfl (PureOp.len rfl Try.underlying28) ?_
  refine SL.pure rfl rfl rfl (PureOp.move rfl) ?_
  refine SL.nil_then ?_
  refine WC.block ?_
  refine WC.loop (σ := Nat × Int) (fun q_ => [(0, 0, .slice pao pn pcap), (1, 0, .int .i64 n), (8, 0, .slice pao pn pcap), (9, 0, .int .i64 ((pn : Nat) : Int)), (10, 0, .int .i64 ((q_.1 : Nat) : Int)), (5, 0, .int .i64 q_.2)]) (fun q_ => []) (fun q_ => q_.1 ≤ pn ∧ covE pl q_.1 = some q_.2) (fun q_ => pn - q_.1) 0 ((0, 0)) (⟨Nat.zero_le _, rfl⟩) ⟨rfl, rfl, rfl, rfl, rfl, rfl, rfl, rfl, rfl, rfl, rfl, rfl, trivial⟩ rfl ?_
  rintro ⟨k, a⟩ ⟨hk, hs⟩
  try dsimp only at *
  refine WC.seq ?_
  refine WC.region ?_
  refine SL.pure rfl rfl rfl (PureOp.lss rfl rfl) ?_
  refine SL.nil_then ?_
  refine WC.seq ?_
  refine WC.cond rfl (fun h1 => ?_) (fun h1 => ?_)
  · try simp only [Bool.and_eq_true, Bool.or_eq_true, Bool.not_eq_true', Bool.not_eq_false', Bool.and_eq_false_iff, Bool.or_eq_false_iff, decide_eq_true_eq, decide_eq_false_iff_not, Int.not_lt, Int.not_le, ne_eq, Decidable.not_not] at h1
    refine WC.skip ?_
    refine QX.then_ ?_
    refine WC.seq ?_
    refine WC.block ?_
    refine WC.seq ?_
    refine WC.region ?_
    refine SL.pure rfl rfl rfl (PureOp.indexAddrN Try.underlying28 sz42 rfl rfl (AoOk.in_ hp) (fun _ => by omega)) ?_
    refine SL.pure rfl rfl rfl (PureOp.loads (vs := [.int .i64 ((nth pl k).1), .int .i64 ((nth pl k).2.1), .int .i64 ((nth pl k).2.2.1), .int .i64 ((nth pl k).2.2.2)]) Try.underlying42 rfl rfl (fun _ => (RowIs.in_ hp k 0 4 (by omega) (by omega))) sz42) ?_
    refine SL.alloc rfl rfl zero42 (fun b1 hb1 => ?_)
    refine SL.norm [_] rfl ?_
    refine SL.store 0 rfl rfl rfl rfl sz42 rfl rfl ?_
    refine SL.norm [_] rfl ?_
    refine SL.nil_then ?_
    refine WC.seq ?_
    refine WC.seq ?_
    refine WC.region ?_
    refine SL.pure rfl rfl rfl (PureOp.fieldAddrT 0 Try.underlying42 rfl sz3 rfl rfl) ?_
    refine SL.pure rfl rfl rfl (PureOp.load (v := .int .i64 ((nth pl k).1)) Try.underlying3 rfl rfl (fun _ => (CellIs.cells 0 rfl rfl))) ?_
    refine SL.pure rfl rfl rfl (PureOp.move rfl) ?_
    refine SL.pure rfl rfl rfl (PureOp.neq rfl rfl) ?_
    refine SL.pure rfl rfl rfl (PureOp.move rfl) ?_
    refine SL.newg 18 false rfl ?_
    refine SL.gpure (c := 1) rfl rfl rfl rfl rfl rfl rfl (PureOp.fieldAddrT 1 Try.underlying42 rfl sz3 rfl rfl) ?_
    refine SL.gpure (c := 1) rfl rfl rfl rfl rfl rfl rfl (PureOp.load (v := .int .i64 ((nth pl k).2.1)) Try.underlying3 rfl rfl (fun _ => (CellIs.cells 0 rfl rfl))) ?_
    refine SL.gpure (c := 1) rfl rfl rfl rfl rfl rfl rfl (PureOp.fieldAddrT 0 Try.underlying42 rfl sz3 rfl rfl) ?_
    refine SL.gpure (c := 1) rfl rfl rfl rfl rfl rfl rfl (PureOp.load (v := .int .i64 ((nth pl k).1)) Try.underlying3 rfl rfl (fun _ => (CellIs.cells 0 rfl rfl))) ?_
    refine SL.gpure (c := 1) rfl rfl rfl rfl rfl rfl rfl (PureOp.leq rfl rfl) ?_
    refine SL.pure rfl rfl rfl (PureOp.or_ rfl rfl rfl rfl) ?_
    refine SL.nil_then ?_
    refine WC.cond rfl (fun h2 => ?_) (fun h2 => ?_)
    · try simp only [Bool.and_eq_true, Bool.or_eq_true, Bool.not_eq_true', Bool.not_eq_false', Bool.and_eq_false_iff, Bool.or_eq_false_iff, decide_eq_true_eq, decide_eq_false_iff_not, Int.not_lt, Int.not_le, ne_eq, Decidable.not_not] at h2
      refine WC.seq ?_
      refine WC.region ?_
      refine SL.pure rfl rfl rfl (PureOp.assign rfl) ?_
      refine SL.nil_then ?_
      refine WC.ret ?_
      refine QX.ret_then ?_
      refine QX.ret_in ?_
      refine QX.ret_then ?_
      refine QX.ret_then ?_
      refine QX.ret_in ?_
      refine QX.ret_then ?_
      refine QX.ret1 rfl rfl ?_
      intro w hw
      rw [covB_bad hs (by omega) (by omega)]
    · try simp only [Bool.and_eq_true, Bool.or_eq_true, Bool.not_eq_true', Bool.not_eq_false', Bool.and_eq_false_iff, Bool.or_eq_false_iff, decide_eq_true_eq, decide_eq_false_iff_not, Int.not_lt, Int.not_le, ne_eq, Decidable.not_not] at h2
      refine WC.skip ?_
      refine QX.then_ ?_
      refine WC.region ?_
      refine SL.pure rfl rfl rfl (PureOp.fieldAddrT 1 Try.underlying42 rfl sz3 rfl rfl) ?_
      refine SL.pure rfl rfl rfl (PureOp.load (v := .int .i64 ((nth pl k).2.1)) Try.underlying3 rfl rfl (fun _ => (CellIs.cells 0 rfl rfl))) ?_
      refine SL.pure rfl rfl rfl (PureOp.assign rfl) ?_
      refine SL.nil ?_
      refine QX.normal_in ?_
      refine QX.then_ ?_
      refine WC.region ?_
      refine SL.pure rfl rfl rfl (PureOp.addN (k := 1) rfl rfl (fun _ => by omega)) ?_
      refine SL.pure rfl rfl rfl (PureOp.move rfl) ?_
      refine SL.nil ?_
      refine QX.round (σ := Nat × Int) (Ef := fun q_ => [(0, 0, .slice pao pn pcap), (1, 0, .int .i64 n), (8, 0, .slice pao pn pcap), (9, 0, .int .i64 ((pn : Nat) : Int)), (10, 0, .int .i64 ((q_.1 : Nat) : Int)), (5, 0, .int .i64 q_.2)]) (Hf := fun q_ => []) (I := fun q_ => q_.1 ≤ pn ∧ covE pl q_.1 = some q_.2) (μ := fun q_ => pn - q_.1) (s := (k, a)) 0 ((k + 1, (nth pl k).2.1)) ⟨⟨(by first | omega | (dsimp only; omega)), covE_next hs (by omega)⟩, by first | omega | (dsimp only; omega)⟩ ⟨rfl, rfl, rfl, rfl, rfl, rfl, rfl, rfl, rfl, rfl, rfl, rfl, trivial⟩ rfl
  · try simp only [Bool.and_eq_true, Bool.or_eq_true, Bool.not_eq_true', Bool.not_eq_false', Bool.and_eq_false_iff, Bool.or_eq_false_iff, decide_eq_true_eq, decide_eq_false_iff_not, Int.not_lt, Int.not_le, ne_eq, Decidable.not_not] at h1
    refine WC.exit ?_
    refine QX.exit_then ?_
    refine QX.exit_then ?_
    refine QX.exit_hit ?_
    refine QX.then_ ?_
    refine WC.seq ?_
    refine WC.region ?_
    refine SL.pure rfl rfl rfl (PureOp.move rfl) ?_
    refine SL.pure rfl rfl rfl (PureOp.len rfl Try.underlying28) ?_
    refine SL.pure rfl rfl rfl (PureOp.gtr rfl rfl) ?_
    refine SL.pure rfl rfl rfl (PureOp.move rfl) ?_
    refine SL.newg 31 true rfl ?_
    refine SL.gpure (c := 1) rfl rfl rfl rfl rfl rfl rfl (PureOp.move rfl) ?_
    refine SL.gpure (c := 1) rfl rfl rfl rfl rfl rfl rfl (PureOp.move rfl) ?_
    refine SL.gpure (c := 1) rfl rfl rfl rfl rfl rfl rfl (PureOp.eql rfl rfl) ?_
    refine SL.pure rfl rfl rfl (PureOp.and_ rfl rfl rfl rfl) ?_
    refine SL.pure rfl rfl rfl (PureOp.assign rfl) ?_
    refine SL.nil_then ?_
    refine WC.ret ?_
    refine QX.ret1 rfl rfl ?_
    intro w hw
    rw [show k = pl.length from by omega] at hs
    rw [covB_all hs, hpn]

end Go.Proofs.Ytblmafknmeicfaa
