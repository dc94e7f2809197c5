import Derived.Test.YtblmafknmeicfaaMtE
namespace Go.Proofs.Ytblmafknmeicfaa
open Go Go.RowKit Eng
set_option linter.unusedVariables false
set_option linter.unusedSimpArgs false

set_option maxHeartbeats 4000000 in
set_option maxRecDepth 100000 in
theorem offset05_ok (n : Int) (w0 : World) : FnC Try.prog 74 [.int .i64 n] w0 fun v w' => v = .bool (ofB n) := by
  refine fnc (N := 9) Try.func74 rfl rfl rfl ?_
  refine WC.seq ?_
  refine WC.region ?_
  refine SL.pure rfl rfl rfl (PureOp.assign rfl) ?_
  refine SL.nil_then ?_
  refine WC.seq ?_
  refine WC.region ?_
  refine SL.pure rfl rfl rfl (PureOp.move rfl) ?_
  refine SL.pure rfl rfl rfl (PureOp.geq rfl rfl) ?_
  refine SL.pure rfl rfl rfl (PureOp.move rfl) ?_
  refine SL.newg 5 true rfl ?_
  refine SL.gpure (c := 1) rfl rfl rfl rfl rfl rfl rfl (PureOp.move rfl) ?_
  refine SL.gpure (c := 1) rfl rfl rfl rfl rfl rfl rfl (PureOp.leq rfl rfl) ?_
  refine SL.pure rfl rfl rfl (PureOp.and_ rfl rfl rfl rfl) ?_
  refine SL.pure rfl rfl rfl (PureOp.assign rfl) ?_
  refine SL.nil_then ?_
  refine WC.ret ?_
  refine QX.ret1 rfl rfl ?_
  intro w hw
  rfl

set_option maxHeartbeats 4000000 in
set_option maxRecDepth 100000 in
theorem zone_any (o : Int) (zl : List Sh) (zao : Option Addr) (zn zcap : Nat) (hzn : zn = zl.length) (w0 : World) (sZ : SliceIn w0 2 zao zn zcap (rowsF enc133 zl)) : FnC Try.prog 55 [.agg #[.int .i64 o, .slice zao zn zcap]] w0 fun v w' => ∃ e, v = .int .i64 e ∧ (e = 0 → ZnOk o zl zn) := by
  have hzm : (zn : Int) ≤ 9223372036854775807 := by
    have q1 := sZ.le; have q2 := sZ.max; simp only [maxLen] at q2; omega
  refine fnc (N := 54) Try.func55 rfl rfl rfl ?_
  refine WC.seq ?_
  refine WC.region ?_
  refine SL.box rfl rfl rfl (fun b1 hb1 => ?_)
  refine SL.norm [_] rfl ?_
  refine SL.pure rfl rfl rfl (PureOp.assign rfl) ?_
  refine SL.nil_then ?_
  refine WC.seq ?_
  refine WC.seq ?_
  refine WC.region ?_
  refine SL.pure rfl rfl rfl (PureOp.fieldAddrT 1 Try.underlying86 rfl sz84 rfl rfl) ?_
  refine SL.pure rfl rfl rfl (PureOp.load (v := .slice zao zn zcap) Try.underlying84 rfl rfl (fun _ => (CellIs.cells 0 rfl rfl))) ?_
  refine SL.pure rfl rfl rfl (PureOp.len rfl Try.underlying84) ?_
  refine SL.pure rfl rfl rfl (PureOp.gtr rfl rfl) ?_
  refine SL.nil_then ?_
  refine WC.cond rfl (fun h1 => ?_) (fun h1 => ?_)
  · try simp only [Bool.and_eq_true, Bool.or_eq_true, Bool.not_eq_true', Bool.not_eq_false', Bool.and_eq_false_iff, Bool.or_eq_false_iff, decide_eq_true_eq, decide_eq_false_iff_not, Int.not_lt, Int.not_le, ne_eq, Decidable.not_not] at h1
    refine WC.seq ?_
    refine WC.region ?_
    refine SL.pure rfl rfl rfl (PureOp.assign rfl) ?_
    refine SL.nil_then ?_
    refine WC.ret ?_
    refine QX.ret_then ?_
    refine QX.ret1 rfl rfl ?_
    intro w hw
    exact ⟨_, rfl, fun q => absurd q (by decide)⟩
  · try simp only [Bool.and_eq_true, Bool.or_eq_true, Bool.not_eq_true', Bool.not_eq_false', Bool.and_eq_false_iff, Bool.or_eq_false_iff, decide_eq_true_eq, decide_eq_false_iff_not, Int.not_lt, Int.not_le, ne_eq, Decidable.not_not] at h1
    refine WC.skip ?_
    refine QX.then_ ?_
    refine WC.seq ?_
    refine WC.seq ?_
    refine WC.region ?_
    refine SL.pure rfl rfl rfl (PureOp.fieldAddrT 0 Try.underlying86 rfl sz3 rfl rfl) ?_
    refine SL.pure rfl rfl rfl (PureOp.load (v := .int .i64 o) Try.underlying3 rfl rfl (fun _ => (CellIs.cells 0 rfl rfl))) ?_
    refine SL.calle rfl rfl rfl rfl rfl rfl callable74 (fun w hw => offset05_ok o w) ?_
    refine SL.norm [_] rfl ?_
    refine SL.pure rfl rfl rfl (PureOp.not rfl) ?_
    refine SL.nil_then ?_
    refine WC.cond rfl (fun h2 => ?_) (fun h2 => ?_)
    · try simp only [Bool.and_eq_true, Bool.or_eq_true, Bool.not_eq_true', Bool.not_eq_false', Bool.and_eq_false_iff, Bool.or_eq_false_iff, decide_eq_true_eq, decide_eq_false_iff_not, Int.not_lt, Int.not_le, ne_eq, Decidable.not_not] at h2
      refine WC.seq ?_
      refine WC.region ?_
      refine SL.pure rfl rfl rfl (PureOp.assign rfl) ?_
      refine SL.nil_then ?_
      refine WC.ret ?_
      refine QX.ret_then ?_
      refine QX.ret1 rfl rfl ?_
      intro w hw
      exact ⟨_, rfl, fun q => absurd q (by decide)⟩
    · try simp only [Bool.and_eq_true, Bool.or_eq_true, Bool.not_eq_true', Bool.not_eq_false', Bool.and_eq_false_iff, Bool.or_eq_false_iff, decide_eq_true_eq, decide_eq_false_iff_not, Int.not_lt, Int.not_le, ne_eq, Decidable.not_not] at h2
      refine WC.skip ?_
      refine QX.then_ ?_
      refine WC.seq ?_
      refine WC.seq ?_
      refine WC.region ?_
      refine SL.pure rfl rfl rfl (PureOp.assign rfl) ?_
      refine SL.nil_then ?_
      refine WC.block ?_
      refine WC.loop (σ := Nat) (fun q_ => [(0, 0, .agg #[.int .i64 o, .slice zao zn zcap]), (1, 0, .pointer (some ⟨b1, 0, none⟩)), (5, 0, .pointer (some ⟨b1, 1, none⟩)), (6, 0, .slice zao zn zcap), (7, 0, .int .i64 ((zn : Nat) : Int)), (8, 0, .bool (decide (256 < ((zn : Nat) : Int)))), (9, 0, .pointer (some ⟨b1, 0, none⟩)), (10, 0, .int .i64 o), (11, 0, .bool (ofB o)), (12, 0, .bool (!(ofB o))), (3, 0, .int .i64 ((q_ : Nat) : Int))]) (fun q_ => [Item.cells b1 [.int .i64 o, .slice zao zn zcap] 86]) (fun q_ => q_ ≤ zn ∧ ZnOk o zl q_) (fun q_ => zn - q_) 1 (0) (⟨Nat.zero_le _, ⟨ofB_iff.1 (by simpa using h2), fun i hi => absurd hi (Nat.not_lt_zero _), fun i hi => absurd hi (Nat.not_lt_zero _), fun i hi => absurd hi (Nat.not_lt_zero _)⟩⟩) ⟨rfl, rfl, rfl, rfl, rfl, rfl, rfl, rfl, rfl, rfl, rfl, rfl, rfl, rfl, rfl, rfl, rfl, rfl, rfl, rfl, rfl, rfl, trivial⟩ rfl ?_
      rintro k ⟨hk, hs⟩
      have hpe : 0 < k → ((k : Int) - 1).toNat = k - 1 := fun q => by omega
      have hp : 0 < k → 0 ≤ (nth zl ((k : Int) - 1).toNat).1 ∧ (nth zl ((k : Int) - 1).toNat).1 < 52596000 := fun q => by rw [hpe q]; exact hs.at_ (k - 1) (by omega)
      refine WC.seq ?_
      refine WC.seq ?_
      refine WC.region ?_
      refine SL.pure rfl rfl rfl (PureOp.move rfl) ?_
      refine SL.pure rfl rfl rfl (PureOp.fieldAddrT 1 Try.underlying86 rfl sz84 rfl rfl) ?_
      refine SL.pure rfl rfl rfl (PureOp.load (v := .slice zao zn zcap) Try.underlying84 rfl rfl (fun _ => (CellIs.cells 0 rfl rfl))) ?_
      refine SL.pure rfl rfl rfl (PureOp.len rfl Try.underlying84) ?_
      refine SL.pure rfl rfl rfl (PureOp.lss rfl rfl) ?_
      refine SL.nil_then ?_
      refine WC.cond rfl (fun h3 => ?_) (fun h3 => ?_)
      · try simp only [Bool.and_eq_true, Bool.or_eq_true, Bool.not_eq_true', Bool.not_eq_false', Bool.and_eq_false_iff, Bool.or_eq_false_iff, decide_eq_true_eq, decide_eq_false_iff_not, Int.not_lt, Int.not_le, ne_eq, Decidable.not_not] at h3
        refine WC.skip ?_
        refine QX.then_ ?_
        refine WC.seq ?_
        refine WC.block ?_
        refine WC.seq ?_
        refine WC.region ?_
        refine SL.pure rfl rfl rfl (PureOp.fieldAddrT 1 Try.underlying86 rfl sz84 rfl rfl) ?_
        refine SL.pure rfl rfl rfl (PureOp.load (v := .slice zao zn zcap) Try.underlying84 rfl rfl (fun _ => (CellIs.cells 0 rfl rfl))) ?_
        refine SL.pure rfl rfl rfl (PureOp.move rfl) ?_
        refine SL.pure rfl rfl rfl (PureOp.indexAddrN Try.underlying84 sz133 rfl rfl (AoOk.in_ sZ) (fun _ => by omega)) ?_
        refine SL.pure rfl rfl rfl (PureOp.loads (vs := [.int .i64 ((nth zl k).1), .int .i64 ((nth zl k).2)]) Try.underlying133 rfl rfl (fun _ => (RowIs.in_ sZ k 0 2 (by omega) (by omega))) sz133) ?_
        refine SL.alloc rfl rfl zero133 (fun b2 hb2 => ?_)
        refine SL.norm [_, _] rfl ?_
        refine SL.store 1 rfl rfl rfl rfl sz133 rfl rfl ?_
        refine SL.norm [_, _] rfl ?_
        refine SL.nil_then ?_
        refine WC.seq ?_
        refine WC.seq ?_
        refine WC.quiet rfl (by kernel_rfl) ?_
        refine SQ.pure rfl rfl rfl (PureOp.fieldAddrT 0 Try.underlying133 rfl sz3 rfl rfl) ?_
        refine SQ.pure rfl rfl rfl (PureOp.load (v := .int .i64 ((nth zl k).1)) Try.underlying3 rfl rfl (fun _ => (CellIs.cells 1 rfl rfl))) ?_
        refine SQ.pure rfl rfl rfl (PureOp.lss rfl rfl) ?_
        refine SQ.pure rfl rfl rfl (PureOp.move rfl) ?_
        refine SQ.newg 28 false rfl ?_
        refine SQ.gpure (c := 1) rfl rfl rfl rfl rfl rfl rfl (PureOp.fieldAddrT 0 Try.underlying133 rfl sz3 rfl rfl) ?_
        refine SQ.gpure (c := 1) rfl rfl rfl rfl rfl rfl rfl (PureOp.load (v := .int .i64 ((nth zl k).1)) Try.underlying3 rfl rfl (fun _ => (CellIs.cells 1 rfl rfl))) ?_
        refine SQ.gpure (c := 1) rfl rfl rfl rfl rfl rfl rfl (PureOp.geq rfl rfl) ?_
        refine SQ.pure rfl rfl rfl (PureOp.or_ rfl rfl rfl rfl) ?_
        refine SQ.pure rfl rfl rfl (PureOp.move rfl) ?_
        refine SQ.newg 33 false rfl ?_
        refine SQ.gpure (c := 2) rfl rfl rfl rfl rfl rfl rfl (PureOp.move rfl) ?_
        refine SQ.gpure (c := 2) rfl rfl rfl rfl rfl rfl rfl (PureOp.gtr rfl rfl) ?_
        refine SQ.gpure (c := 2) rfl rfl rfl rfl rfl rfl rfl (PureOp.move rfl) ?_
        refine SQ.newg 36 true rfl ?_
        refine SQ.gpure (c := 3) rfl rfl rfl rfl rfl rfl rfl (PureOp.fieldAddrT 0 Try.underlying133 rfl sz3 rfl rfl) ?_
        refine SQ.gpure (c := 3) rfl rfl rfl rfl rfl rfl rfl (PureOp.load (v := .int .i64 ((nth zl k).1)) Try.underlying3 rfl rfl (fun _ => (CellIs.cells 1 rfl rfl))) ?_
        refine SQ.gpure (c := 3) rfl rfl rfl rfl rfl rfl rfl (PureOp.fieldAddrT 1 Try.underlying86 rfl sz84 rfl rfl) ?_
        refine SQ.gpure (c := 3) rfl rfl rfl rfl rfl rfl rfl (PureOp.load (v := .slice zao zn zcap) Try.underlying84 rfl rfl (fun _ => (CellIs.cells 0 rfl rfl))) ?_
        refine SQ.gpure (c := 3) rfl rfl rfl rfl rfl rfl rfl (PureOp.move rfl) ?_
        refine SQ.gpure (c := 3) rfl rfl rfl rfl rfl rfl rfl (PureOp.sub rfl rfl (by intro hg; simp [gval] at hg; omega)) ?_
        refine SQ.gpure (c := 3) rfl rfl rfl rfl rfl rfl rfl (PureOp.indexAddr Try.underlying84 sz133 rfl rfl (AoOk.in_ sZ) (by intro hg; simp [gval] at hg; omega)) ?_
        refine SQ.gpure (c := 3) rfl rfl rfl rfl rfl rfl rfl (PureOp.fieldAddr 0 Try.underlying133 rfl rfl sz3 rfl) ?_
        refine SQ.gpure (c := 3) rfl rfl rfl rfl rfl rfl rfl (PureOp.load (v := .int .i64 ((nth zl ((((k : Nat) : Int) - 1).toNat)).1)) Try.underlying3 rfl rfl (by intro hg; simp [gval] at hg; exact (CellIs.in_ sZ ((((k : Nat) : Int) - 1).toNat) 0 (by omega) (by omega)))) ?_
        refine SQ.gpure (c := 3) rfl rfl rfl rfl rfl rfl rfl (PureOp.sub rfl rfl (by intro hg; simp [gval] at hg; omega)) ?_
        refine SQ.gpure (c := 3) rfl rfl rfl rfl rfl rfl rfl (PureOp.lss rfl rfl) ?_
        refine SQ.gpure (c := 2) rfl rfl rfl rfl rfl rfl rfl (PureOp.and_ rfl rfl rfl rfl) ?_
        refine SQ.pure rfl rfl rfl (PureOp.or_ rfl rfl rfl rfl) ?_
        refine SQ.nil_then ?_
        refine WC.cond rfl (fun h4 => ?_) (fun h4 => ?_)
        · try simp only [Bool.and_eq_true, Bool.or_eq_true, Bool.not_eq_true', Bool.not_eq_false', Bool.and_eq_false_iff, Bool.or_eq_false_iff, decide_eq_true_eq, decide_eq_false_iff_not, Int.not_lt, Int.not_le, ne_eq, Decidable.not_not] at h4
          refine WC.seq ?_
          refine WC.region ?_
          refine SL.pure rfl rfl rfl (PureOp.assign rfl) ?_
          refine SL.nil_then ?_
          refine WC.ret ?_
          refine QX.ret_then ?_
          refine QX.ret_in ?_
          refine QX.ret_then ?_
          refine QX.ret_then ?_
          refine QX.ret_in ?_
          refine QX.ret_then ?_
          refine QX.ret1 rfl rfl ?_
          intro w hw
          exact ⟨_, rfl, fun q => absurd q (by decide)⟩
        · try simp only [Bool.and_eq_true, Bool.or_eq_true, Bool.not_eq_true', Bool.not_eq_false', Bool.and_eq_false_iff, Bool.or_eq_false_iff, decide_eq_true_eq, decide_eq_false_iff_not, Int.not_lt, Int.not_le, ne_eq, Decidable.not_not] at h4
          refine WC.skip ?_
          refine QX.then_ ?_
          refine WC.seq ?_
          refine WC.region ?_
          refine SL.pure rfl rfl rfl (PureOp.fieldAddrT 1 Try.underlying133 rfl sz3 rfl rfl) ?_
          refine SL.pure rfl rfl rfl (PureOp.load (v := .int .i64 ((nth zl k).2)) Try.underlying3 rfl rfl (fun _ => (CellIs.cells 1 rfl rfl))) ?_
          refine SL.calle rfl rfl rfl rfl rfl rfl callable74 (fun w hw => offset05_ok ((nth zl k).2) w) ?_
          refine SL.norm [_, _] rfl ?_
          refine SL.pure rfl rfl rfl (PureOp.not rfl) ?_
          refine SL.nil_then ?_
          refine WC.cond rfl (fun h5 => ?_) (fun h5 => ?_)
          · try simp only [Bool.and_eq_true, Bool.or_eq_true, Bool.not_eq_true', Bool.not_eq_false', Bool.and_eq_false_iff, Bool.or_eq_false_iff, decide_eq_true_eq, decide_eq_false_iff_not, Int.not_lt, Int.not_le, ne_eq, Decidable.not_not] at h5
            refine WC.seq ?_
            refine WC.region ?_
            refine SL.pure rfl rfl rfl (PureOp.assign rfl) ?_
            refine SL.nil_then ?_
            refine WC.ret ?_
            refine QX.ret_in ?_
            refine QX.ret_then ?_
            refine QX.ret_then ?_
            refine QX.ret_in ?_
            refine QX.ret_then ?_
            refine QX.ret1 rfl rfl ?_
            intro w hw
            exact ⟨_, rfl, fun q => absurd q (by decide)⟩
          · try simp only [Bool.and_eq_true, Bool.or_eq_true, Bool.not_eq_true', Bool.not_eq_false', Bool.and_eq_false_iff, Bool.or_eq_false_iff, decide_eq_true_eq, decide_eq_false_iff_not, Int.not_lt, Int.not_le, ne_eq, Decidable.not_not] at h5
            refine WC.skip ?_
            refine QX.normal_in ?_
            refine QX.then_ ?_
            refine WC.region ?_
            refine SL.pure rfl rfl rfl (PureOp.move rfl) ?_
            refine SL.pure rfl rfl rfl (PureOp.addN (k := 1) rfl rfl (fun _ => by omega)) ?_
            refine SL.pure rfl rfl rfl (PureOp.assign rfl) ?_
            refine SL.nil ?_
            refine QX.round 1 (k + 1) ⟨⟨(by first | omega | (dsimp only; omega)), hs.next (by omega) (ofB_iff.1 (by simpa using h5)) (fun q => by rw [← hpe q]; omega)⟩, by first | omega | (dsimp only; omega)⟩ ⟨rfl, rfl, rfl, rfl, rfl, rfl, rfl, rfl, rfl, rfl, rfl, rfl, rfl, rfl, rfl, rfl, rfl, rfl, rfl, rfl, rfl, rfl, trivial⟩ rfl
      · try simp only [Bool.and_eq_true, Bool.or_eq_true, Bool.not_eq_true', Bool.not_eq_false', Bool.and_eq_false_iff, Bool.or_eq_false_iff, decide_eq_true_eq, decide_eq_false_iff_not, Int.not_lt, Int.not_le, ne_eq, Decidable.not_not] at h3
        refine WC.exit ?_
        refine QX.exit_then ?_
        refine QX.exit_then ?_
        refine QX.exit_hit ?_
        refine QX.then_ ?_
        refine WC.seq ?_
        refine WC.region ?_
        refine SL.pure rfl rfl rfl (PureOp.assign rfl) ?_
        refine SL.nil_then ?_
        refine WC.ret ?_
        refine QX.ret1 rfl rfl ?_
        intro w hw
        exact ⟨_, rfl, fun _ => by rw [show zn = k from by omega]; exact hs⟩

set_option maxHeartbeats 4000000 in
set_option maxRecDepth 100000 in
theorem town_any (u3 : SliceV Unit) (al : List Ai) (aao : Option Addr) (an acap : Nat) (han : an = al.length) (w0 : World) (sA : SliceIn w0 5 aao an acap (rowsF enc88 al)) (hab : an ≤ 1000) (cd : ByteArray) : FnC Try.prog 57 [.agg #[.slice aao an acap, .slice u3.ao u3.l.length u3.cap], .string cd] w0 fun v w' => ∃ y b, v = .tuple #[.agg (enc88 y).toArray, .bool b] := by
  refine fnc (N := 28) Try.func57 rfl rfl rfl ?_
  refine WC.seq ?_
  refine WC.region ?_
  refine SL.box rfl rfl rfl (fun b1 hb1 => ?_)
  refine SL.norm [_] rfl ?_
  refine SL.alloc rfl rfl zero88 (fun b2 hb2 => ?_)
  refine SL.norm [_, _] rfl ?_
  refine SL.pure rfl rfl rfl (PureOp.assign rfl) ?_
  refine SL.nil_then ?_
  refine WC.seq ?_
  refine WC.seq ?_
  refine WC.region ?_
  refine SL.pure rfl rfl rfl (PureOp.assign rfl) ?_
  refine SL.nil_then ?_
  refine WC.block ?_
  refine WC.loop (σ := Nat) (fun q_ => [(0, 0, .agg #[.slice aao an acap, .slice u3.ao u3.l.length u3.cap]), (1, 0, .string cd), (2, 0, .pointer (some ⟨b1, 0, none⟩)), (4, 0, .pointer (some ⟨b2, 0, none⟩)), (6, 0, .int .i64 ((q_ : Nat) : Int))]) (fun q_ => [Item.cells b1 [.slice aao an acap, .slice u3.ao u3.l.length u3.cap] 39, Item.cells b2 [.string (⟨#[]⟩), .string (⟨#[]⟩), .string (⟨#[]⟩), .int .i64 0, .slice none 0 0] 88]) (fun q_ => q_ ≤ an) (fun q_ => an - q_) 2 (0) (Nat.zero_le _) ⟨rfl, rfl, rfl, rfl, rfl, rfl, rfl, rfl, rfl, rfl, trivial⟩ rfl ?_
  rintro k hk
  refine WC.seq ?_
  refine WC.seq ?_
  refine WC.region ?_
  refine SL.pure rfl rfl rfl (PureOp.move rfl) ?_
  refine SL.pure rfl rfl rfl (PureOp.fieldAddrT 0 Try.underlying39 rfl sz36 rfl rfl) ?_
  refine SL.pure rfl rfl rfl (PureOp.load (v := .slice aao an acap) Try.underlying36 rfl rfl (fun _ => (CellIs.cells 0 rfl rfl))) ?_
  refine SL.pure rfl rfl rfl (PureOp.len rfl Try.underlying36) ?_
  refine SL.pure rfl rfl rfl (PureOp.lss rfl rfl) ?_
  refine SL.nil_then ?_
  refine WC.cond rfl (fun h1 => ?_) (fun h1 => ?_)
  · try simp only [Bool.and_eq_true, Bool.or_eq_true, Bool.not_eq_true', Bool.not_eq_false', Bool.and_eq_false_iff, Bool.or_eq_false_iff, decide_eq_true_eq, decide_eq_false_iff_not, Int.not_lt, Int.not_le, ne_eq, Decidable.not_not] at h1
    refine WC.skip ?_
    refine QX.then_ ?_
    refine WC.seq ?_
    refine WC.block ?_
    refine WC.seq ?_
    refine WC.region ?_
    refine SL.pure rfl rfl rfl (PureOp.fieldAddrT 0 Try.underlying39 rfl sz36 rfl rfl) ?_
    refine SL.pure rfl rfl rfl (PureOp.load (v := .slice aao an acap) Try.underlying36 rfl rfl (fun _ => (CellIs.cells 0 rfl rfl))) ?_
    refine SL.pure rfl rfl rfl (PureOp.move rfl) ?_
    refine SL.pure rfl rfl rfl (PureOp.indexAddrN Try.underlying36 sz88 rfl rfl (AoOk.in_ sA) (fun _ => by omega)) ?_
    refine SL.pure rfl rfl rfl (PureOp.fieldAddr 1 Try.underlying88 rfl rfl sz9 rfl) ?_
    refine SL.pure rfl rfl rfl (PureOp.load (v := .string ((nth al k).2.1)) Try.underlying9 rfl rfl (fun _ => (CellIs.in_ sA k 1 (by omega) (by omega)))) ?_
    refine SL.pure rfl rfl rfl (PureOp.move rfl) ?_
    refine SL.pure rfl rfl rfl (PureOp.eqls rfl rfl) ?_
    refine SL.nil_then ?_
    refine WC.cond rfl (fun h2 => ?_) (fun h2 => ?_)
    · try simp only [Bool.and_eq_true, Bool.or_eq_true, Bool.not_eq_true', Bool.not_eq_false', Bool.and_eq_false_iff, Bool.or_eq_false_iff, decide_eq_true_eq, decide_eq_false_iff_not, Int.not_lt, Int.not_le, ne_eq, Decidable.not_not] at h2
      refine WC.seq ?_
      refine WC.region ?_
      refine SL.pure rfl rfl rfl (PureOp.fieldAddrT 0 Try.underlying39 rfl sz36 rfl rfl) ?_
      refine SL.pure rfl rfl rfl (PureOp.load (v := .slice aao an acap) Try.underlying36 rfl rfl (fun _ => (CellIs.cells 0 rfl rfl))) ?_
      refine SL.pure rfl rfl rfl (PureOp.move rfl) ?_
      refine SL.pure rfl rfl rfl (PureOp.indexAddrN Try.underlying36 sz88 rfl rfl (AoOk.in_ sA) (fun _ => by omega)) ?_
      refine SL.pure rfl rfl rfl (PureOp.loads (vs := [.string ((nth al k).1), .string ((nth al k).2.1), .string ((nth al k).2.2.1), .int .i64 ((nth al k).2.2.2.1), .slice ((nth al k).2.2.2.2.ao) ((nth al k).2.2.2.2.l.length) ((nth al k).2.2.2.2.cap)]) Try.underlying88 rfl rfl (fun _ => (RowIs.in_ sA k 0 5 (by omega) (by omega))) sz88) ?_
      refine SL.store 1 rfl rfl rfl rfl sz88 rfl rfl ?_
      refine SL.norm [_, _] rfl ?_
      refine SL.pure rfl rfl rfl (PureOp.assign rfl) ?_
      refine SL.nil_then ?_
      refine WC.ret ?_
      refine QX.ret_in ?_
      refine QX.ret_then ?_
      refine QX.ret_then ?_
      refine QX.ret_in ?_
      refine QX.ret_then ?_
      refine QX.retv rfl (RVs.cons (RV.cell rfl Try.underlying88 rfl (RowIs.cells 1 0 5 rfl rfl) sz88) (RVs.cons (RV.tmp rfl) RVs.nil)) ?_
      intro w hw
      exact ⟨nth al k, _, rfl⟩
    · try simp only [Bool.and_eq_true, Bool.or_eq_true, Bool.not_eq_true', Bool.not_eq_false', Bool.and_eq_false_iff, Bool.or_eq_false_iff, decide_eq_true_eq, decide_eq_false_iff_not, Int.not_lt, Int.not_le, ne_eq, Decidable.not_not] at h2
      refine WC.skip ?_
      refine QX.normal_in ?_
      refine QX.then_ ?_
      refine WC.region ?_
      refine SL.pure rfl rfl rfl (PureOp.move rfl) ?_
      refine SL.pure rfl rfl rfl (PureOp.addN (k := 1) rfl rfl (fun _ => by omega)) ?_
      refine SL.pure rfl rfl rfl (PureOp.assign rfl) ?_
      refine SL.nil ?_
      refine QX.round 2 (k + 1) ⟨(by first | omega | (dsimp only; omega)), by first | omega | (dsimp only; omega)⟩ ⟨rfl, rfl, rfl, rfl, rfl, rfl, rfl, rfl, rfl, rfl, trivial⟩ rfl
  · try simp only [Bool.and_eq_true, Bool.or_eq_true, Bool.not_eq_true', Bool.not_eq_false', Bool.and_eq_false_iff, Bool.or_eq_false_iff, decide_eq_true_eq, decide_eq_false_iff_not, Int.not_lt, Int.not_le, ne_eq, Decidable.not_not] at h1
    refine WC.exit ?_
    refine QX.exit_then ?_
    refine QX.exit_then ?_
    refine QX.exit_hit ?_
    refine QX.then_ ?_
    refine WC.seq ?_
    refine WC.region ?_
    refine SL.pure rfl rfl rfl (PureOp.build bld88 rfl rfl) ?_
    refine SL.store 1 rfl rfl rfl rfl sz88 rfl rfl ?_
    refine SL.norm [_, _] rfl ?_
    refine SL.pure rfl rfl rfl (PureOp.assign rfl) ?_
    refine SL.nil_then ?_
    refine WC.ret ?_
    refine QX.retv rfl (RVs.cons (RV.cell rfl Try.underlying88 rfl (RowIs.cells 1 0 5 rfl rfl) sz88) (RVs.cons (RV.tmp rfl) RVs.nil)) ?_
    intro w hw
    exact ⟨ai0, _, rfl⟩

set_option maxHeartbeats 4000000 in
set_option maxRecDepth 100000 in
theorem usable_ok (d : ByteArray × ByteArray × Int) (w0 : World) : FnC Try.prog 58 [.agg #[.string d.1, .string d.2.1, .int .i64 d.2.2]] w0 fun v w' => v = .bool (usB d.2.2) := by
  refine fnc (N := 11) Try.func58 rfl rfl rfl ?_
  refine WC.seq ?_
  refine WC.region ?_
  refine SL.box rfl rfl rfl (fun b1 hb1 => ?_)
  refine SL.norm [_] rfl ?_
  refine SL.pure rfl rfl rfl (PureOp.assign rfl) ?_
  refine SL.nil_then ?_
  refine WC.seq ?_
  refine WC.region ?_
  refine SL.pure rfl rfl rfl (PureOp.fieldAddrT 2 Try.underlying117 rfl sz3 rfl rfl) ?_
  refine SL.pure rfl rfl rfl (PureOp.load (v := .int .i64 d.2.2) Try.underlying3 rfl rfl (fun _ => (CellIs.cells 0 rfl rfl))) ?_
  refine SL.pure rfl rfl rfl (PureOp.geq rfl rfl) ?_
  refine SL.pure rfl rfl rfl (PureOp.move rfl) ?_
  refine SL.newg 6 true rfl ?_
  refine SL.gpure (c := 1) rfl rfl rfl rfl rfl rfl rfl (PureOp.fieldAddrT 2 Try.underlying117 rfl sz3 rfl rfl) ?_
  refine SL.gpure (c := 1) rfl rfl rfl rfl rfl rfl rfl (PureOp.load (v := .int .i64 d.2.2) Try.underlying3 rfl rfl (fun _ => (CellIs.cells 0 rfl rfl))) ?_
  refine SL.gpure (c := 1) rfl rfl rfl rfl rfl rfl rfl (PureOp.leq rfl rfl) ?_
  refine SL.pure rfl rfl rfl (PureOp.and_ rfl rfl rfl rfl) ?_
  refine SL.pure rfl rfl rfl (PureOp.assign rfl) ?_
  refine SL.nil_then ?_
  refine WC.ret ?_
  refine QX.ret1 rfl rfl ?_
  intro w hw
  rfl

set_option maxHeartbeats 4000000 in
set_option maxRecDepth 100000 in
theorem airport_any (u3 : SliceV Unit) (al : List Ai) (aao : Option Addr) (an acap : Nat) (han : an = al.length) (w0 : World) (sA : SliceIn w0 5 aao an acap (rowsF enc88 al)) (hab : an ≤ 1000) (hAi : ∀ j, j < an → AiG w0 (nth al j)) (i : Nat) (hi : i < an) : FnC Try.prog 36 [.agg #[.slice aao an acap, .slice u3.ao u3.l.length u3.cap], .int .i64 ((i : Nat) : Int)] w0 fun v w' => ∃ a cp n L, v = .slice a n cp ∧ LnZ L n 5 (ZA al i) ∧ w'.ownsRow w0.heap.size 31 1 (.slice a n cp) n (cellsOf encI L) := by
  have hA := hAi i hi
  have hA1 := hA.s1
  have hA2 := hA.s2
  have hA3 := hA.s3
  refine fnc (N := 93) Try.func36 rfl rfl rfl ?_
  refine WC.seq ?_
  refine WC.region ?_
  refine SL.box rfl rfl rfl (fun b1 hb1 => ?_)
  refine SL.norm [_] rfl ?_
  refine SL.pure rfl rfl rfl (PureOp.assign rfl) ?_
  refine SL.nil_then ?_
  refine WC.seq ?_
  refine WC.region ?_
  refine SL.addnil 31 1 ?_
  refine SL.pure rfl rfl rfl (PureOp.assign rfl) ?_
  refine SL.nil_then ?_
  refine WC.seq ?_
  refine WC.region ?_
  refine SL.pure rfl rfl rfl (PureOp.fieldAddrT 0 Try.underlying39 rfl sz36 rfl rfl) ?_
  refine SL.pure rfl rfl rfl (PureOp.load (v := .slice aao an acap) Try.underlying36 rfl rfl (fun _ => (CellIs.cells 0 rfl rfl))) ?_
  refine SL.pure rfl rfl rfl (PureOp.move rfl) ?_
  refine SL.pure rfl rfl rfl (PureOp.indexAddrN Try.underlying36 sz88 rfl rfl (AoOk.in_ sA) (fun _ => by omega)) ?_
  refine SL.pure rfl rfl rfl (PureOp.loads (vs := [.string ((nth al i).1), .string ((nth al i).2.1), .string ((nth al i).2.2.1), .int .i64 ((nth al i).2.2.2.1), .slice ((nth al i).2.2.2.2.ao) ((nth al i).2.2.2.2.l.length) ((nth al i).2.2.2.2.cap)]) Try.underlying88 rfl rfl (fun _ => (RowIs.in_ sA i 0 5 (by omega) (by omega))) sz88) ?_
  refine SL.alloc rfl rfl zero88 (fun b2 hb2 => ?_)
  refine SL.norm [_, _, _] rfl ?_
  refine SL.store 2 rfl rfl rfl rfl sz88 rfl rfl ?_
  refine SL.norm [_, _, _] rfl ?_
  refine SL.nil_then ?_
  refine WC.cutx (σ := Option Addr × Nat × Nat × List Int) (fun q_ => [(0, 0, .agg #[.slice aao an acap, .slice u3.ao u3.l.length u3.cap]), (1, 0, .int .i64 ((i : Nat) : Int)), (2, 0, .pointer (some ⟨b1, 0, none⟩)), (4, 0, .slice none 0 0), (6, 0, .pointer (some ⟨b2, 0, none⟩)), (11, 0, .pointer (some ⟨b1, 0, none⟩)), (12, 0, .slice aao an acap), (13, 0, .int .i64 ((i : Nat) : Int)), (14, 0, .pointer (some ⟨blk aao, off aao + i * 5, none⟩)), (15, 0, .agg #[.string ((nth al i).1), .string ((nth al i).2.1), .string ((nth al i).2.2.1), .int .i64 ((nth al i).2.2.2.1), .slice ((nth al i).2.2.2.2.ao) ((nth al i).2.2.2.2.l.length) ((nth al i).2.2.2.2.cap)]), (5, 0, .slice q_.1 q_.2.2.1 q_.2.1)]) (fun q_ => [Item.cells b1 [.slice aao an acap, .slice u3.ao u3.l.length u3.cap] 39, Item.own w0.heap.size q_.1 q_.2.2.1 q_.2.1 31 1 (cellsOf encI (q_.2.2.2)), Item.cells b2 [.string ((nth al i).1), .string ((nth al i).2.1), .string ((nth al i).2.2.1), .int .i64 ((nth al i).2.2.2.1), .slice ((nth al i).2.2.2.2.ao) ((nth al i).2.2.2.2.l.length) ((nth al i).2.2.2.2.cap)] 88]) (fun q_ => LnB q_.2.2.2 q_.2.2.1 1) ?_ ?_
  · skip
    refine WC.seq ?_
    refine WC.region ?_
    refine SL.pure rfl rfl rfl (PureOp.fieldAddrT 0 Try.underlying88 rfl sz9 rfl rfl) ?_
    refine SL.pure rfl rfl rfl (PureOp.load (v := .string ((nth al i).1)) Try.underlying9 rfl rfl (fun _ => (CellIs.cells 2 rfl rfl))) ?_
    refine SL.calle rfl rfl rfl rfl rfl rfl callable53 (fun w hw => airport_ok ((nth al i).1) (by omega) w) ?_
    refine SL.norm [_, _, _] rfl ?_
    refine SL.pure rfl rfl rfl (PureOp.not rfl) ?_
    refine SL.pure rfl rfl rfl (PureOp.move rfl) ?_
    refine SL.newg 20 false rfl ?_
    refine SL.gpure (c := 1) rfl rfl rfl rfl rfl rfl rfl (PureOp.fieldAddrT 1 Try.underlying88 rfl sz9 rfl rfl) ?_
    refine SL.gpure (c := 1) rfl rfl rfl rfl rfl rfl rfl (PureOp.load (v := .string ((nth al i).2.1)) Try.underlying9 rfl rfl (fun _ => (CellIs.cells 2 rfl rfl))) ?_
    refine SL.gcalle (c := 1) rfl rfl rfl rfl rfl rfl rfl rfl rfl rfl callable53 (by intro hg; simp [gval] at hg; exact (fun w hw => airport_ok ((nth al i).2.1) (by omega) w)) ?_
    refine SL.norm [_, _, _] rfl ?_
    refine SL.gpure (c := 1) rfl rfl rfl rfl rfl rfl rfl (PureOp.not rfl) ?_
    refine SL.pure rfl rfl rfl (PureOp.or_ rfl rfl rfl rfl) ?_
    refine SL.pure rfl rfl rfl (PureOp.move rfl) ?_
    refine SL.newg 26 false rfl ?_
    refine SL.gpure (c := 2) rfl rfl rfl rfl rfl rfl rfl (PureOp.fieldAddrT 2 Try.underlying88 rfl sz9 rfl rfl) ?_
    refine SL.gpure (c := 2) rfl rfl rfl rfl rfl rfl rfl (PureOp.load (v := .string ((nth al i).2.2.1)) Try.underlying9 rfl rfl (fun _ => (CellIs.cells 2 rfl rfl))) ?_
    refine SL.gcalle (c := 2) rfl rfl rfl rfl rfl rfl rfl rfl rfl rfl callable54 (by intro hg; simp [gval] at hg; exact (fun w hw => country_ok ((nth al i).2.2.1) (by omega) w)) ?_
    refine SL.norm [_, _, _] rfl ?_
    refine SL.gpure (c := 2) rfl rfl rfl rfl rfl rfl rfl (PureOp.not rfl) ?_
    refine SL.pure rfl rfl rfl (PureOp.or_ rfl rfl rfl rfl) ?_
    refine SL.nil_then ?_
    refine WC.cond rfl (fun h1 => ?_) (fun h1 => ?_)
    · try simp only [Bool.and_eq_true, Bool.or_eq_true, Bool.not_eq_true', Bool.not_eq_false', Bool.and_eq_false_iff, Bool.or_eq_false_iff, decide_eq_true_eq, decide_eq_false_iff_not, Int.not_lt, Int.not_le, ne_eq, Decidable.not_not] at h1
      refine WC.region ?_
      refine SL.pure rfl rfl rfl (PureOp.move rfl) ?_
      refine SL.buildSlice rfl rfl Try.underlying89 elem31 rfl rfl rfl rfl (fun b3 hb3 => ?_)
      refine SL.norm [_, _, _, _] rfl ?_
      refine SL.append 1 rfl rfl Try.underlying89 elem31 rfl rfl rfl rfl (SrcIs.own 3 rfl) (by rfl) (by omega) (by omega) (fun ao1_ cap1_ => ?_)
      refine SL.itemxs 1 rfl (show _ = cellsOf encI ([] ++ [(5 : Int)]) from by rw [cellsOf_append (l := ([])), cellsOf_one]; rfl) ?_
      refine SL.norm [_, _, _, _] rfl ?_
      refine SL.pure rfl rfl rfl (PureOp.assign rfl) ?_
      refine SL.nil ?_
      refine QX.cutx (σ := Option Addr × Nat × Nat × List Int) (E' := fun q_ => [(0, 0, .agg #[.slice aao an acap, .slice u3.ao u3.l.length u3.cap]), (1, 0, .int .i64 ((i : Nat) : Int)), (2, 0, .pointer (some ⟨b1, 0, none⟩)), (4, 0, .slice none 0 0), (6, 0, .pointer (some ⟨b2, 0, none⟩)), (11, 0, .pointer (some ⟨b1, 0, none⟩)), (12, 0, .slice aao an acap), (13, 0, .int .i64 ((i : Nat) : Int)), (14, 0, .pointer (some ⟨blk aao, off aao + i * 5, none⟩)), (15, 0, .agg #[.string ((nth al i).1), .string ((nth al i).2.1), .string ((nth al i).2.2.1), .int .i64 ((nth al i).2.2.2.1), .slice ((nth al i).2.2.2.2.ao) ((nth al i).2.2.2.2.l.length) ((nth al i).2.2.2.2.cap)]), (5, 0, .slice q_.1 q_.2.2.1 q_.2.1)]) (H' := fun q_ => [Item.cells b1 [.slice aao an acap, .slice u3.ao u3.l.length u3.cap] 39, Item.own w0.heap.size q_.1 q_.2.2.1 q_.2.1 31 1 (cellsOf encI (q_.2.2.2)), Item.cells b2 [.string ((nth al i).1), .string ((nth al i).2.1), .string ((nth al i).2.2.1), .int .i64 ((nth al i).2.2.2.1), .slice ((nth al i).2.2.2.2.ao) ((nth al i).2.2.2.2.l.length) ((nth al i).2.2.2.2.cap)] 88]) (I := fun q_ => LnB q_.2.2.2 q_.2.2.1 1) 3 ((ao1_, cap1_, 0 + 1, [] ++ [(5 : Int)])) ((by first | exact LnB.nil.mono (by omega) | exact (LnB.nil.snoc).mono (by omega) | exact (LnB.nil.snoc.snoc).mono (by omega) | exact (LnB.nil.snoc.snoc.snoc).mono (by omega))) ⟨rfl, rfl, rfl, rfl, rfl, rfl, rfl, rfl, rfl, rfl, rfl, rfl, rfl, rfl, rfl, rfl, rfl, rfl, rfl, rfl, rfl, rfl, trivial⟩ rfl
    · try simp only [Bool.and_eq_true, Bool.or_eq_true, Bool.not_eq_true', Bool.not_eq_false', Bool.and_eq_false_iff, Bool.or_eq_false_iff, decide_eq_true_eq, decide_eq_false_iff_not, Int.not_lt, Int.not_le, ne_eq, Decidable.not_not] at h1
      refine WC.skip ?_
      refine QX.cutx (σ := Option Addr × Nat × Nat × List Int) (E' := fun q_ => [(0, 0, .agg #[.slice aao an acap, .slice u3.ao u3.l.length u3.cap]), (1, 0, .int .i64 ((i : Nat) : Int)), (2, 0, .pointer (some ⟨b1, 0, none⟩)), (4, 0, .slice none 0 0), (6, 0, .pointer (some ⟨b2, 0, none⟩)), (11, 0, .pointer (some ⟨b1, 0, none⟩)), (12, 0, .slice aao an acap), (13, 0, .int .i64 ((i : Nat) : Int)), (14, 0, .pointer (some ⟨blk aao, off aao + i * 5, none⟩)), (15, 0, .agg #[.string ((nth al i).1), .string ((nth al i).2.1), .string ((nth al i).2.2.1), .int .i64 ((nth al i).2.2.2.1), .slice ((nth al i).2.2.2.2.ao) ((nth al i).2.2.2.2.l.length) ((nth al i).2.2.2.2.cap)]), (5, 0, .slice q_.1 q_.2.2.1 q_.2.1)]) (H' := fun q_ => [Item.cells b1 [.slice aao an acap, .slice u3.ao u3.l.length u3.cap] 39, Item.own w0.heap.size q_.1 q_.2.2.1 q_.2.1 31 1 (cellsOf encI (q_.2.2.2)), Item.cells b2 [.string ((nth al i).1), .string ((nth al i).2.1), .string ((nth al i).2.2.1), .int .i64 ((nth al i).2.2.2.1), .slice ((nth al i).2.2.2.2.ao) ((nth al i).2.2.2.2.l.length) ((nth al i).2.2.2.2.cap)] 88]) (I := fun q_ => LnB q_.2.2.2 q_.2.2.1 1) 3 ((none, 0, 0, [])) ((by first | exact LnB.nil.mono (by omega) | exact (LnB.nil.snoc).mono (by omega) | exact (LnB.nil.snoc.snoc).mono (by omega) | exact (LnB.nil.snoc.snoc.snoc).mono (by omega))) ⟨rfl, rfl, rfl, rfl, rfl, rfl, rfl, rfl, rfl, rfl, rfl, rfl, rfl, rfl, rfl, rfl, rfl, rfl, rfl, rfl, rfl, rfl, trivial⟩ rfl
  rintro ⟨a1_, c1_, n1_, L1_⟩ hF1
  try dsimp only at *
  have hFl1 := hF1.le
  refine WC.seq ?_
  refine WC.region ?_
  refine SL.pure rfl rfl rfl (PureOp.assign rfl) ?_
  refine SL.pure rfl rfl rfl (PureOp.assign rfl) ?_
  refine SL.nil_then ?_
  refine WC.seq ?_
  refine WC.seq ?_
  refine WC.region ?_
  refine SL.pure rfl rfl rfl (PureOp.assign rfl) ?_
  refine SL.nil_then ?_
  refine WC.block ?_
  refine WC.loop (σ := Nat × Bool × Bool) (fun q_ => [(0, 0, .agg #[.slice aao an acap, .slice u3.ao u3.l.length u3.cap]), (1, 0, .int .i64 ((i : Nat) : Int)), (2, 0, .pointer (some ⟨b1, 0, none⟩)), (4, 0, .slice none 0 0), (5, 0, .slice a1_ n1_ c1_), (6, 0, .pointer (some ⟨b2, 0, none⟩)), (11, 0, .pointer (some ⟨b1, 0, none⟩)), (12, 0, .slice aao an acap), (13, 0, .int .i64 ((i : Nat) : Int)), (14, 0, .pointer (some ⟨blk aao, off aao + i * 5, none⟩)), (15, 0, .agg #[.string ((nth al i).1), .string ((nth al i).2.1), .string ((nth al i).2.2.1), .int .i64 ((nth al i).2.2.2.1), .slice ((nth al i).2.2.2.2.ao) ((nth al i).2.2.2.2.l.length) ((nth al i).2.2.2.2.cap)]), (9, 0, .int .i64 ((q_.1 : Nat) : Int)), (7, 0, .bool q_.2.1), (8, 0, .bool q_.2.2)]) (fun q_ => [Item.cells b1 [.slice aao an acap, .slice u3.ao u3.l.length u3.cap] 39, Item.own w0.heap.size a1_ n1_ c1_ 31 1 (cellsOf encI (L1_)), Item.cells b2 [.string ((nth al i).1), .string ((nth al i).2.1), .string ((nth al i).2.2.1), .int .i64 ((nth al i).2.2.2.1), .slice ((nth al i).2.2.2.2.ao) ((nth al i).2.2.2.2.l.length) ((nth al i).2.2.2.2.cap)] 88]) (fun q_ => q_.1 ≤ i) (fun q_ => i - q_.1) 3 ((0, false, false)) (Nat.zero_le _) ⟨rfl, rfl, rfl, rfl, rfl, rfl, rfl, rfl, rfl, rfl, rfl, rfl, rfl, rfl, rfl, rfl, rfl, rfl, rfl, rfl, rfl, rfl, rfl, rfl, rfl, rfl, rfl, rfl, trivial⟩ rfl ?_
  rintro ⟨k, f7, f8⟩ hk
  try dsimp only at *
  refine WC.seq ?_
  refine WC.seq ?_
  refine WC.region ?_
  refine SL.pure rfl rfl rfl (PureOp.move rfl) ?_
  refine SL.pure rfl rfl rfl (PureOp.move rfl) ?_
  refine SL.pure rfl rfl rfl (PureOp.lss rfl rfl) ?_
  refine SL.nil_then ?_
  refine WC.cond rfl (fun h2 => ?_) (fun h2 => ?_)
  · try simp only [Bool.and_eq_true, Bool.or_eq_true, Bool.not_eq_true', Bool.not_eq_false', Bool.and_eq_false_iff, Bool.or_eq_false_iff, decide_eq_true_eq, decide_eq_false_iff_not, Int.not_lt, Int.not_le, ne_eq, Decidable.not_not] at h2
    refine WC.skip ?_
    refine QX.then_ ?_
    refine WC.seq ?_
    refine WC.block ?_
    refine WC.seq ?_
    refine WC.quiet rfl (by kernel_rfl) ?_
    refine SQ.pure rfl rfl rfl (PureOp.move rfl) ?_
    refine SQ.pure rfl rfl rfl (PureOp.move rfl) ?_
    refine SQ.newg 41 false rfl ?_
    refine SQ.gpure (c := 1) rfl rfl rfl rfl rfl rfl rfl (PureOp.fieldAddrT 0 Try.underlying39 rfl sz36 rfl rfl) ?_
    refine SQ.gpure (c := 1) rfl rfl rfl rfl rfl rfl rfl (PureOp.load (v := .slice aao an acap) Try.underlying36 rfl rfl (fun _ => (CellIs.cells 0 rfl rfl))) ?_
    refine SQ.gpure (c := 1) rfl rfl rfl rfl rfl rfl rfl (PureOp.move rfl) ?_
    refine SQ.gpure (c := 1) rfl rfl rfl rfl rfl rfl rfl (PureOp.indexAddrN Try.underlying36 sz88 rfl rfl (AoOk.in_ sA) (by intro hg; simp [gval] at hg; omega)) ?_
    refine SQ.gpure (c := 1) rfl rfl rfl rfl rfl rfl rfl (PureOp.fieldAddr 0 Try.underlying88 rfl rfl sz9 rfl) ?_
    refine SQ.gpure (c := 1) rfl rfl rfl rfl rfl rfl rfl (PureOp.load (v := .string ((nth al k).1)) Try.underlying9 rfl rfl (by intro hg; simp [gval] at hg; exact (CellIs.in_ sA k 0 (by omega) (by omega)))) ?_
    refine SQ.gpure (c := 1) rfl rfl rfl rfl rfl rfl rfl (PureOp.fieldAddrT 0 Try.underlying88 rfl sz9 rfl rfl) ?_
    refine SQ.gpure (c := 1) rfl rfl rfl rfl rfl rfl rfl (PureOp.load (v := .string ((nth al i).1)) Try.underlying9 rfl rfl (fun _ => (CellIs.cells 2 rfl rfl))) ?_
    refine SQ.gpure (c := 1) rfl rfl rfl rfl rfl rfl rfl (PureOp.eqls rfl rfl) ?_
    refine SQ.pure rfl rfl rfl (PureOp.or_ rfl rfl rfl rfl) ?_
    refine SQ.pure rfl rfl rfl (PureOp.assign rfl) ?_
    refine SQ.nil_then ?_
    refine WC.quiet rfl (by kernel_rfl) ?_
    refine SQ.pure rfl rfl rfl (PureOp.move rfl) ?_
    refine SQ.pure rfl rfl rfl (PureOp.move rfl) ?_
    refine SQ.newg 53 false rfl ?_
    refine SQ.gpure (c := 2) rfl rfl rfl rfl rfl rfl rfl (PureOp.fieldAddrT 0 Try.underlying39 rfl sz36 rfl rfl) ?_
    refine SQ.gpure (c := 2) rfl rfl rfl rfl rfl rfl rfl (PureOp.load (v := .slice aao an acap) Try.underlying36 rfl rfl (fun _ => (CellIs.cells 0 rfl rfl))) ?_
    refine SQ.gpure (c := 2) rfl rfl rfl rfl rfl rfl rfl (PureOp.move rfl) ?_
    refine SQ.gpure (c := 2) rfl rfl rfl rfl rfl rfl rfl (PureOp.indexAddrN Try.underlying36 sz88 rfl rfl (AoOk.in_ sA) (by intro hg; simp [gval] at hg; omega)) ?_
    refine SQ.gpure (c := 2) rfl rfl rfl rfl rfl rfl rfl (PureOp.fieldAddr 1 Try.underlying88 rfl rfl sz9 rfl) ?_
    refine SQ.gpure (c := 2) rfl rfl rfl rfl rfl rfl rfl (PureOp.load (v := .string ((nth al k).2.1)) Try.underlying9 rfl rfl (by intro hg; simp [gval] at hg; exact (CellIs.in_ sA k 1 (by omega) (by omega)))) ?_
    refine SQ.gpure (c := 2) rfl rfl rfl rfl rfl rfl rfl (PureOp.fieldAddrT 1 Try.underlying88 rfl sz9 rfl rfl) ?_
    refine SQ.gpure (c := 2) rfl rfl rfl rfl rfl rfl rfl (PureOp.load (v := .string ((nth al i).2.1)) Try.underlying9 rfl rfl (fun _ => (CellIs.cells 2 rfl rfl))) ?_
    refine SQ.gpure (c := 2) rfl rfl rfl rfl rfl rfl rfl (PureOp.eqls rfl rfl) ?_
    refine SQ.gpure (c := 2) rfl rfl rfl rfl rfl rfl rfl (PureOp.move rfl) ?_
    refine SQ.newg 63 true rfl ?_
    refine SQ.gpure (c := 3) rfl rfl rfl rfl rfl rfl rfl (PureOp.fieldAddrT 0 Try.underlying39 rfl sz36 rfl rfl) ?_
    refine SQ.gpure (c := 3) rfl rfl rfl rfl rfl rfl rfl (PureOp.load (v := .slice aao an acap) Try.underlying36 rfl rfl (fun _ => (CellIs.cells 0 rfl rfl))) ?_
    refine SQ.gpure (c := 3) rfl rfl rfl rfl rfl rfl rfl (PureOp.move rfl) ?_
    refine SQ.gpure (c := 3) rfl rfl rfl rfl rfl rfl rfl (PureOp.indexAddrN Try.underlying36 sz88 rfl rfl (AoOk.in_ sA) (by intro hg; simp [gval] at hg; omega)) ?_
    refine SQ.gpure (c := 3) rfl rfl rfl rfl rfl rfl rfl (PureOp.fieldAddr 2 Try.underlying88 rfl rfl sz9 rfl) ?_
    refine SQ.gpure (c := 3) rfl rfl rfl rfl rfl rfl rfl (PureOp.load (v := .string ((nth al k).2.2.1)) Try.underlying9 rfl rfl (by intro hg; simp [gval] at hg; exact (CellIs.in_ sA k 2 (by omega) (by omega)))) ?_
    refine SQ.gpure (c := 3) rfl rfl rfl rfl rfl rfl rfl (PureOp.fieldAddrT 2 Try.underlying88 rfl sz9 rfl rfl) ?_
    refine SQ.gpure (c := 3) rfl rfl rfl rfl rfl rfl rfl (PureOp.load (v := .string ((nth al i).2.2.1)) Try.underlying9 rfl rfl (fun _ => (CellIs.cells 2 rfl rfl))) ?_
    refine SQ.gpure (c := 3) rfl rfl rfl rfl rfl rfl rfl (PureOp.neqs rfl rfl) ?_
    refine SQ.gpure (c := 2) rfl rfl rfl rfl rfl rfl rfl (PureOp.and_ rfl rfl rfl rfl) ?_
    refine SQ.pure rfl rfl rfl (PureOp.or_ rfl rfl rfl rfl) ?_
    refine SQ.pure rfl rfl rfl (PureOp.assign rfl) ?_
    refine SQ.nil ?_
    refine QX.normal_in ?_
    refine QX.then_ ?_
    refine WC.region ?_
    refine SL.pure rfl rfl rfl (PureOp.move rfl) ?_
    refine SL.pure rfl rfl rfl (PureOp.addN (k := 1) rfl rfl (fun _ => by omega)) ?_
    refine SL.pure rfl rfl rfl (PureOp.assign rfl) ?_
    refine SL.nil ?_
    refine QX.round (σ := Nat × Bool × Bool) (Ef := fun q_ => [(0, 0, .agg #[.slice aao an acap, .slice u3.ao u3.l.length u3.cap]), (1, 0, .int .i64 ((i : Nat) : Int)), (2, 0, .pointer (some ⟨b1, 0, none⟩)), (4, 0, .slice none 0 0), (5, 0, .slice a1_ n1_ c1_), (6, 0, .pointer (some ⟨b2, 0, none⟩)), (11, 0, .pointer (some ⟨b1, 0, none⟩)), (12, 0, .slice aao an acap), (13, 0, .int .i64 ((i : Nat) : Int)), (14, 0, .pointer (some ⟨blk aao, off aao + i * 5, none⟩)), (15, 0, .agg #[.string ((nth al i).1), .string ((nth al i).2.1), .string ((nth al i).2.2.1), .int .i64 ((nth al i).2.2.2.1), .slice ((nth al i).2.2.2.2.ao) ((nth al i).2.2.2.2.l.length) ((nth al i).2.2.2.2.cap)]), (9, 0, .int .i64 ((q_.1 : Nat) : Int)), (7, 0, .bool q_.2.1), (8, 0, .bool q_.2.2)]) (Hf := fun q_ => [Item.cells b1 [.slice aao an acap, .slice u3.ao u3.l.length u3.cap] 39, Item.own w0.heap.size a1_ n1_ c1_ 31 1 (cellsOf encI (L1_)), Item.cells b2 [.string ((nth al i).1), .string ((nth al i).2.1), .string ((nth al i).2.2.1), .int .i64 ((nth al i).2.2.2.1), .slice ((nth al i).2.2.2.2.ao) ((nth al i).2.2.2.2.l.length) ((nth al i).2.2.2.2.cap)] 88]) (I := fun q_ => q_.1 ≤ i) (μ := fun q_ => i - q_.1) (s := (k, f7, f8)) 3 ((k + 1, f7 || (((nth al k).1).toList == ((nth al i).1).toList), f8 || ((((nth al k).2.1).toList == ((nth al i).2.1).toList) && (!(((nth al k).2.2.1).toList == ((nth al i).2.2.1).toList))))) ⟨(by first | omega | (dsimp only; omega)), by first | omega | (dsimp only; omega)⟩ ⟨rfl, rfl, rfl, rfl, rfl, rfl, rfl, rfl, rfl, rfl, rfl, rfl, rfl, rfl, rfl, rfl, rfl, rfl, rfl, rfl, rfl, rfl, rfl, rfl, rfl, rfl, rfl, rfl, trivial⟩ rfl
  · try simp only [Bool.and_eq_true, Bool.or_eq_true, Bool.not_eq_true', Bool.not_eq_false', Bool.and_eq_false_iff, Bool.or_eq_false_iff, decide_eq_true_eq, decide_eq_false_iff_not, Int.not_lt, Int.not_le, ne_eq, Decidable.not_not] at h2
    refine WC.exit ?_
    refine QX.exit_then ?_
    refine QX.exit_then ?_
    refine QX.exit_hit ?_
    refine QX.then_ ?_
    refine WC.cutx (σ := Option Addr × Nat × Nat × List Int) (fun q_ => [(0, 0, .agg #[.slice aao an acap, .slice u3.ao u3.l.length u3.cap]), (1, 0, .int .i64 ((i : Nat) : Int)), (2, 0, .pointer (some ⟨b1, 0, none⟩)), (4, 0, .slice none 0 0), (6, 0, .pointer (some ⟨b2, 0, none⟩)), (7, 0, .bool f7), (8, 0, .bool f8), (9, 0, .int .i64 ((k : Nat) : Int)), (11, 0, .pointer (some ⟨b1, 0, none⟩)), (12, 0, .slice aao an acap), (13, 0, .int .i64 ((i : Nat) : Int)), (14, 0, .pointer (some ⟨blk aao, off aao + i * 5, none⟩)), (15, 0, .agg #[.string ((nth al i).1), .string ((nth al i).2.1), .string ((nth al i).2.2.1), .int .i64 ((nth al i).2.2.2.1), .slice ((nth al i).2.2.2.2.ao) ((nth al i).2.2.2.2.l.length) ((nth al i).2.2.2.2.cap)]), (35, 0, .int .i64 ((k : Nat) : Int)), (36, 0, .int .i64 ((i : Nat) : Int)), (37, 0, .bool (decide (((k : Nat) : Int) < ((i : Nat) : Int)))), (5, 0, .slice q_.1 q_.2.2.1 q_.2.1)]) (fun q_ => [Item.cells b1 [.slice aao an acap, .slice u3.ao u3.l.length u3.cap] 39, Item.own w0.heap.size q_.1 q_.2.2.1 q_.2.1 31 1 (cellsOf encI (q_.2.2.2)), Item.cells b2 [.string ((nth al i).1), .string ((nth al i).2.1), .string ((nth al i).2.2.1), .int .i64 ((nth al i).2.2.2.1), .slice ((nth al i).2.2.2.2.ao) ((nth al i).2.2.2.2.l.length) ((nth al i).2.2.2.2.cap)] 88]) (fun q_ => LnB q_.2.2.2 q_.2.2.1 2) ?_ ?_
    · skip
      refine WC.seq ?_
      refine WC.region ?_
      refine SL.pure rfl rfl rfl (PureOp.move rfl) ?_
      refine SL.nil_then ?_
      refine WC.cond rfl (fun h3 => ?_) (fun h3 => ?_)
      · try simp only [Bool.and_eq_true, Bool.or_eq_true, Bool.not_eq_true', Bool.not_eq_false', Bool.and_eq_false_iff, Bool.or_eq_false_iff, decide_eq_true_eq, decide_eq_false_iff_not, Int.not_lt, Int.not_le, ne_eq, Decidable.not_not] at h3
        refine WC.region ?_
        refine SL.pure rfl rfl rfl (PureOp.move rfl) ?_
        refine SL.buildSlice rfl rfl Try.underlying89 elem31 rfl rfl rfl rfl (fun b4 hb4 => ?_)
        refine SL.norm [_, _, _, _] rfl ?_
        refine SL.append 1 rfl rfl Try.underlying89 elem31 rfl rfl rfl rfl (SrcIs.own 3 rfl) (by rfl) (by omega) (by omega) (fun ao2_ cap2_ => ?_)
        refine SL.itemxs 1 rfl (show _ = cellsOf encI (L1_ ++ [(6 : Int)]) from by rw [cellsOf_append (l := L1_), cellsOf_one]; rfl) ?_
        refine SL.norm [_, _, _, _] rfl ?_
        refine SL.pure rfl rfl rfl (PureOp.assign rfl) ?_
        refine SL.nil ?_
        refine QX.cutx (σ := Option Addr × Nat × Nat × List Int) (E' := fun q_ => [(0, 0, .agg #[.slice aao an acap, .slice u3.ao u3.l.length u3.cap]), (1, 0, .int .i64 ((i : Nat) : Int)), (2, 0, .pointer (some ⟨b1, 0, none⟩)), (4, 0, .slice none 0 0), (6, 0, .pointer (some ⟨b2, 0, none⟩)), (7, 0, .bool f7), (8, 0, .bool f8), (9, 0, .int .i64 ((k : Nat) : Int)), (11, 0, .pointer (some ⟨b1, 0, none⟩)), (12, 0, .slice aao an acap), (13, 0, .int .i64 ((i : Nat) : Int)), (14, 0, .pointer (some ⟨blk aao, off aao + i * 5, none⟩)), (15, 0, .agg #[.string ((nth al i).1), .string ((nth al i).2.1), .string ((nth al i).2.2.1), .int .i64 ((nth al i).2.2.2.1), .slice ((nth al i).2.2.2.2.ao) ((nth al i).2.2.2.2.l.length) ((nth al i).2.2.2.2.cap)]), (35, 0, .int .i64 ((k : Nat) : Int)), (36, 0, .int .i64 ((i : Nat) : Int)), (37, 0, .bool (decide (((k : Nat) : Int) < ((i : Nat) : Int)))), (5, 0, .slice q_.1 q_.2.2.1 q_.2.1)]) (H' := fun q_ => [Item.cells b1 [.slice aao an acap, .slice u3.ao u3.l.length u3.cap] 39, Item.own w0.heap.size q_.1 q_.2.2.1 q_.2.1 31 1 (cellsOf encI (q_.2.2.2)), Item.cells b2 [.string ((nth al i).1), .string ((nth al i).2.1), .string ((nth al i).2.2.1), .int .i64 ((nth al i).2.2.2.1), .slice ((nth al i).2.2.2.2.ao) ((nth al i).2.2.2.2.l.length) ((nth al i).2.2.2.2.cap)] 88]) (I := fun q_ => LnB q_.2.2.2 q_.2.2.1 2) 3 ((ao2_, cap2_, n1_ + 1, L1_ ++ [(6 : Int)])) ((by first | exact hF1.mono (by omega) | exact (hF1.snoc).mono (by omega) | exact (hF1.snoc.snoc).mono (by omega) | exact (hF1.snoc.snoc.snoc).mono (by omega))) ⟨rfl, rfl, rfl, rfl, rfl, rfl, rfl, rfl, rfl, rfl, rfl, rfl, rfl, rfl, rfl, rfl, rfl, rfl, rfl, rfl, rfl, rfl, rfl, rfl, rfl, rfl, rfl, rfl, rfl, rfl, rfl, rfl, rfl, rfl, trivial⟩ rfl
      · try simp only [Bool.and_eq_true, Bool.or_eq_true, Bool.not_eq_true', Bool.not_eq_false', Bool.and_eq_false_iff, Bool.or_eq_false_iff, decide_eq_true_eq, decide_eq_false_iff_not, Int.not_lt, Int.not_le, ne_eq, Decidable.not_not] at h3
        refine WC.skip ?_
        refine QX.cutx (σ := Option Addr × Nat × Nat × List Int) (E' := fun q_ => [(0, 0, .agg #[.slice aao an acap, .slice u3.ao u3.l.length u3.cap]), (1, 0, .int .i64 ((i : Nat) : Int)), (2, 0, .pointer (some ⟨b1, 0, none⟩)), (4, 0, .slice none 0 0), (6, 0, .pointer (some ⟨b2, 0, none⟩)), (7, 0, .bool f7), (8, 0, .bool f8), (9, 0, .int .i64 ((k : Nat) : Int)), (11, 0, .pointer (some ⟨b1, 0, none⟩)), (12, 0, .slice aao an acap), (13, 0, .int .i64 ((i : Nat) : Int)), (14, 0, .pointer (some ⟨blk aao, off aao + i * 5, none⟩)), (15, 0, .agg #[.string ((nth al i).1), .string ((nth al i).2.1), .string ((nth al i).2.2.1), .int .i64 ((nth al i).2.2.2.1), .slice ((nth al i).2.2.2.2.ao) ((nth al i).2.2.2.2.l.length) ((nth al i).2.2.2.2.cap)]), (35, 0, .int .i64 ((k : Nat) : Int)), (36, 0, .int .i64 ((i : Nat) : Int)), (37, 0, .bool (decide (((k : Nat) : Int) < ((i : Nat) : Int)))), (5, 0, .slice q_.1 q_.2.2.1 q_.2.1)]) (H' := fun q_ => [Item.cells b1 [.slice aao an acap, .slice u3.ao u3.l.length u3.cap] 39, Item.own w0.heap.size q_.1 q_.2.2.1 q_.2.1 31 1 (cellsOf encI (q_.2.2.2)), Item.cells b2 [.string ((nth al i).1), .string ((nth al i).2.1), .string ((nth al i).2.2.1), .int .i64 ((nth al i).2.2.2.1), .slice ((nth al i).2.2.2.2.ao) ((nth al i).2.2.2.2.l.length) ((nth al i).2.2.2.2.cap)] 88]) (I := fun q_ => LnB q_.2.2.2 q_.2.2.1 2) 3 ((a1_, c1_, n1_, L1_)) ((by first | exact hF1.mono (by omega) | exact (hF1.snoc).mono (by omega) | exact (hF1.snoc.snoc).mono (by omega) | exact (hF1.snoc.snoc.snoc).mono (by omega))) ⟨rfl, rfl, rfl, rfl, rfl, rfl, rfl, rfl, rfl, rfl, rfl, rfl, rfl, rfl, rfl, rfl, rfl, rfl, rfl, rfl, rfl, rfl, rfl, rfl, rfl, rfl, rfl, rfl, rfl, rfl, rfl, rfl, rfl, rfl, trivial⟩ rfl
    rintro ⟨a3_, c3_, n3_, L3_⟩ hF3
    try dsimp only at *
    have hFl3 := hF3.le
    refine WC.cutx (σ := Option Addr × Nat × Nat × List Int) (fun q_ => [(0, 0, .agg #[.slice aao an acap, .slice u3.ao u3.l.length u3.cap]), (1, 0, .int .i64 ((i : Nat) : Int)), (2, 0, .pointer (some ⟨b1, 0, none⟩)), (4, 0, .slice none 0 0), (6, 0, .pointer (some ⟨b2, 0, none⟩)), (7, 0, .bool f7), (8, 0, .bool f8), (9, 0, .int .i64 ((k : Nat) : Int)), (11, 0, .pointer (some ⟨b1, 0, none⟩)), (12, 0, .slice aao an acap), (13, 0, .int .i64 ((i : Nat) : Int)), (14, 0, .pointer (some ⟨blk aao, off aao + i * 5, none⟩)), (15, 0, .agg #[.string ((nth al i).1), .string ((nth al i).2.1), .string ((nth al i).2.2.1), .int .i64 ((nth al i).2.2.2.1), .slice ((nth al i).2.2.2.2.ao) ((nth al i).2.2.2.2.l.length) ((nth al i).2.2.2.2.cap)]), (35, 0, .int .i64 ((k : Nat) : Int)), (36, 0, .int .i64 ((i : Nat) : Int)), (37, 0, .bool (decide (((k : Nat) : Int) < ((i : Nat) : Int)))), (5, 0, .slice q_.1 q_.2.2.1 q_.2.1)]) (fun q_ => [Item.cells b1 [.slice aao an acap, .slice u3.ao u3.l.length u3.cap] 39, Item.own w0.heap.size q_.1 q_.2.2.1 q_.2.1 31 1 (cellsOf encI (q_.2.2.2)), Item.cells b2 [.string ((nth al i).1), .string ((nth al i).2.1), .string ((nth al i).2.2.1), .int .i64 ((nth al i).2.2.2.1), .slice ((nth al i).2.2.2.2.ao) ((nth al i).2.2.2.2.l.length) ((nth al i).2.2.2.2.cap)] 88]) (fun q_ => LnB q_.2.2.2 q_.2.2.1 3) ?_ ?_
    · skip
      refine WC.seq ?_
      refine WC.region ?_
      refine SL.pure rfl rfl rfl (PureOp.move rfl) ?_
      refine SL.nil_then ?_
      refine WC.cond rfl (fun h4 => ?_) (fun h4 => ?_)
      · try simp only [Bool.and_eq_true, Bool.or_eq_true, Bool.not_eq_true', Bool.not_eq_false', Bool.and_eq_false_iff, Bool.or_eq_false_iff, decide_eq_true_eq, decide_eq_false_iff_not, Int.not_lt, Int.not_le, ne_eq, Decidable.not_not] at h4
        refine WC.region ?_
        refine SL.pure rfl rfl rfl (PureOp.move rfl) ?_
        refine SL.buildSlice rfl rfl Try.underlying89 elem31 rfl rfl rfl rfl (fun b5 hb5 => ?_)
        refine SL.norm [_, _, _, _] rfl ?_
        refine SL.append 1 rfl rfl Try.underlying89 elem31 rfl rfl rfl rfl (SrcIs.own 3 rfl) (by rfl) (by omega) (by omega) (fun ao3_ cap3_ => ?_)
        refine SL.itemxs 1 rfl (show _ = cellsOf encI (L3_ ++ [(8 : Int)]) from by rw [cellsOf_append (l := L3_), cellsOf_one]; rfl) ?_
        refine SL.norm [_, _, _, _] rfl ?_
        refine SL.pure rfl rfl rfl (PureOp.assign rfl) ?_
        refine SL.nil ?_
        refine QX.cutx (σ := Option Addr × Nat × Nat × List Int) (E' := fun q_ => [(0, 0, .agg #[.slice aao an acap, .slice u3.ao u3.l.length u3.cap]), (1, 0, .int .i64 ((i : Nat) : Int)), (2, 0, .pointer (some ⟨b1, 0, none⟩)), (4, 0, .slice none 0 0), (6, 0, .pointer (some ⟨b2, 0, none⟩)), (7, 0, .bool f7), (8, 0, .bool f8), (9, 0, .int .i64 ((k : Nat) : Int)), (11, 0, .pointer (some ⟨b1, 0, none⟩)), (12, 0, .slice aao an acap), (13, 0, .int .i64 ((i : Nat) : Int)), (14, 0, .pointer (some ⟨blk aao, off aao + i * 5, none⟩)), (15, 0, .agg #[.string ((nth al i).1), .string ((nth al i).2.1), .string ((nth al i).2.2.1), .int .i64 ((nth al i).2.2.2.1), .slice ((nth al i).2.2.2.2.ao) ((nth al i).2.2.2.2.l.length) ((nth al i).2.2.2.2.cap)]), (35, 0, .int .i64 ((k : Nat) : Int)), (36, 0, .int .i64 ((i : Nat) : Int)), (37, 0, .bool (decide (((k : Nat) : Int) < ((i : Nat) : Int)))), (5, 0, .slice q_.1 q_.2.2.1 q_.2.1)]) (H' := fun q_ => [Item.cells b1 [.slice aao an acap, .slice u3.ao u3.l.length u3.cap] 39, Item.own w0.heap.size q_.1 q_.2.2.1 q_.2.1 31 1 (cellsOf encI (q_.2.2.2)), Item.cells b2 [.string ((nth al i).1), .string ((nth al i).2.1), .string ((nth al i).2.2.1), .int .i64 ((nth al i).2.2.2.1), .slice ((nth al i).2.2.2.2.ao) ((nth al i).2.2.2.2.l.length) ((nth al i).2.2.2.2.cap)] 88]) (I := fun q_ => LnB q_.2.2.2 q_.2.2.1 3) 3 ((ao3_, cap3_, n3_ + 1, L3_ ++ [(8 : Int)])) ((by first | exact hF3.mono (by omega) | exact (hF3.snoc).mono (by omega) | exact (hF3.snoc.snoc).mono (by omega) | exact (hF3.snoc.snoc.snoc).mono (by omega))) ⟨rfl, rfl, rfl, rfl, rfl, rfl, rfl, rfl, rfl, rfl, rfl, rfl, rfl, rfl, rfl, rfl, rfl, rfl, rfl, rfl, rfl, rfl, rfl, rfl, rfl, rfl, rfl, rfl, rfl, rfl, rfl, rfl, rfl, rfl, trivial⟩ rfl
      · try simp only [Bool.and_eq_true, Bool.or_eq_true, Bool.not_eq_true', Bool.not_eq_false', Bool.and_eq_false_iff, Bool.or_eq_false_iff, decide_eq_true_eq, decide_eq_false_iff_not, Int.not_lt, Int.not_le, ne_eq, Decidable.not_not] at h4
        refine WC.skip ?_
        refine QX.cutx (σ := Option Addr × Nat × Nat × List Int) (E' := fun q_ => [(0, 0, .agg #[.slice aao an acap, .slice u3.ao u3.l.length u3.cap]), (1, 0, .int .i64 ((i : Nat) : Int)), (2, 0, .pointer (some ⟨b1, 0, none⟩)), (4, 0, .slice none 0 0), (6, 0, .pointer (some ⟨b2, 0, none⟩)), (7, 0, .bool f7), (8, 0, .bool f8), (9, 0, .int .i64 ((k : Nat) : Int)), (11, 0, .pointer (some ⟨b1, 0, none⟩)), (12, 0, .slice aao an acap), (13, 0, .int .i64 ((i : Nat) : Int)), (14, 0, .pointer (some ⟨blk aao, off aao + i * 5, none⟩)), (15, 0, .agg #[.string ((nth al i).1), .string ((nth al i).2.1), .string ((nth al i).2.2.1), .int .i64 ((nth al i).2.2.2.1), .slice ((nth al i).2.2.2.2.ao) ((nth al i).2.2.2.2.l.length) ((nth al i).2.2.2.2.cap)]), (35, 0, .int .i64 ((k : Nat) : Int)), (36, 0, .int .i64 ((i : Nat) : Int)), (37, 0, .bool (decide (((k : Nat) : Int) < ((i : Nat) : Int)))), (5, 0, .slice q_.1 q_.2.2.1 q_.2.1)]) (H' := fun q_ => [Item.cells b1 [.slice aao an acap, .slice u3.ao u3.l.length u3.cap] 39, Item.own w0.heap.size q_.1 q_.2.2.1 q_.2.1 31 1 (cellsOf encI (q_.2.2.2)), Item.cells b2 [.string ((nth al i).1), .string ((nth al i).2.1), .string ((nth al i).2.2.1), .int .i64 ((nth al i).2.2.2.1), .slice ((nth al i).2.2.2.2.ao) ((nth al i).2.2.2.2.l.length) ((nth al i).2.2.2.2.cap)] 88]) (I := fun q_ => LnB q_.2.2.2 q_.2.2.1 3) 3 ((a3_, c3_, n3_, L3_)) ((by first | exact hF3.mono (by omega) | exact (hF3.snoc).mono (by omega) | exact (hF3.snoc.snoc).mono (by omega) | exact (hF3.snoc.snoc.snoc).mono (by omega))) ⟨rfl, rfl, rfl, rfl, rfl, rfl, rfl, rfl, rfl, rfl, rfl, rfl, rfl, rfl, rfl, rfl, rfl, rfl, rfl, rfl, rfl, rfl, rfl, rfl, rfl, rfl, rfl, rfl, rfl, rfl, rfl, rfl, rfl, rfl, trivial⟩ rfl
    rintro ⟨a4_, c4_, n4_, L4_⟩ hF4
    try dsimp only at *
    have hFl4 := hF4.le
    refine WC.seq ?_
    refine WC.region ?_
    refine SL.pure rfl rfl rfl (PureOp.fieldAddrT 3 Try.underlying88 rfl sz86 rfl rfl) ?_
    refine SL.pure rfl rfl rfl (PureOp.loads (vs := [.int .i64 ((nth al i).2.2.2.1), .slice ((nth al i).2.2.2.2.ao) ((nth al i).2.2.2.2.l.length) ((nth al i).2.2.2.2.cap)]) Try.underlying86 rfl rfl (fun _ => (RowIs.cells 2 3 2 rfl rfl)) sz86) ?_
    refine SL.callv rfl rfl rfl rfl rfl rfl callable55 (fun w hw => zone_any (nth al i).2.2.2.1 (nth al i).2.2.2.2.l _ _ _ rfl w (hA.sh.below hw.below)) ?_
    rintro v ⟨ze, rfl, hz⟩
    refine SL.norm [_, _, _] rfl ?_
    refine SL.pure rfl rfl rfl (PureOp.assign rfl) ?_
    refine SL.nil_then ?_
    refine WC.seq ?_
    refine WC.seq ?_
    refine WC.region ?_
    refine SL.pure rfl rfl rfl (PureOp.move rfl) ?_
    refine SL.pure rfl rfl rfl (PureOp.neq rfl rfl) ?_
    refine SL.nil_then ?_
    refine WC.cond rfl (fun h5 => ?_) (fun h5 => ?_)
    · try simp only [Bool.and_eq_true, Bool.or_eq_true, Bool.not_eq_true', Bool.not_eq_false', Bool.and_eq_false_iff, Bool.or_eq_false_iff, decide_eq_true_eq, decide_eq_false_iff_not, Int.not_lt, Int.not_le, ne_eq, Decidable.not_not] at h5
      refine WC.region ?_
      refine SL.pure rfl rfl rfl (PureOp.move rfl) ?_
      refine SL.pure rfl rfl rfl (PureOp.move rfl) ?_
      refine SL.buildSlice rfl rfl Try.underlying89 elem31 rfl rfl rfl rfl (fun b6 hb6 => ?_)
      refine SL.norm [_, _, _, _] rfl ?_
      refine SL.append 1 rfl rfl Try.underlying89 elem31 rfl rfl rfl rfl (SrcIs.own 3 rfl) (by rfl) (by omega) (by omega) (fun ao4_ cap4_ => ?_)
      refine SL.itemxs 1 rfl (show _ = cellsOf encI (L4_ ++ [(ze : Int)]) from by rw [cellsOf_append (l := L4_), cellsOf_one]; rfl) ?_
      refine SL.norm [_, _, _, _] rfl ?_
      refine SL.pure rfl rfl rfl (PureOp.assign rfl) ?_
      refine SL.nil_then ?_
      refine WC.seq ?_
      refine WC.region ?_
      refine SL.pure rfl rfl rfl (PureOp.move rfl) ?_
      refine SL.pure rfl rfl rfl (PureOp.assign rfl) ?_
      refine SL.nil_then ?_
      refine WC.ret ?_
      refine QX.ret1 rfl rfl ?_
      intro w hw
      exact ⟨_, _, _, _, rfl, ⟨hF4.snoc.mono (by omega), fun q => absurd q (by omega)⟩, hw.mem (i := 1) rfl⟩
    · try simp only [Bool.and_eq_true, Bool.or_eq_true, Bool.not_eq_true', Bool.not_eq_false', Bool.and_eq_false_iff, Bool.or_eq_false_iff, decide_eq_true_eq, decide_eq_false_iff_not, Int.not_lt, Int.not_le, ne_eq, Decidable.not_not] at h5
      refine WC.skip ?_
      refine QX.then_ ?_
      refine WC.seq ?_
      refine WC.region ?_
      refine SL.pure rfl rfl rfl (PureOp.move rfl) ?_
      refine SL.pure rfl rfl rfl (PureOp.assign rfl) ?_
      refine SL.nil_then ?_
      refine WC.ret ?_
      refine QX.ret1 rfl rfl ?_
      intro w hw
      exact ⟨_, _, _, _, rfl, ⟨hF4.mono (by omega), fun _ => hz (by omega)⟩, hw.mem (i := 1) rfl⟩

set_option maxHeartbeats 4000000 in
set_option maxRecDepth 100000 in
theorem distance_any (u3 : SliceV Unit) (al : List Ai) (aao : Option Addr) (an acap : Nat) (han : an = al.length) (w0 : World) (sA : SliceIn w0 5 aao an acap (rowsF enc88 al)) (hab : an ≤ 1000) (dl : List (ByteArray × ByteArray × Int)) (hdl : dl.length = u3.l.length) (sD : SliceIn w0 3 u3.ao u3.l.length u3.cap (rowsF enc117 dl)) (hdb : u3.l.length ≤ 1000) (i : Nat) (hi : i < u3.l.length) : FnC Try.prog 38 [.agg #[.slice aao an acap, .slice u3.ao u3.l.length u3.cap], .int .i64 ((i : Nat) : Int)] w0 fun v w' => ∃ a cp n L, v = .slice a n cp ∧ LnB L n 3 ∧ w'.ownsRow w0.heap.size 31 1 (.slice a n cp) n (cellsOf encI L) := by
  refine fnc (N := 99) Try.func38 rfl rfl rfl ?_
  refine WC.seq ?_
  refine WC.region ?_
  refine SL.box rfl rfl rfl (fun b1 hb1 => ?_)
  refine SL.norm [_] rfl ?_
  refine SL.pure rfl rfl rfl (PureOp.assign rfl) ?_
  refine SL.nil_then ?_
  refine WC.seq ?_
  refine WC.region ?_
  refine SL.addnil 31 1 ?_
  refine SL.pure rfl rfl rfl (PureOp.assign rfl) ?_
  refine SL.nil_then ?_
  refine WC.seq ?_
  refine WC.region ?_
  refine SL.pure rfl rfl rfl (PureOp.fieldAddrT 1 Try.underlying39 rfl sz37 rfl rfl) ?_
  refine SL.pure rfl rfl rfl (PureOp.load (v := .slice u3.ao u3.l.length u3.cap) Try.underlying37 rfl rfl (fun _ => (CellIs.cells 0 rfl rfl))) ?_
  refine SL.pure rfl rfl rfl (PureOp.move rfl) ?_
  refine SL.pure rfl rfl rfl (PureOp.indexAddrN Try.underlying37 sz117 rfl rfl (AoOk.in_ sD) (fun _ => by omega)) ?_
  refine SL.pure rfl rfl rfl (PureOp.loads (vs := [.string ((nth dl i).1), .string ((nth dl i).2.1), .int .i64 ((nth dl i).2.2)]) Try.underlying117 rfl rfl (fun _ => (RowIs.in_ sD i 0 3 (by omega) (by omega))) sz117) ?_
  refine SL.alloc rfl rfl zero117 (fun b2 hb2 => ?_)
  refine SL.norm [_, _, _] rfl ?_
  refine SL.store 2 rfl rfl rfl rfl sz117 rfl rfl ?_
  refine SL.norm [_, _, _] rfl ?_
  refine SL.nil_then ?_
  refine WC.seq ?_
  refine WC.region ?_
  refine SL.pure rfl rfl rfl (PureOp.loads (vs := [.slice aao an acap, .slice u3.ao u3.l.length u3.cap]) Try.underlying39 rfl rfl (fun _ => (RowIs.cells 0 0 2 rfl rfl)) sz39) ?_
  refine SL.pure rfl rfl rfl (PureOp.fieldAddrT 0 Try.underlying117 rfl sz9 rfl rfl) ?_
  refine SL.pure rfl rfl rfl (PureOp.load (v := .string ((nth dl i).1)) Try.underlying9 rfl rfl (fun _ => (CellIs.cells 2 rfl rfl))) ?_
  refine SL.callv rfl rfl rfl rfl rfl rfl callable57 (fun w hw => town_any u3 al aao an acap han w (sA.below hw.below) hab (nth dl i).1) ?_
  rintro v ⟨y1, b1_, rfl⟩
  refine SL.norm [_, _, _] rfl ?_
  refine SL.pure rfl rfl rfl (PureOp.move rfl) ?_
  refine SL.pure rfl rfl rfl (PureOp.extract rfl rfl) ?_
  refine SL.pure rfl rfl rfl (PureOp.extract rfl rfl) ?_
  refine SL.alloc rfl rfl zero88 (fun b3 hb3 => ?_)
  refine SL.norm [_, _, _, _] rfl ?_
  refine SL.store 3 rfl rfl rfl rfl sz88 rfl rfl ?_
  refine SL.norm [_, _, _, _] rfl ?_
  refine SL.pure rfl rfl rfl (PureOp.assign rfl) ?_
  refine SL.nil_then ?_
  refine WC.seq ?_
  refine WC.region ?_
  refine SL.pure rfl rfl rfl (PureOp.loads (vs := [.slice aao an acap, .slice u3.ao u3.l.length u3.cap]) Try.underlying39 rfl rfl (fun _ => (RowIs.cells 0 0 2 rfl rfl)) sz39) ?_
  refine SL.pure rfl rfl rfl (PureOp.fieldAddrT 1 Try.underlying117 rfl sz9 rfl rfl) ?_
  refine SL.pure rfl rfl rfl (PureOp.load (v := .string ((nth dl i).2.1)) Try.underlying9 rfl rfl (fun _ => (CellIs.cells 2 rfl rfl))) ?_
  refine SL.callv rfl rfl rfl rfl rfl rfl callable57 (fun w hw => town_any u3 al aao an acap han w (sA.below hw.below) hab (nth dl i).2.1) ?_
  rintro v ⟨y2, b2_, rfl⟩
  refine SL.norm [_, _, _, _] rfl ?_
  refine SL.pure rfl rfl rfl (PureOp.move rfl) ?_
  refine SL.pure rfl rfl rfl (PureOp.extract rfl rfl) ?_
  refine SL.pure rfl rfl rfl (PureOp.extract rfl rfl) ?_
  refine SL.alloc rfl rfl zero88 (fun b4 hb4 => ?_)
  refine SL.norm [_, _, _, _, _] rfl ?_
  refine SL.store 4 rfl rfl rfl rfl sz88 rfl rfl ?_
  refine SL.norm [_, _, _, _, _] rfl ?_
  refine SL.pure rfl rfl rfl (PureOp.assign rfl) ?_
  refine SL.nil_then ?_
  refine WC.cutx (σ := Option Addr × Nat × Nat × List Int) (fun q_ => [(0, 0, .agg #[.slice aao an acap, .slice u3.ao u3.l.length u3.cap]), (1, 0, .int .i64 ((i : Nat) : Int)), (2, 0, .pointer (some ⟨b1, 0, none⟩)), (4, 0, .slice none 0 0), (6, 0, .pointer (some ⟨b2, 0, none⟩)), (7, 0, .pointer (some ⟨b3, 0, none⟩)), (8, 0, .bool b1_), (9, 0, .pointer (some ⟨b4, 0, none⟩)), (10, 0, .bool b2_), (14, 0, .pointer (some ⟨b1, 1, none⟩)), (15, 0, .slice u3.ao u3.l.length u3.cap), (16, 0, .int .i64 ((i : Nat) : Int)), (17, 0, .pointer (some ⟨blk u3.ao, off u3.ao + i * 3, none⟩)), (18, 0, .agg #[.string ((nth dl i).1), .string ((nth dl i).2.1), .int .i64 ((nth dl i).2.2)]), (19, 0, .tuple #[.agg #[.string y1.1, .string y1.2.1, .string y1.2.2.1, .int .i64 y1.2.2.2.1, .slice y1.2.2.2.2.ao y1.2.2.2.2.l.length y1.2.2.2.2.cap], .bool b1_]), (20, 0, .agg #[.slice aao an acap, .slice u3.ao u3.l.length u3.cap]), (21, 0, .pointer (some ⟨b2, 0, none⟩)), (22, 0, .string ((nth dl i).1)), (23, 0, .tuple #[.agg #[.string y1.1, .string y1.2.1, .string y1.2.2.1, .int .i64 y1.2.2.2.1, .slice y1.2.2.2.2.ao y1.2.2.2.2.l.length y1.2.2.2.2.cap], .bool b1_]), (24, 0, .agg #[.string y1.1, .string y1.2.1, .string y1.2.2.1, .int .i64 y1.2.2.2.1, .slice y1.2.2.2.2.ao y1.2.2.2.2.l.length y1.2.2.2.2.cap]), (25, 0, .bool b1_), (26, 0, .tuple #[.agg #[.string y2.1, .string y2.2.1, .string y2.2.2.1, .int .i64 y2.2.2.2.1, .slice y2.2.2.2.2.ao y2.2.2.2.2.l.length y2.2.2.2.2.cap], .bool b2_]), (27, 0, .agg #[.slice aao an acap, .slice u3.ao u3.l.length u3.cap]), (28, 0, .pointer (some ⟨b2, 1, none⟩)), (29, 0, .string ((nth dl i).2.1)), (30, 0, .tuple #[.agg #[.string y2.1, .string y2.2.1, .string y2.2.2.1, .int .i64 y2.2.2.2.1, .slice y2.2.2.2.2.ao y2.2.2.2.2.l.length y2.2.2.2.2.cap], .bool b2_]), (31, 0, .agg #[.string y2.1, .string y2.2.1, .string y2.2.2.1, .int .i64 y2.2.2.2.1, .slice y2.2.2.2.2.ao y2.2.2.2.2.l.length y2.2.2.2.2.cap]), (32, 0, .bool b2_), (5, 0, .slice q_.1 q_.2.2.1 q_.2.1)]) (fun q_ => [Item.cells b1 [.slice aao an acap, .slice u3.ao u3.l.length u3.cap] 39, Item.own w0.heap.size q_.1 q_.2.2.1 q_.2.1 31 1 (cellsOf encI (q_.2.2.2)), Item.cells b2 [.string ((nth dl i).1), .string ((nth dl i).2.1), .int .i64 ((nth dl i).2.2)] 117, Item.cells b3 [.string y1.1, .string y1.2.1, .string y1.2.2.1, .int .i64 y1.2.2.2.1, .slice y1.2.2.2.2.ao y1.2.2.2.2.l.length y1.2.2.2.2.cap] 88, Item.cells b4 [.string y2.1, .string y2.2.1, .string y2.2.2.1, .int .i64 y2.2.2.2.1, .slice y2.2.2.2.2.ao y2.2.2.2.2.l.length y2.2.2.2.2.cap] 88]) (fun q_ => LnB q_.2.2.2 q_.2.2.1 1) ?_ ?_
  · skip
    refine WC.seq ?_
    refine WC.region ?_
    refine SL.pure rfl rfl rfl (PureOp.move rfl) ?_
    refine SL.pure rfl rfl rfl (PureOp.not rfl) ?_
    refine SL.pure rfl rfl rfl (PureOp.move rfl) ?_
    refine SL.newg 35 false rfl ?_
    refine SL.gpure (c := 1) rfl rfl rfl rfl rfl rfl rfl (PureOp.move rfl) ?_
    refine SL.gpure (c := 1) rfl rfl rfl rfl rfl rfl rfl (PureOp.not rfl) ?_
    refine SL.pure rfl rfl rfl (PureOp.or_ rfl rfl rfl rfl) ?_
    refine SL.nil_then ?_
    refine WC.cond rfl (fun h1 => ?_) (fun h1 => ?_)
    · try simp only [Bool.and_eq_true, Bool.or_eq_true, Bool.not_eq_true', Bool.not_eq_false', Bool.and_eq_false_iff, Bool.or_eq_false_iff, decide_eq_true_eq, decide_eq_false_iff_not, Int.not_lt, Int.not_le, ne_eq, Decidable.not_not] at h1
      refine WC.region ?_
      refine SL.pure rfl rfl rfl (PureOp.move rfl) ?_
      refine SL.buildSlice rfl rfl Try.underlying89 elem31 rfl rfl rfl rfl (fun b5 hb5 => ?_)
      refine SL.norm [_, _, _, _, _, _] rfl ?_
      refine SL.append 1 rfl rfl Try.underlying89 elem31 rfl rfl rfl rfl (SrcIs.own 5 rfl) (by rfl) (by omega) (by omega) (fun ao1_ cap1_ => ?_)
      refine SL.itemxs 1 rfl (show _ = cellsOf encI ([] ++ [(14 : Int)]) from by rw [cellsOf_append (l := ([])), cellsOf_one]; rfl) ?_
      refine SL.norm [_, _, _, _, _, _] rfl ?_
      refine SL.pure rfl rfl rfl (PureOp.assign rfl) ?_
      refine SL.nil ?_
      refine QX.cutx (σ := Option Addr × Nat × Nat × List Int) (E' := fun q_ => [(0, 0, .agg #[.slice aao an acap, .slice u3.ao u3.l.length u3.cap]), (1, 0, .int .i64 ((i : Nat) : Int)), (2, 0, .pointer (some ⟨b1, 0, none⟩)), (4, 0, .slice none 0 0), (6, 0, .pointer (some ⟨b2, 0, none⟩)), (7, 0, .pointer (some ⟨b3, 0, none⟩)), (8, 0, .bool b1_), (9, 0, .pointer (some ⟨b4, 0, none⟩)), (10, 0, .bool b2_), (14, 0, .pointer (some ⟨b1, 1, none⟩)), (15, 0, .slice u3.ao u3.l.length u3.cap), (16, 0, .int .i64 ((i : Nat) : Int)), (17, 0, .pointer (some ⟨blk u3.ao, off u3.ao + i * 3, none⟩)), (18, 0, .agg #[.string ((nth dl i).1), .string ((nth dl i).2.1), .int .i64 ((nth dl i).2.2)]), (19, 0, .tuple #[.agg #[.string y1.1, .string y1.2.1, .string y1.2.2.1, .int .i64 y1.2.2.2.1, .slice y1.2.2.2.2.ao y1.2.2.2.2.l.length y1.2.2.2.2.cap], .bool b1_]), (20, 0, .agg #[.slice aao an acap, .slice u3.ao u3.l.length u3.cap]), (21, 0, .pointer (some ⟨b2, 0, none⟩)), (22, 0, .string ((nth dl i).1)), (23, 0, .tuple #[.agg #[.string y1.1, .string y1.2.1, .string y1.2.2.1, .int .i64 y1.2.2.2.1, .slice y1.2.2.2.2.ao y1.2.2.2.2.l.length y1.2.2.2.2.cap], .bool b1_]), (24, 0, .agg #[.string y1.1, .string y1.2.1, .string y1.2.2.1, .int .i64 y1.2.2.2.1, .slice y1.2.2.2.2.ao y1.2.2.2.2.l.length y1.2.2.2.2.cap]), (25, 0, .bool b1_), (26, 0, .tuple #[.agg #[.string y2.1, .string y2.2.1, .string y2.2.2.1, .int .i64 y2.2.2.2.1, .slice y2.2.2.2.2.ao y2.2.2.2.2.l.length y2.2.2.2.2.cap], .bool b2_]), (27, 0, .agg #[.slice aao an acap, .slice u3.ao u3.l.length u3.cap]), (28, 0, .pointer (some ⟨b2, 1, none⟩)), (29, 0, .string ((nth dl i).2.1)), (30, 0, .tuple #[.agg #[.string y2.1, .string y2.2.1, .string y2.2.2.1, .int .i64 y2.2.2.2.1, .slice y2.2.2.2.2.ao y2.2.2.2.2.l.length y2.2.2.2.2.cap], .bool b2_]), (31, 0, .agg #[.string y2.1, .string y2.2.1, .string y2.2.2.1, .int .i64 y2.2.2.2.1, .slice y2.2.2.2.2.ao y2.2.2.2.2.l.length y2.2.2.2.2.cap]), (32, 0, .bool b2_), (5, 0, .slice q_.1 q_.2.2.1 q_.2.1)]) (H' := fun q_ => [Item.cells b1 [.slice aao an acap, .slice u3.ao u3.l.length u3.cap] 39, Item.own w0.heap.size q_.1 q_.2.2.1 q_.2.1 31 1 (cellsOf encI (q_.2.2.2)), Item.cells b2 [.string ((nth dl i).1), .string ((nth dl i).2.1), .int .i64 ((nth dl i).2.2)] 117, Item.cells b3 [.string y1.1, .string y1.2.1, .string y1.2.2.1, .int .i64 y1.2.2.2.1, .slice y1.2.2.2.2.ao y1.2.2.2.2.l.length y1.2.2.2.2.cap] 88, Item.cells b4 [.string y2.1, .string y2.2.1, .string y2.2.2.1, .int .i64 y2.2.2.2.1, .slice y2.2.2.2.2.ao y2.2.2.2.2.l.length y2.2.2.2.2.cap] 88]) (I := fun q_ => LnB q_.2.2.2 q_.2.2.1 1) 5 ((ao1_, cap1_, 0 + 1, [] ++ [(14 : Int)])) ((by first | exact LnB.nil.mono (by omega) | exact (LnB.nil.snoc).mono (by omega) | exact (LnB.nil.snoc.snoc).mono (by omega) | exact (LnB.nil.snoc.snoc.snoc).mono (by omega))) ⟨rfl, rfl, rfl, rfl, rfl, rfl, rfl, rfl, rfl, rfl, rfl, rfl, rfl, rfl, rfl, rfl, rfl, rfl, rfl, rfl, rfl, rfl, rfl, rfl, rfl, rfl, rfl, rfl, rfl, rfl, rfl, rfl, rfl, rfl, rfl, rfl, rfl, rfl, rfl, rfl, rfl, rfl, rfl, rfl, rfl, rfl, rfl, rfl, rfl, rfl, rfl, rfl, rfl, rfl, rfl, rfl, rfl, rfl, trivial⟩ rfl
    · try simp only [Bool.and_eq_true, Bool.or_eq_true, Bool.not_eq_true', Bool.not_eq_false', Bool.and_eq_false_iff, Bool.or_eq_false_iff, decide_eq_true_eq, decide_eq_false_iff_not, Int.not_lt, Int.not_le, ne_eq, Decidable.not_not] at h1
      refine WC.skip ?_
      refine QX.cutx (σ := Option Addr × Nat × Nat × List Int) (E' := fun q_ => [(0, 0, .agg #[.slice aao an acap, .slice u3.ao u3.l.length u3.cap]), (1, 0, .int .i64 ((i : Nat) : Int)), (2, 0, .pointer (some ⟨b1, 0, none⟩)), (4, 0, .slice none 0 0), (6, 0, .pointer (some ⟨b2, 0, none⟩)), (7, 0, .pointer (some ⟨b3, 0, none⟩)), (8, 0, .bool b1_), (9, 0, .pointer (some ⟨b4, 0, none⟩)), (10, 0, .bool b2_), (14, 0, .pointer (some ⟨b1, 1, none⟩)), (15, 0, .slice u3.ao u3.l.length u3.cap), (16, 0, .int .i64 ((i : Nat) : Int)), (17, 0, .pointer (some ⟨blk u3.ao, off u3.ao + i * 3, none⟩)), (18, 0, .agg #[.string ((nth dl i).1), .string ((nth dl i).2.1), .int .i64 ((nth dl i).2.2)]), (19, 0, .tuple #[.agg #[.string y1.1, .string y1.2.1, .string y1.2.2.1, .int .i64 y1.2.2.2.1, .slice y1.2.2.2.2.ao y1.2.2.2.2.l.length y1.2.2.2.2.cap], .bool b1_]), (20, 0, .agg #[.slice aao an acap, .slice u3.ao u3.l.length u3.cap]), (21, 0, .pointer (some ⟨b2, 0, none⟩)), (22, 0, .string ((nth dl i).1)), (23, 0, .tuple #[.agg #[.string y1.1, .string y1.2.1, .string y1.2.2.1, .int .i64 y1.2.2.2.1, .slice y1.2.2.2.2.ao y1.2.2.2.2.l.length y1.2.2.2.2.cap], .bool b1_]), (24, 0, .agg #[.string y1.1, .string y1.2.1, .string y1.2.2.1, .int .i64 y1.2.2.2.1, .slice y1.2.2.2.2.ao y1.2.2.2.2.l.length y1.2.2.2.2.cap]), (25, 0, .bool b1_), (26, 0, .tuple #[.agg #[.string y2.1, .string y2.2.1, .string y2.2.2.1, .int .i64 y2.2.2.2.1, .slice y2.2.2.2.2.ao y2.2.2.2.2.l.length y2.2.2.2.2.cap], .bool b2_]), (27, 0, .agg #[.slice aao an acap, .slice u3.ao u3.l.length u3.cap]), (28, 0, .pointer (some ⟨b2, 1, none⟩)), (29, 0, .string ((nth dl i).2.1)), (30, 0, .tuple #[.agg #[.string y2.1, .string y2.2.1, .string y2.2.2.1, .int .i64 y2.2.2.2.1, .slice y2.2.2.2.2.ao y2.2.2.2.2.l.length y2.2.2.2.2.cap], .bool b2_]), (31, 0, .agg #[.string y2.1, .string y2.2.1, .string y2.2.2.1, .int .i64 y2.2.2.2.1, .slice y2.2.2.2.2.ao y2.2.2.2.2.l.length y2.2.2.2.2.cap]), (32, 0, .bool b2_), (5, 0, .slice q_.1 q_.2.2.1 q_.2.1)]) (H' := fun q_ => [Item.cells b1 [.slice aao an acap, .slice u3.ao u3.l.length u3.cap] 39, Item.own w0.heap.size q_.1 q_.2.2.1 q_.2.1 31 1 (cellsOf encI (q_.2.2.2)), Item.cells b2 [.string ((nth dl i).1), .string ((nth dl i).2.1), .int .i64 ((nth dl i).2.2)] 117, Item.cells b3 [.string y1.1, .string y1.2.1, .string y1.2.2.1, .int .i64 y1.2.2.2.1, .slice y1.2.2.2.2.ao y1.2.2.2.2.l.length y1.2.2.2.2.cap] 88, Item.cells b4 [.string y2.1, .string y2.2.1, .string y2.2.2.1, .int .i64 y2.2.2.2.1, .slice y2.2.2.2.2.ao y2.2.2.2.2.l.length y2.2.2.2.2.cap] 88]) (I := fun q_ => LnB q_.2.2.2 q_.2.2.1 1) 5 ((none, 0, 0, [])) ((by first | exact LnB.nil.mono (by omega) | exact (LnB.nil.snoc).mono (by omega) | exact (LnB.nil.snoc.snoc).mono (by omega) | exact (LnB.nil.snoc.snoc.snoc).mono (by omega))) ⟨rfl, rfl, rfl, rfl, rfl, rfl, rfl, rfl, rfl, rfl, rfl, rfl, rfl, rfl, rfl, rfl, rfl, rfl, rfl, rfl, rfl, rfl, rfl, rfl, rfl, rfl, rfl, rfl, rfl, rfl, rfl, rfl, rfl, rfl, rfl, rfl, rfl, rfl, rfl, rfl, rfl, rfl, rfl, rfl, rfl, rfl, rfl, rfl, rfl, rfl, rfl, rfl, rfl, rfl, rfl, rfl, rfl, rfl, trivial⟩ rfl
  rintro ⟨a1_, c1_, n1_, L1_⟩ hF1
  try dsimp only at *
  have hFl1 := hF1.le
  refine WC.seq ?_
  refine WC.region ?_
  refine SL.pure rfl rfl rfl (PureOp.assign rfl) ?_
  refine SL.nil_then ?_
  refine WC.seq ?_
  refine WC.seq ?_
  refine WC.region ?_
  refine SL.pure rfl rfl rfl (PureOp.assign rfl) ?_
  refine SL.nil_then ?_
  refine WC.block ?_
  refine WC.loop (σ := Nat × Bool) (fun q_ => [(0, 0, .agg #[.slice aao an acap, .slice u3.ao u3.l.length u3.cap]), (1, 0, .int .i64 ((i : Nat) : Int)), (2, 0, .pointer (some ⟨b1, 0, none⟩)), (4, 0, .slice none 0 0), (5, 0, .slice a1_ n1_ c1_), (6, 0, .pointer (some ⟨b2, 0, none⟩)), (7, 0, .pointer (some ⟨b3, 0, none⟩)), (8, 0, .bool b1_), (9, 0, .pointer (some ⟨b4, 0, none⟩)), (10, 0, .bool b2_), (14, 0, .pointer (some ⟨b1, 1, none⟩)), (15, 0, .slice u3.ao u3.l.length u3.cap), (16, 0, .int .i64 ((i : Nat) : Int)), (17, 0, .pointer (some ⟨blk u3.ao, off u3.ao + i * 3, none⟩)), (18, 0, .agg #[.string ((nth dl i).1), .string ((nth dl i).2.1), .int .i64 ((nth dl i).2.2)]), (19, 0, .tuple #[.agg #[.string y1.1, .string y1.2.1, .string y1.2.2.1, .int .i64 y1.2.2.2.1, .slice y1.2.2.2.2.ao y1.2.2.2.2.l.length y1.2.2.2.2.cap], .bool b1_]), (20, 0, .agg #[.slice aao an acap, .slice u3.ao u3.l.length u3.cap]), (21, 0, .pointer (some ⟨b2, 0, none⟩)), (22, 0, .string ((nth dl i).1)), (23, 0, .tuple #[.agg #[.string y1.1, .string y1.2.1, .string y1.2.2.1, .int .i64 y1.2.2.2.1, .slice y1.2.2.2.2.ao y1.2.2.2.2.l.length y1.2.2.2.2.cap], .bool b1_]), (24, 0, .agg #[.string y1.1, .string y1.2.1, .string y1.2.2.1, .int .i64 y1.2.2.2.1, .slice y1.2.2.2.2.ao y1.2.2.2.2.l.length y1.2.2.2.2.cap]), (25, 0, .bool b1_), (26, 0, .tuple #[.agg #[.string y2.1, .string y2.2.1, .string y2.2.2.1, .int .i64 y2.2.2.2.1, .slice y2.2.2.2.2.ao y2.2.2.2.2.l.length y2.2.2.2.2.cap], .bool b2_]), (27, 0, .agg #[.slice aao an acap, .slice u3.ao u3.l.length u3.cap]), (28, 0, .pointer (some ⟨b2, 1, none⟩)), (29, 0, .string ((nth dl i).2.1)), (30, 0, .tuple #[.agg #[.string y2.1, .string y2.2.1, .string y2.2.2.1, .int .i64 y2.2.2.2.1, .slice y2.2.2.2.2.ao y2.2.2.2.2.l.length y2.2.2.2.2.cap], .bool b2_]), (31, 0, .agg #[.string y2.1, .string y2.2.1, .string y2.2.2.1, .int .i64 y2.2.2.2.1, .slice y2.2.2.2.2.ao y2.2.2.2.2.l.length y2.2.2.2.2.cap]), (32, 0, .bool b2_), (12, 0, .int .i64 ((q_.1 : Nat) : Int)), (11, 0, .bool q_.2)]) (fun q_ => [Item.cells b1 [.slice aao an acap, .slice u3.ao u3.l.length u3.cap] 39, Item.own w0.heap.size a1_ n1_ c1_ 31 1 (cellsOf encI (L1_)), Item.cells b2 [.string ((nth dl i).1), .string ((nth dl i).2.1), .int .i64 ((nth dl i).2.2)] 117, Item.cells b3 [.string y1.1, .string y1.2.1, .string y1.2.2.1, .int .i64 y1.2.2.2.1, .slice y1.2.2.2.2.ao y1.2.2.2.2.l.length y1.2.2.2.2.cap] 88, Item.cells b4 [.string y2.1, .string y2.2.1, .string y2.2.2.1, .int .i64 y2.2.2.2.1, .slice y2.2.2.2.2.ao y2.2.2.2.2.l.length y2.2.2.2.2.cap] 88]) (fun q_ => q_.1 ≤ i) (fun q_ => i - q_.1) 5 ((0, false)) (Nat.zero_le _) ⟨rfl, rfl, rfl, rfl, rfl, rfl, rfl, rfl, rfl, rfl, rfl, rfl, rfl, rfl, rfl, rfl, rfl, rfl, rfl, rfl, rfl, rfl, rfl, rfl, rfl, rfl, rfl, rfl, rfl, rfl, rfl, rfl, rfl, rfl, rfl, rfl, rfl, rfl, rfl, rfl, rfl, rfl, rfl, rfl, rfl, rfl, rfl, rfl, rfl, rfl, rfl, rfl, rfl, rfl, rfl, rfl, rfl, rfl, rfl, rfl, rfl, rfl, trivial⟩ rfl ?_
  rintro ⟨k, f11⟩ hk
  try dsimp only at *
  refine WC.seq ?_
  refine WC.seq ?_
  refine WC.region ?_
  refine SL.pure rfl rfl rfl (PureOp.move rfl) ?_
  refine SL.pure rfl rfl rfl (PureOp.move rfl) ?_
  refine SL.pure rfl rfl rfl (PureOp.lss rfl rfl) ?_
  refine SL.nil_then ?_
  refine WC.cond rfl (fun h2 => ?_) (fun h2 => ?_)
  · try simp only [Bool.and_eq_true, Bool.or_eq_true, Bool.not_eq_true', Bool.not_eq_false', Bool.and_eq_false_iff, Bool.or_eq_false_iff, decide_eq_true_eq, decide_eq_false_iff_not, Int.not_lt, Int.not_le, ne_eq, Decidable.not_not] at h2
    refine WC.skip ?_
    refine QX.then_ ?_
    refine WC.seq ?_
    refine WC.block ?_
    refine WC.seq ?_
    refine WC.region ?_
    refine SL.pure rfl rfl rfl (PureOp.fieldAddrT 1 Try.underlying39 rfl sz37 rfl rfl) ?_
    refine SL.pure rfl rfl rfl (PureOp.load (v := .slice u3.ao u3.l.length u3.cap) Try.underlying37 rfl rfl (fun _ => (CellIs.cells 0 rfl rfl))) ?_
    refine SL.pure rfl rfl rfl (PureOp.move rfl) ?_
    refine SL.pure rfl rfl rfl (PureOp.indexAddrN Try.underlying37 sz117 rfl rfl (AoOk.in_ sD) (fun _ => by omega)) ?_
    refine SL.pure rfl rfl rfl (PureOp.loads (vs := [.string ((nth dl k).1), .string ((nth dl k).2.1), .int .i64 ((nth dl k).2.2)]) Try.underlying117 rfl rfl (fun _ => (RowIs.in_ sD k 0 3 (by omega) (by omega))) sz117) ?_
    refine SL.alloc rfl rfl zero117 (fun b6 hb6 => ?_)
    refine SL.norm [_, _, _, _, _, _] rfl ?_
    refine SL.store 5 rfl rfl rfl rfl sz117 rfl rfl ?_
    refine SL.norm [_, _, _, _, _, _] rfl ?_
    refine SL.nil_then ?_
    refine WC.region ?_
    refine SL.pure rfl rfl rfl (PureOp.move rfl) ?_
    refine SL.pure rfl rfl rfl (PureOp.move rfl) ?_
    refine SL.newg 53 false rfl ?_
    refine SL.gpure (c := 1) rfl rfl rfl rfl rfl rfl rfl (PureOp.fieldAddrT 0 Try.underlying117 rfl sz9 rfl rfl) ?_
    refine SL.gpure (c := 1) rfl rfl rfl rfl rfl rfl rfl (PureOp.load (v := .string ((nth dl k).1)) Try.underlying9 rfl rfl (fun _ => (CellIs.cells 5 rfl rfl))) ?_
    refine SL.gpure (c := 1) rfl rfl rfl rfl rfl rfl rfl (PureOp.fieldAddrT 0 Try.underlying117 rfl sz9 rfl rfl) ?_
    refine SL.gpure (c := 1) rfl rfl rfl rfl rfl rfl rfl (PureOp.load (v := .string ((nth dl i).1)) Try.underlying9 rfl rfl (fun _ => (CellIs.cells 2 rfl rfl))) ?_
    refine SL.gpure (c := 1) rfl rfl rfl rfl rfl rfl rfl (PureOp.eqls rfl rfl) ?_
    refine SL.gpure (c := 1) rfl rfl rfl rfl rfl rfl rfl (PureOp.move rfl) ?_
    refine SL.newg 59 true rfl ?_
    refine SL.gpure (c := 2) rfl rfl rfl rfl rfl rfl rfl (PureOp.fieldAddrT 1 Try.underlying117 rfl sz9 rfl rfl) ?_
    refine SL.gpure (c := 2) rfl rfl rfl rfl rfl rfl rfl (PureOp.load (v := .string ((nth dl k).2.1)) Try.underlying9 rfl rfl (fun _ => (CellIs.cells 5 rfl rfl))) ?_
    refine SL.gpure (c := 2) rfl rfl rfl rfl rfl rfl rfl (PureOp.fieldAddrT 1 Try.underlying117 rfl sz9 rfl rfl) ?_
    refine SL.gpure (c := 2) rfl rfl rfl rfl rfl rfl rfl (PureOp.load (v := .string ((nth dl i).2.1)) Try.underlying9 rfl rfl (fun _ => (CellIs.cells 2 rfl rfl))) ?_
    refine SL.gpure (c := 2) rfl rfl rfl rfl rfl rfl rfl (PureOp.eqls rfl rfl) ?_
    refine SL.gpure (c := 1) rfl rfl rfl rfl rfl rfl rfl (PureOp.and_ rfl rfl rfl rfl) ?_
    refine SL.pure rfl rfl rfl (PureOp.or_ rfl rfl rfl rfl) ?_
    refine SL.pure rfl rfl rfl (PureOp.move rfl) ?_
    refine SL.newg 67 false rfl ?_
    refine SL.gpure (c := 3) rfl rfl rfl rfl rfl rfl rfl (PureOp.fieldAddrT 0 Try.underlying117 rfl sz9 rfl rfl) ?_
    refine SL.gpure (c := 3) rfl rfl rfl rfl rfl rfl rfl (PureOp.load (v := .string ((nth dl k).1)) Try.underlying9 rfl rfl (fun _ => (CellIs.cells 5 rfl rfl))) ?_
    refine SL.gpure (c := 3) rfl rfl rfl rfl rfl rfl rfl (PureOp.fieldAddrT 1 Try.underlying117 rfl sz9 rfl rfl) ?_
    refine SL.gpure (c := 3) rfl rfl rfl rfl rfl rfl rfl (PureOp.load (v := .string ((nth dl i).2.1)) Try.underlying9 rfl rfl (fun _ => (CellIs.cells 2 rfl rfl))) ?_
    refine SL.gpure (c := 3) rfl rfl rfl rfl rfl rfl rfl (PureOp.eqls rfl rfl) ?_
    refine SL.gpure (c := 3) rfl rfl rfl rfl rfl rfl rfl (PureOp.move rfl) ?_
    refine SL.newg 73 true rfl ?_
    refine SL.gpure (c := 4) rfl rfl rfl rfl rfl rfl rfl (PureOp.fieldAddrT 1 Try.underlying117 rfl sz9 rfl rfl) ?_
    refine SL.gpure (c := 4) rfl rfl rfl rfl rfl rfl rfl (PureOp.load (v := .string ((nth dl k).2.1)) Try.underlying9 rfl rfl (fun _ => (CellIs.cells 5 rfl rfl))) ?_
    refine SL.gpure (c := 4) rfl rfl rfl rfl rfl rfl rfl (PureOp.fieldAddrT 0 Try.underlying117 rfl sz9 rfl rfl) ?_
    refine SL.gpure (c := 4) rfl rfl rfl rfl rfl rfl rfl (PureOp.load (v := .string ((nth dl i).1)) Try.underlying9 rfl rfl (fun _ => (CellIs.cells 2 rfl rfl))) ?_
    refine SL.gpure (c := 4) rfl rfl rfl rfl rfl rfl rfl (PureOp.eqls rfl rfl) ?_
    refine SL.gpure (c := 3) rfl rfl rfl rfl rfl rfl rfl (PureOp.and_ rfl rfl rfl rfl) ?_
    refine SL.pure rfl rfl rfl (PureOp.or_ rfl rfl rfl rfl) ?_
    refine SL.pure rfl rfl rfl (PureOp.assign rfl) ?_
    refine SL.nil ?_
    refine QX.normal_in ?_
    refine QX.then_ ?_
    refine WC.region ?_
    refine SL.pure rfl rfl rfl (PureOp.move rfl) ?_
    refine SL.pure rfl rfl rfl (PureOp.addN (k := 1) rfl rfl (fun _ => by omega)) ?_
    refine SL.pure rfl rfl rfl (PureOp.assign rfl) ?_
    refine SL.nil ?_
    refine QX.round (σ := Nat × Bool) (Ef := fun q_ => [(0, 0, .agg #[.slice aao an acap, .slice u3.ao u3.l.length u3.cap]), (1, 0, .int .i64 ((i : Nat) : Int)), (2, 0, .pointer (some ⟨b1, 0, none⟩)), (4, 0, .slice none 0 0), (5, 0, .slice a1_ n1_ c1_), (6, 0, .pointer (some ⟨b2, 0, none⟩)), (7, 0, .pointer (some ⟨b3, 0, none⟩)), (8, 0, .bool b1_), (9, 0, .pointer (some ⟨b4, 0, none⟩)), (10, 0, .bool b2_), (14, 0, .pointer (some ⟨b1, 1, none⟩)), (15, 0, .slice u3.ao u3.l.length u3.cap), (16, 0, .int .i64 ((i : Nat) : Int)), (17, 0, .pointer (some ⟨blk u3.ao, off u3.ao + i * 3, none⟩)), (18, 0, .agg #[.string ((nth dl i).1), .string ((nth dl i).2.1), .int .i64 ((nth dl i).2.2)]), (19, 0, .tuple #[.agg #[.string y1.1, .string y1.2.1, .string y1.2.2.1, .int .i64 y1.2.2.2.1, .slice y1.2.2.2.2.ao y1.2.2.2.2.l.length y1.2.2.2.2.cap], .bool b1_]), (20, 0, .agg #[.slice aao an acap, .slice u3.ao u3.l.length u3.cap]), (21, 0, .pointer (some ⟨b2, 0, none⟩)), (22, 0, .string ((nth dl i).1)), (23, 0, .tuple #[.agg #[.string y1.1, .string y1.2.1, .string y1.2.2.1, .int .i64 y1.2.2.2.1, .slice y1.2.2.2.2.ao y1.2.2.2.2.l.length y1.2.2.2.2.cap], .bool b1_]), (24, 0, .agg #[.string y1.1, .string y1.2.1, .string y1.2.2.1, .int .i64 y1.2.2.2.1, .slice y1.2.2.2.2.ao y1.2.2.2.2.l.length y1.2.2.2.2.cap]), (25, 0, .bool b1_), (26, 0, .tuple #[.agg #[.string y2.1, .string y2.2.1, .string y2.2.2.1, .int .i64 y2.2.2.2.1, .slice y2.2.2.2.2.ao y2.2.2.2.2.l.length y2.2.2.2.2.cap], .bool b2_]), (27, 0, .agg #[.slice aao an acap, .slice u3.ao u3.l.length u3.cap]), (28, 0, .pointer (some ⟨b2, 1, none⟩)), (29, 0, .string ((nth dl i).2.1)), (30, 0, .tuple #[.agg #[.string y2.1, .string y2.2.1, .string y2.2.2.1, .int .i64 y2.2.2.2.1, .slice y2.2.2.2.2.ao y2.2.2.2.2.l.length y2.2.2.2.2.cap], .bool b2_]), (31, 0, .agg #[.string y2.1, .string y2.2.1, .string y2.2.2.1, .int .i64 y2.2.2.2.1, .slice y2.2.2.2.2.ao y2.2.2.2.2.l.length y2.2.2.2.2.cap]), (32, 0, .bool b2_), (12, 0, .int .i64 ((q_.1 : Nat) : Int)), (11, 0, .bool q_.2)]) (Hf := fun q_ => [Item.cells b1 [.slice aao an acap, .slice u3.ao u3.l.length u3.cap] 39, Item.own w0.heap.size a1_ n1_ c1_ 31 1 (cellsOf encI (L1_)), Item.cells b2 [.string ((nth dl i).1), .string ((nth dl i).2.1), .int .i64 ((nth dl i).2.2)] 117, Item.cells b3 [.string y1.1, .string y1.2.1, .string y1.2.2.1, .int .i64 y1.2.2.2.1, .slice y1.2.2.2.2.ao y1.2.2.2.2.l.length y1.2.2.2.2.cap] 88, Item.cells b4 [.string y2.1, .string y2.2.1, .string y2.2.2.1, .int .i64 y2.2.2.2.1, .slice y2.2.2.2.2.ao y2.2.2.2.2.l.length y2.2.2.2.2.cap] 88]) (I := fun q_ => q_.1 ≤ i) (μ := fun q_ => i - q_.1) (s := (k, f11)) 5 ((k + 1, (f11 || ((((nth dl k).1).toList == ((nth dl i).1).toList) && (((nth dl k).2.1).toList == ((nth dl i).2.1).toList))) || ((((nth dl k).1).toList == ((nth dl i).2.1).toList) && (((nth dl k).2.1).toList == ((nth dl i).1).toList)))) ⟨(by first | omega | (dsimp only; omega)), by first | omega | (dsimp only; omega)⟩ ⟨rfl, rfl, rfl, rfl, rfl, rfl, rfl, rfl, rfl, rfl, rfl, rfl, rfl, rfl, rfl, rfl, rfl, rfl, rfl, rfl, rfl, rfl, rfl, rfl, rfl, rfl, rfl, rfl, rfl, rfl, rfl, rfl, rfl, rfl, rfl, rfl, rfl, rfl, rfl, rfl, rfl, rfl, rfl, rfl, rfl, rfl, rfl, rfl, rfl, rfl, rfl, rfl, rfl, rfl, rfl, rfl, rfl, rfl, rfl, rfl, rfl, rfl, trivial⟩ rfl
  · try simp only [Bool.and_eq_true, Bool.or_eq_true, Bool.not_eq_true', Bool.not_eq_false', Bool.and_eq_false_iff, Bool.or_eq_false_iff, decide_eq_true_eq, decide_eq_false_iff_not, Int.not_lt, Int.not_le, ne_eq, Decidable.not_not] at h2
    refine WC.exit ?_
    refine QX.exit_then ?_
    refine QX.exit_then ?_
    refine QX.exit_hit ?_
    refine QX.then_ ?_
    refine WC.seq ?_
    refine WC.seq ?_
    refine WC.region ?_
    refine SL.pure rfl rfl rfl (PureOp.move rfl) ?_
    refine SL.nil_then ?_
    refine WC.cond rfl (fun h3 => ?_) (fun h3 => ?_)
    · try simp only [Bool.and_eq_true, Bool.or_eq_true, Bool.not_eq_true', Bool.not_eq_false', Bool.and_eq_false_iff, Bool.or_eq_false_iff, decide_eq_true_eq, decide_eq_false_iff_not, Int.not_lt, Int.not_le, ne_eq, Decidable.not_not] at h3
      refine WC.region ?_
      refine SL.pure rfl rfl rfl (PureOp.move rfl) ?_
      refine SL.buildSlice rfl rfl Try.underlying89 elem31 rfl rfl rfl rfl (fun b7 hb7 => ?_)
      refine SL.norm [_, _, _, _, _, _] rfl ?_
      refine SL.append 1 rfl rfl Try.underlying89 elem31 rfl rfl rfl rfl (SrcIs.own 5 rfl) (by rfl) (by omega) (by omega) (fun ao2_ cap2_ => ?_)
      refine SL.itemxs 1 rfl (show _ = cellsOf encI (L1_ ++ [(6 : Int)]) from by rw [cellsOf_append (l := L1_), cellsOf_one]; rfl) ?_
      refine SL.norm [_, _, _, _, _, _] rfl ?_
      refine SL.pure rfl rfl rfl (PureOp.assign rfl) ?_
      refine SL.nil_then ?_
      refine WC.seq ?_
      refine WC.seq ?_
      refine WC.region ?_
      refine SL.pure rfl rfl rfl (PureOp.loads (vs := [.string ((nth dl i).1), .string ((nth dl i).2.1), .int .i64 ((nth dl i).2.2)]) Try.underlying117 rfl rfl (fun _ => (RowIs.cells 2 0 3 rfl rfl)) sz117) ?_
      refine SL.calle rfl rfl rfl rfl rfl rfl callable58 (fun w hw => usable_ok (nth dl i) w) ?_
      refine SL.norm [_, _, _, _, _, _] rfl ?_
      refine SL.pure rfl rfl rfl (PureOp.not rfl) ?_
      refine SL.pure rfl rfl rfl (PureOp.move rfl) ?_
      refine SL.newg 88 false rfl ?_
      refine SL.gpure (c := 1) rfl rfl rfl rfl rfl rfl rfl (PureOp.fieldAddrT 0 Try.underlying117 rfl sz9 rfl rfl) ?_
      refine SL.gpure (c := 1) rfl rfl rfl rfl rfl rfl rfl (PureOp.load (v := .string ((nth dl i).1)) Try.underlying9 rfl rfl (fun _ => (CellIs.cells 2 rfl rfl))) ?_
      refine SL.gpure (c := 1) rfl rfl rfl rfl rfl rfl rfl (PureOp.fieldAddrT 1 Try.underlying117 rfl sz9 rfl rfl) ?_
      refine SL.gpure (c := 1) rfl rfl rfl rfl rfl rfl rfl (PureOp.load (v := .string ((nth dl i).2.1)) Try.underlying9 rfl rfl (fun _ => (CellIs.cells 2 rfl rfl))) ?_
      refine SL.gpure (c := 1) rfl rfl rfl rfl rfl rfl rfl (PureOp.eqls rfl rfl) ?_
      refine SL.pure rfl rfl rfl (PureOp.or_ rfl rfl rfl rfl) ?_
      refine SL.nil_then ?_
      refine WC.cond rfl (fun h4 => ?_) (fun h4 => ?_)
      · try simp only [Bool.and_eq_true, Bool.or_eq_true, Bool.not_eq_true', Bool.not_eq_false', Bool.and_eq_false_iff, Bool.or_eq_false_iff, decide_eq_true_eq, decide_eq_false_iff_not, Int.not_lt, Int.not_le, ne_eq, Decidable.not_not] at h4
        refine WC.region ?_
        refine SL.pure rfl rfl rfl (PureOp.move rfl) ?_
        refine SL.buildSlice rfl rfl Try.underlying89 elem31 rfl rfl rfl rfl (fun b8 hb8 => ?_)
        refine SL.norm [_, _, _, _, _, _, _] rfl ?_
        refine SL.append 1 rfl rfl Try.underlying89 elem31 rfl rfl rfl rfl (SrcIs.own 6 rfl) (by rfl) (by omega) (by omega) (fun ao3_ cap3_ => ?_)
        refine SL.itemxs 1 rfl (show _ = cellsOf encI ((L1_ ++ [(6 : Int)]) ++ [(2 : Int)]) from by rw [cellsOf_append (l := (L1_ ++ [(6 : Int)])), cellsOf_one]; rfl) ?_
        refine SL.norm [_, _, _, _, _, _, _] rfl ?_
        refine SL.pure rfl rfl rfl (PureOp.assign rfl) ?_
        refine SL.nil_then ?_
        refine WC.seq ?_
        refine WC.region ?_
        refine SL.pure rfl rfl rfl (PureOp.move rfl) ?_
        refine SL.pure rfl rfl rfl (PureOp.assign rfl) ?_
        refine SL.nil_then ?_
        refine WC.ret ?_
        refine QX.ret1 rfl rfl ?_
        intro w hw
        exact ⟨_, _, _, _, rfl, (by first | exact hF1.mono (by omega) | exact (hF1.snoc).mono (by omega) | exact (hF1.snoc.snoc).mono (by omega) | exact (hF1.snoc.snoc.snoc).mono (by omega)), hw.mem (i := 1) rfl⟩
      · try simp only [Bool.and_eq_true, Bool.or_eq_true, Bool.not_eq_true', Bool.not_eq_false', Bool.and_eq_false_iff, Bool.or_eq_false_iff, decide_eq_true_eq, decide_eq_false_iff_not, Int.not_lt, Int.not_le, ne_eq, Decidable.not_not] at h4
        refine WC.skip ?_
        refine QX.then_ ?_
        refine WC.seq ?_
        refine WC.region ?_
        refine SL.pure rfl rfl rfl (PureOp.move rfl) ?_
        refine SL.pure rfl rfl rfl (PureOp.assign rfl) ?_
        refine SL.nil_then ?_
        refine WC.ret ?_
        refine QX.ret1 rfl rfl ?_
        intro w hw
        exact ⟨_, _, _, _, rfl, (by first | exact hF1.mono (by omega) | exact (hF1.snoc).mono (by omega) | exact (hF1.snoc.snoc).mono (by omega) | exact (hF1.snoc.snoc.snoc).mono (by omega)), hw.mem (i := 1) rfl⟩
    · try simp only [Bool.and_eq_true, Bool.or_eq_true, Bool.not_eq_true', Bool.not_eq_false', Bool.and_eq_false_iff, Bool.or_eq_false_iff, decide_eq_true_eq, decide_eq_false_iff_not, Int.not_lt, Int.not_le, ne_eq, Decidable.not_not] at h3
      refine WC.skip ?_
      refine QX.then_ ?_
      refine WC.seq ?_
      refine WC.seq ?_
      refine WC.region ?_
      refine SL.pure rfl rfl rfl (PureOp.loads (vs := [.string ((nth dl i).1), .string ((nth dl i).2.1), .int .i64 ((nth dl i).2.2)]) Try.underlying117 rfl rfl (fun _ => (RowIs.cells 2 0 3 rfl rfl)) sz117) ?_
      refine SL.calle rfl rfl rfl rfl rfl rfl callable58 (fun w hw => usable_ok (nth dl i) w) ?_
      refine SL.norm [_, _, _, _, _] rfl ?_
      refine SL.pure rfl rfl rfl (PureOp.not rfl) ?_
      refine SL.pure rfl rfl rfl (PureOp.move rfl) ?_
      refine SL.newg 88 false rfl ?_
      refine SL.gpure (c := 1) rfl rfl rfl rfl rfl rfl rfl (PureOp.fieldAddrT 0 Try.underlying117 rfl sz9 rfl rfl) ?_
      refine SL.gpure (c := 1) rfl rfl rfl rfl rfl rfl rfl (PureOp.load (v := .string ((nth dl i).1)) Try.underlying9 rfl rfl (fun _ => (CellIs.cells 2 rfl rfl))) ?_
      refine SL.gpure (c := 1) rfl rfl rfl rfl rfl rfl rfl (PureOp.fieldAddrT 1 Try.underlying117 rfl sz9 rfl rfl) ?_
      refine SL.gpure (c := 1) rfl rfl rfl rfl rfl rfl rfl (PureOp.load (v := .string ((nth dl i).2.1)) Try.underlying9 rfl rfl (fun _ => (CellIs.cells 2 rfl rfl))) ?_
      refine SL.gpure (c := 1) rfl rfl rfl rfl rfl rfl rfl (PureOp.eqls rfl rfl) ?_
      refine SL.pure rfl rfl rfl (PureOp.or_ rfl rfl rfl rfl) ?_
      refine SL.nil_then ?_
      refine WC.cond rfl (fun h5 => ?_) (fun h5 => ?_)
      · try simp only [Bool.and_eq_true, Bool.or_eq_true, Bool.not_eq_true', Bool.not_eq_false', Bool.and_eq_false_iff, Bool.or_eq_false_iff, decide_eq_true_eq, decide_eq_false_iff_not, Int.not_lt, Int.not_le, ne_eq, Decidable.not_not] at h5
        refine WC.region ?_
        refine SL.pure rfl rfl rfl (PureOp.move rfl) ?_
        refine SL.buildSlice rfl rfl Try.underlying89 elem31 rfl rfl rfl rfl (fun b9 hb9 => ?_)
        refine SL.norm [_, _, _, _, _, _] rfl ?_
        refine SL.append 1 rfl rfl Try.underlying89 elem31 rfl rfl rfl rfl (SrcIs.own 5 rfl) (by rfl) (by omega) (by omega) (fun ao4_ cap4_ => ?_)
        refine SL.itemxs 1 rfl (show _ = cellsOf encI (L1_ ++ [(2 : Int)]) from by rw [cellsOf_append (l := L1_), cellsOf_one]; rfl) ?_
        refine SL.norm [_, _, _, _, _, _] rfl ?_
        refine SL.pure rfl rfl rfl (PureOp.assign rfl) ?_
        refine SL.nil_then ?_
        refine WC.seq ?_
        refine WC.region ?_
        refine SL.pure rfl rfl rfl (PureOp.move rfl) ?_
        refine SL.pure rfl rfl rfl (PureOp.assign rfl) ?_
        refine SL.nil_then ?_
        refine WC.ret ?_
        refine QX.ret1 rfl rfl ?_
        intro w hw
        exact ⟨_, _, _, _, rfl, (by first | exact hF1.mono (by omega) | exact (hF1.snoc).mono (by omega) | exact (hF1.snoc.snoc).mono (by omega) | exact (hF1.snoc.snoc.snoc).mono (by omega)), hw.mem (i := 1) rfl⟩
      · try simp only [Bool.and_eq_true, Bool.or_eq_true, Bool.not_eq_true', Bool.not_eq_false', Bool.and_eq_false_iff, Bool.or_eq_false_iff, decide_eq_true_eq, decide_eq_false_iff_not, Int.not_lt, Int.not_le, ne_eq, Decidable.not_not] at h5
        refine WC.skip ?_
        refine QX.then_ ?_
        refine WC.seq ?_
        refine WC.region ?_
        refine SL.pure rfl rfl rfl (PureOp.move rfl) ?_
        refine SL.pure rfl rfl rfl (PureOp.assign rfl) ?_
        refine SL.nil_then ?_
        refine WC.ret ?_
        refine QX.ret1 rfl rfl ?_
        intro w hw
        exact ⟨_, _, _, _, rfl, (by first | exact hF1.mono (by omega) | exact (hF1.snoc).mono (by omega) | exact (hF1.snoc.snoc).mono (by omega) | exact (hF1.snoc.snoc.snoc).mono (by omega)), hw.mem (i := 1) rfl⟩

set_option maxHeartbeats 4000000 in
set_option maxRecDepth 100000 in
theorem places_any (u3 : SliceV Unit) (al : List Ai) (aao : Option Addr) (an acap : Nat) (han : an = al.length) (w0 : World) (sA : SliceIn w0 5 aao an acap (rowsF enc88 al)) (hab : an ≤ 1000) (dl : List (ByteArray × ByteArray × Int)) (hdl : dl.length = u3.l.length) (sD : SliceIn w0 3 u3.ao u3.l.length u3.cap (rowsF enc117 dl)) (hdb : u3.l.length ≤ 1000) (hAi : ∀ j, j < an → AiG w0 (nth al j)) (ha20 : an ≤ 20) (hd40 : u3.l.length ≤ 40) : FnC Try.prog 24 [.agg #[.slice aao an acap, .slice u3.ao u3.l.length u3.cap]] w0 fun v w' => ∃ a cp n L, v = .slice a n cp ∧ LnZ L n 300 (∀ j, j < an → ZA al j) ∧ w'.ownsRow w0.heap.size 93 2 (.slice a n cp) n (cellsOf encNF L) := by
  refine fnc (N := 65) Try.func24 rfl rfl rfl ?_
  refine WC.seq ?_
  refine WC.region ?_
  refine SL.box rfl rfl rfl (fun b1 hb1 => ?_)
  refine SL.norm [_] rfl ?_
  refine SL.pure rfl rfl rfl (PureOp.assign rfl) ?_
  refine SL.nil_then ?_
  refine WC.seq ?_
  refine WC.region ?_
  refine SL.addnil 93 2 ?_
  refine SL.pure rfl rfl rfl (PureOp.assign rfl) ?_
  refine SL.nil_then ?_
  refine WC.seq ?_
  refine WC.seq ?_
  refine WC.region ?_
  refine SL.pure rfl rfl rfl (PureOp.assign rfl) ?_
  refine SL.nil_then ?_
  refine WC.block ?_
  refine WC.loop (σ := Nat × Option Addr × Nat × Nat × List NF) (fun q_ => [(0, 0, .agg #[.slice aao an acap, .slice u3.ao u3.l.length u3.cap]), (1, 0, .pointer (some ⟨b1, 0, none⟩)), (2, 0, .slice none 0 0), (4, 0, .int .i64 ((q_.1 : Nat) : Int)), (3, 0, .slice q_.2.1 q_.2.2.2.1 q_.2.2.1)]) (fun q_ => [Item.cells b1 [.slice aao an acap, .slice u3.ao u3.l.length u3.cap] 39, Item.own w0.heap.size q_.2.1 q_.2.2.2.1 q_.2.2.1 93 2 (cellsOf encNF (q_.2.2.2.2))]) (fun q_ => q_.1 ≤ an ∧ LnB q_.2.2.2.2 q_.2.2.2.1 (5 * q_.1) ∧ (q_.2.2.2.1 = 0 → ∀ j, j < q_.1 → ZA al j)) (fun q_ => an - q_.1) 2 ((0, none, 0, 0, [])) (⟨Nat.zero_le _, LnB.nil, fun _ j hj => absurd hj (Nat.not_lt_zero _)⟩) ⟨rfl, rfl, rfl, rfl, rfl, rfl, rfl, rfl, rfl, rfl, trivial⟩ rfl ?_
  rintro ⟨i, a, c, n_, L⟩ ⟨hi, hF, hZ⟩
  try dsimp only at *
  have hFl := hF.le
  refine WC.seq ?_
  refine WC.seq ?_
  refine WC.region ?_
  refine SL.pure rfl rfl rfl (PureOp.move rfl) ?_
  refine SL.pure rfl rfl rfl (PureOp.fieldAddrT 0 Try.underlying39 rfl sz36 rfl rfl) ?_
  refine SL.pure rfl rfl rfl (PureOp.load (v := .slice aao an acap) Try.underlying36 rfl rfl (fun _ => (CellIs.cells 0 rfl rfl))) ?_
  refine SL.pure rfl rfl rfl (PureOp.len rfl Try.underlying36) ?_
  refine SL.pure rfl rfl rfl (PureOp.lss rfl rfl) ?_
  refine SL.nil_then ?_
  refine WC.cond rfl (fun h1 => ?_) (fun h1 => ?_)
  · try simp only [Bool.and_eq_true, Bool.or_eq_true, Bool.not_eq_true', Bool.not_eq_false', Bool.and_eq_false_iff, Bool.or_eq_false_iff, decide_eq_true_eq, decide_eq_false_iff_not, Int.not_lt, Int.not_le, ne_eq, Decidable.not_not] at h1
    refine WC.skip ?_
    refine QX.then_ ?_
    refine WC.seq ?_
    refine WC.block ?_
    refine WC.seq ?_
    refine WC.region ?_
    refine SL.pure rfl rfl rfl (PureOp.loads (vs := [.slice aao an acap, .slice u3.ao u3.l.length u3.cap]) Try.underlying39 rfl rfl (fun _ => (RowIs.cells 0 0 2 rfl rfl)) sz39) ?_
    refine SL.pure rfl rfl rfl (PureOp.move rfl) ?_
    refine SL.calln (fun L n => LnZ L n 5 (ZA al i)) rfl rfl rfl rfl rfl rfl callable36 (fun w hw => airport_any u3 al aao an acap han w (sA.below hw.below) hab (fun j hj => (hAi j hj).below hw.below) i (by omega)) ?_
    intro ea ec en eL heL
    have heLl := heL.ln.le
    refine SL.norm [_, _, _] rfl ?_
    refine SL.pure rfl rfl rfl (PureOp.assign rfl) ?_
    refine SL.nil_then ?_
    refine WC.seq ?_
    refine WC.region ?_
    refine SL.pure rfl rfl rfl (PureOp.assign rfl) ?_
    refine SL.nil_then ?_
    refine WC.block ?_
    refine WC.loop (σ := Nat × Option Addr × Nat × Nat × List NF) (fun q_ => [(0, 0, .agg #[.slice aao an acap, .slice u3.ao u3.l.length u3.cap]), (1, 0, .pointer (some ⟨b1, 0, none⟩)), (2, 0, .slice none 0 0), (4, 0, .int .i64 ((i : Nat) : Int)), (5, 0, .slice ea en ec), (10, 0, .int .i64 ((i : Nat) : Int)), (11, 0, .pointer (some ⟨b1, 0, none⟩)), (12, 0, .slice aao an acap), (13, 0, .int .i64 ((an : Nat) : Int)), (14, 0, .bool (decide (((i : Nat) : Int) < ((an : Nat) : Int)))), (17, 0, .agg #[.slice aao an acap, .slice u3.ao u3.l.length u3.cap]), (18, 0, .int .i64 ((i : Nat) : Int)), (19, 0, .slice ea en ec), (6, 0, .int .i64 ((q_.1 : Nat) : Int)), (3, 0, .slice q_.2.1 q_.2.2.2.1 q_.2.2.1)]) (fun q_ => [Item.cells b1 [.slice aao an acap, .slice u3.ao u3.l.length u3.cap] 39, Item.own w0.heap.size q_.2.1 q_.2.2.2.1 q_.2.2.1 93 2 (cellsOf encNF (q_.2.2.2.2)), Item.own w0.heap.size ea en ec 31 1 (cellsOf encI eL)]) (fun q_ => q_.1 ≤ en ∧ LnB q_.2.2.2.2 q_.2.2.2.1 (5 * i + q_.1) ∧ q_.2.2.2.1 = n_ + q_.1) (fun q_ => en - q_.1) 3 ((0, a, c, n_, L)) (⟨Nat.zero_le _, hF, rfl⟩) ⟨rfl, rfl, rfl, rfl, rfl, rfl, rfl, rfl, rfl, rfl, rfl, rfl, rfl, rfl, rfl, rfl, rfl, rfl, rfl, rfl, rfl, rfl, rfl, rfl, rfl, rfl, rfl, rfl, rfl, rfl, trivial⟩ rfl ?_
    rintro ⟨k, a2, c2, m_, M⟩ ⟨hk, hM, hmn⟩
    try dsimp only at *
    have hMl := hM.le
    have heLn := heL.ln.len
    refine WC.seq ?_
    refine WC.seq ?_
    refine WC.region ?_
    refine SL.pure rfl rfl rfl (PureOp.move rfl) ?_
    refine SL.pure rfl rfl rfl (PureOp.move rfl) ?_
    refine SL.pure rfl rfl rfl (PureOp.len rfl Try.underlying89) ?_
    refine SL.pure rfl rfl rfl (PureOp.lss rfl rfl) ?_
    refine SL.nil_then ?_
    refine WC.cond rfl (fun h2 => ?_) (fun h2 => ?_)
    · try simp only [Bool.and_eq_true, Bool.or_eq_true, Bool.not_eq_true', Bool.not_eq_false', Bool.and_eq_false_iff, Bool.or_eq_false_iff, decide_eq_true_eq, decide_eq_false_iff_not, Int.not_lt, Int.not_le, ne_eq, Decidable.not_not] at h2
      refine WC.skip ?_
      refine QX.then_ ?_
      refine WC.seq ?_
      refine WC.block ?_
      refine WC.drawh ([Item.cells b1 [.slice aao an acap, .slice u3.ao u3.l.length u3.cap] 39, Item.triv, Item.own w0.heap.size ea en ec 31 1 (cellsOf encI eL)]) 12 [false, false, false, false, false, false, false, false, false, false, false, false] rfl rfl rfl ?_
      refine SD.take 0 [true, false, false, false, false, false, false, false, false, false, false, false] rfl (by kernel_rfl) rfl (fun _ h => (HeapOk.settriv h (i := 1) rfl)) rfl rfl rfl (PureOp.move rfl) ?_
      refine SD.take 1 [true, true, false, false, false, false, false, false, false, false, false, false] rfl (by kernel_rfl) rfl (fun _ h => (HeapOk.settriv h (i := 1) rfl)) rfl rfl rfl (PureOp.move rfl) ?_
      refine SD.take 2 [true, true, true, false, false, false, false, false, false, false, false, false] rfl (by kernel_rfl) rfl (fun _ h => (HeapOk.settriv h (i := 1) rfl)) rfl rfl rfl (PureOp.move rfl) ?_
      refine SD.take 3 [true, true, true, true, false, false, false, false, false, false, false, false] rfl (by kernel_rfl) rfl (fun _ h => (HeapOk.settriv h (i := 1) rfl)) rfl rfl rfl (PureOp.indexAddrN Try.underlying89 sz31 rfl rfl (AoOk.own 2 rfl) (fun _ => by first | omega | exact at_max (by decide))) ?_
      refine SD.take 4 [true, true, true, true, true, false, false, false, false, false, false, false] rfl (by kernel_rfl) rfl (fun _ h => (HeapOk.settriv h (i := 1) rfl)) rfl rfl rfl (PureOp.load (v := .int .i64 (nth eL k)) Try.underlying31 rfl rfl (fun _ => (CellIs.ownc 2 rfl k 0 (by exact encI_get (by omega))))) ?_
      refine SD.take 5 [true, true, true, true, true, true, false, false, false, false, false, false] rfl (by kernel_rfl) rfl (fun _ h => (HeapOk.settriv h (i := 1) rfl)) rfl rfl rfl (PureOp.move rfl) ?_
      refine SD.one 6 [true, true, true, true, true, true, true, false, false, false, false, false] (by kernel_rfl) rfl rfl ?_
      refine SL.calle rfl rfl rfl rfl rfl rfl callable37 (fun w hw => decimal_ok ((i : Nat) : Int) (by omega) w) ?_
      refine SL.norm [_, _, _] rfl ?_
      refine SD.back (fun _ h => (HeapOk.settriv h (i := 1) rfl)) ?_
      refine SD.take 7 [true, true, true, true, true, true, true, true, false, false, false, false] rfl (by kernel_rfl) rfl (fun _ h => (HeapOk.settriv h (i := 1) rfl)) rfl rfl rfl (PureOp.adds rfl rfl (fun _ => by first | omega | exact at_max (by decide))) ?_
      refine SD.take 8 [true, true, true, true, true, true, true, true, true, false, false, false] rfl (by kernel_rfl) rfl (fun _ h => (HeapOk.settriv h (i := 1) rfl)) rfl rfl rfl (PureOp.build bld93 rfl rfl) ?_
      refine SD.one 9 [true, true, true, true, true, true, true, true, true, true, false, false] (by kernel_rfl) rfl rfl ?_
      refine SL.buildSlice rfl rfl Try.underlying63 elem93 rfl rfl rfl rfl (fun b2 hb2 => ?_)
      refine SL.norm [_, _, _, _] rfl ?_
      refine SD.back (fun _ h => (HeapOk.settriv (HeapOk.take h 3) (i := 1) rfl)) ?_
      refine SD.one 10 [true, true, true, true, true, true, true, true, true, true, true, false] (by kernel_rfl) rfl rfl ?_
      refine SL.append 1 rfl rfl Try.underlying63 elem93 rfl rfl rfl rfl (SrcIs.own 3 rfl) (by rfl) (by first | omega | exact at_max (by decide)) (by first | omega | exact at_max (by decide)) (fun ao1_ cap1_ => ?_)
      refine SL.itemxs 1 rfl (show _ = cellsOf encNF (M ++ [(((nth eL k) : Int), (((⟨#[97, 105, 114, 112, 111, 114, 116, 32]⟩) ++ (decS ((i : Nat) : Int))) : ByteArray))]) from by rw [cellsOf_append (l := M), cellsOf_one]; rfl) ?_
      refine SL.norm [_, _, _, _] rfl ?_
      refine SD.back (fun _ h => (HeapOk.settriv (HeapOk.take h 3) (i := 1) rfl)) ?_
      refine SD.take 11 [true, true, true, true, true, true, true, true, true, true, true, true] rfl (by kernel_rfl) rfl (fun _ h => (HeapOk.settriv (HeapOk.take h 3) (i := 1) rfl)) rfl rfl rfl (PureOp.assign rfl) ?_
      refine SD.done (by kernel_rfl) ?_
      refine QX.ofK ?_
      refine QX.normal_in ?_
      refine QX.then_ ?_
      refine WC.region ?_
      refine SL.pure rfl rfl rfl (PureOp.move rfl) ?_
      refine SL.pure rfl rfl rfl (PureOp.addN (k := 1) rfl rfl (fun _ => by first | omega | exact at_max (by decide))) ?_
      refine SL.pure rfl rfl rfl (PureOp.assign rfl) ?_
      refine SL.nil ?_
      refine QX.round (σ := Nat × Option Addr × Nat × Nat × List NF) (Ef := fun q_ => [(0, 0, .agg #[.slice aao an acap, .slice u3.ao u3.l.length u3.cap]), (1, 0, .pointer (some ⟨b1, 0, none⟩)), (2, 0, .slice none 0 0), (4, 0, .int .i64 ((i : Nat) : Int)), (5, 0, .slice ea en ec), (10, 0, .int .i64 ((i : Nat) : Int)), (11, 0, .pointer (some ⟨b1, 0, none⟩)), (12, 0, .slice aao an acap), (13, 0, .int .i64 ((an : Nat) : Int)), (14, 0, .bool (decide (((i : Nat) : Int) < ((an : Nat) : Int)))), (17, 0, .agg #[.slice aao an acap, .slice u3.ao u3.l.length u3.cap]), (18, 0, .int .i64 ((i : Nat) : Int)), (19, 0, .slice ea en ec), (6, 0, .int .i64 ((q_.1 : Nat) : Int)), (3, 0, .slice q_.2.1 q_.2.2.2.1 q_.2.2.1)]) (Hf := fun q_ => [Item.cells b1 [.slice aao an acap, .slice u3.ao u3.l.length u3.cap] 39, Item.own w0.heap.size q_.2.1 q_.2.2.2.1 q_.2.2.1 93 2 (cellsOf encNF (q_.2.2.2.2)), Item.own w0.heap.size ea en ec 31 1 (cellsOf encI eL)]) (I := fun q_ => q_.1 ≤ en ∧ LnB q_.2.2.2.2 q_.2.2.2.1 (5 * i + q_.1) ∧ q_.2.2.2.1 = n_ + q_.1) (μ := fun q_ => en - q_.1) (s := (k, a2, c2, m_, M)) 3 ((k + 1, ao1_, cap1_, m_ + 1, M ++ [(((nth eL k) : Int), (((⟨#[97, 105, 114, 112, 111, 114, 116, 32]⟩) ++ (decS ((i : Nat) : Int))) : ByteArray))])) ⟨⟨(by first | omega | (dsimp only; omega)), (by exact hM.snoc), (by first | omega | (dsimp only; omega))⟩, by first | omega | (dsimp only; omega)⟩ ⟨rfl, rfl, rfl, rfl, rfl, rfl, rfl, rfl, rfl, rfl, rfl, rfl, rfl, rfl, rfl, rfl, rfl, rfl, rfl, rfl, rfl, rfl, rfl, rfl, rfl, rfl, rfl, rfl, rfl, rfl, trivial⟩ rfl
    · try simp only [Bool.and_eq_true, Bool.or_eq_true, Bool.not_eq_true', Bool.not_eq_false', Bool.and_eq_false_iff, Bool.or_eq_false_iff, decide_eq_true_eq, decide_eq_false_iff_not, Int.not_lt, Int.not_le, ne_eq, Decidable.not_not] at h2
      refine WC.exit ?_
      refine QX.exit_then ?_
      refine QX.exit_then ?_
      refine QX.exit_hit ?_
      refine QX.normal_in ?_
      refine QX.then_ ?_
      refine WC.region ?_
      refine SL.pure rfl rfl rfl (PureOp.move rfl) ?_
      refine SL.pure rfl rfl rfl (PureOp.addN (k := 1) rfl rfl (fun _ => by first | omega | exact at_max (by decide))) ?_
      refine SL.pure rfl rfl rfl (PureOp.assign rfl) ?_
      refine SL.nil ?_
      refine QX.round (σ := Nat × Option Addr × Nat × Nat × List NF) (Ef := fun q_ => [(0, 0, .agg #[.slice aao an acap, .slice u3.ao u3.l.length u3.cap]), (1, 0, .pointer (some ⟨b1, 0, none⟩)), (2, 0, .slice none 0 0), (4, 0, .int .i64 ((q_.1 : Nat) : Int)), (3, 0, .slice q_.2.1 q_.2.2.2.1 q_.2.2.1)]) (Hf := fun q_ => [Item.cells b1 [.slice aao an acap, .slice u3.ao u3.l.length u3.cap] 39, Item.own w0.heap.size q_.2.1 q_.2.2.2.1 q_.2.2.1 93 2 (cellsOf encNF (q_.2.2.2.2))]) (I := fun q_ => q_.1 ≤ an ∧ LnB q_.2.2.2.2 q_.2.2.2.1 (5 * q_.1) ∧ (q_.2.2.2.1 = 0 → ∀ j, j < q_.1 → ZA al j)) (μ := fun q_ => an - q_.1) (s := (i, a, c, n_, L)) 2 ((i + 1, a2, c2, m_, M)) ⟨⟨(by first | omega | (dsimp only; omega)), (by exact hM.mono (by omega)), fun q j hj => by
        dsimp only at q hj
        rcases Nat.lt_succ_iff_lt_or_eq.1 hj with h | rfl
        · exact hZ (by omega) j h
        · exact heL.z (by omega)⟩, by first | omega | (dsimp only; omega)⟩ ⟨rfl, rfl, rfl, rfl, rfl, rfl, rfl, rfl, rfl, rfl, trivial⟩ rfl
  · try simp only [Bool.and_eq_true, Bool.or_eq_true, Bool.not_eq_true', Bool.not_eq_false', Bool.and_eq_false_iff, Bool.or_eq_false_iff, decide_eq_true_eq, decide_eq_false_iff_not, Int.not_lt, Int.not_le, ne_eq, Decidable.not_not] at h1
    refine WC.exit ?_
    refine QX.exit_then ?_
    refine QX.exit_then ?_
    refine QX.exit_hit ?_
    refine QX.then_ ?_
    refine WC.seq ?_
    refine WC.seq ?_
    refine WC.region ?_
    refine SL.pure rfl rfl rfl (PureOp.assign rfl) ?_
    refine SL.nil_then ?_
    refine WC.block ?_
    refine WC.loop (σ := Nat × Option Addr × Nat × Nat × List NF) (fun q_ => [(0, 0, .agg #[.slice aao an acap, .slice u3.ao u3.l.length u3.cap]), (1, 0, .pointer (some ⟨b1, 0, none⟩)), (2, 0, .slice none 0 0), (4, 0, .int .i64 ((i : Nat) : Int)), (10, 0, .int .i64 ((i : Nat) : Int)), (11, 0, .pointer (some ⟨b1, 0, none⟩)), (12, 0, .slice aao an acap), (13, 0, .int .i64 ((an : Nat) : Int)), (14, 0, .bool (decide (((i : Nat) : Int) < ((an : Nat) : Int)))), (7, 0, .int .i64 ((q_.1 : Nat) : Int)), (3, 0, .slice q_.2.1 q_.2.2.2.1 q_.2.2.1)]) (fun q_ => [Item.cells b1 [.slice aao an acap, .slice u3.ao u3.l.length u3.cap] 39, Item.own w0.heap.size q_.2.1 q_.2.2.2.1 q_.2.2.1 93 2 (cellsOf encNF (q_.2.2.2.2))]) (fun q_ => q_.1 ≤ u3.l.length ∧ LnB q_.2.2.2.2 q_.2.2.2.1 (100 + 3 * q_.1) ∧ (q_.2.2.2.1 = 0 → ∀ j, j < an → ZA al j)) (fun q_ => u3.l.length - q_.1) 2 ((0, a, c, n_, L)) (⟨Nat.zero_le _, hF.mono (by omega), fun q j hj => hZ q j (by omega)⟩) ⟨rfl, rfl, rfl, rfl, rfl, rfl, rfl, rfl, rfl, rfl, rfl, rfl, rfl, rfl, rfl, rfl, rfl, rfl, rfl, rfl, rfl, rfl, trivial⟩ rfl ?_
    rintro ⟨g, a, c, n_, L⟩ ⟨hg_, hF, hZ⟩
    try dsimp only at *
    have hFl := hF.le
    refine WC.seq ?_
    refine WC.seq ?_
    refine WC.region ?_
    refine SL.pure rfl rfl rfl (PureOp.move rfl) ?_
    refine SL.pure rfl rfl rfl (PureOp.fieldAddrT 1 Try.underlying39 rfl sz37 rfl rfl) ?_
    refine SL.pure rfl rfl rfl (PureOp.load (v := .slice u3.ao u3.l.length u3.cap) Try.underlying37 rfl rfl (fun _ => (CellIs.cells 0 rfl rfl))) ?_
    refine SL.pure rfl rfl rfl (PureOp.len rfl Try.underlying37) ?_
    refine SL.pure rfl rfl rfl (PureOp.lss rfl rfl) ?_
    refine SL.nil_then ?_
    refine WC.cond rfl (fun h3 => ?_) (fun h3 => ?_)
    · try simp only [Bool.and_eq_true, Bool.or_eq_true, Bool.not_eq_true', Bool.not_eq_false', Bool.and_eq_false_iff, Bool.or_eq_false_iff, decide_eq_true_eq, decide_eq_false_iff_not, Int.not_lt, Int.not_le, ne_eq, Decidable.not_not] at h3
      refine WC.skip ?_
      refine QX.then_ ?_
      refine WC.seq ?_
      refine WC.block ?_
      refine WC.seq ?_
      refine WC.region ?_
      refine SL.pure rfl rfl rfl (PureOp.loads (vs := [.slice aao an acap, .slice u3.ao u3.l.length u3.cap]) Try.underlying39 rfl rfl (fun _ => (RowIs.cells 0 0 2 rfl rfl)) sz39) ?_
      refine SL.pure rfl rfl rfl (PureOp.move rfl) ?_
      refine SL.calln (fun L n => LnB L n 3) rfl rfl rfl rfl rfl rfl callable38 (fun w hw => distance_any u3 al aao an acap han w (sA.below hw.below) hab dl hdl (sD.below hw.below) hdb g (by omega)) ?_
      intro ea ec en eL heL
      have heLl := heL.le
      refine SL.norm [_, _, _] rfl ?_
      refine SL.pure rfl rfl rfl (PureOp.assign rfl) ?_
      refine SL.nil_then ?_
      refine WC.seq ?_
      refine WC.region ?_
      refine SL.pure rfl rfl rfl (PureOp.assign rfl) ?_
      refine SL.nil_then ?_
      refine WC.block ?_
      refine WC.loop (σ := Nat × Option Addr × Nat × Nat × List NF) (fun q_ => [(0, 0, .agg #[.slice aao an acap, .slice u3.ao u3.l.length u3.cap]), (1, 0, .pointer (some ⟨b1, 0, none⟩)), (2, 0, .slice none 0 0), (4, 0, .int .i64 ((i : Nat) : Int)), (7, 0, .int .i64 ((g : Nat) : Int)), (8, 0, .slice ea en ec), (10, 0, .int .i64 ((i : Nat) : Int)), (11, 0, .pointer (some ⟨b1, 0, none⟩)), (12, 0, .slice aao an acap), (13, 0, .int .i64 ((an : Nat) : Int)), (14, 0, .bool (decide (((i : Nat) : Int) < ((an : Nat) : Int)))), (37, 0, .int .i64 ((g : Nat) : Int)), (38, 0, .pointer (some ⟨b1, 1, none⟩)), (39, 0, .slice u3.ao u3.l.length u3.cap), (40, 0, .int .i64 ((u3.l.length : Nat) : Int)), (41, 0, .bool (decide (((g : Nat) : Int) < ((u3.l.length : Nat) : Int)))), (44, 0, .agg #[.slice aao an acap, .slice u3.ao u3.l.length u3.cap]), (45, 0, .int .i64 ((g : Nat) : Int)), (46, 0, .slice ea en ec), (9, 0, .int .i64 ((q_.1 : Nat) : Int)), (3, 0, .slice q_.2.1 q_.2.2.2.1 q_.2.2.1)]) (fun q_ => [Item.cells b1 [.slice aao an acap, .slice u3.ao u3.l.length u3.cap] 39, Item.own w0.heap.size q_.2.1 q_.2.2.2.1 q_.2.2.1 93 2 (cellsOf encNF (q_.2.2.2.2)), Item.own w0.heap.size ea en ec 31 1 (cellsOf encI eL)]) (fun q_ => q_.1 ≤ en ∧ LnB q_.2.2.2.2 q_.2.2.2.1 (100 + 3 * g + q_.1) ∧ q_.2.2.2.1 = n_ + q_.1) (fun q_ => en - q_.1) 3 ((0, a, c, n_, L)) (⟨Nat.zero_le _, hF, rfl⟩) ⟨rfl, rfl, rfl, rfl, rfl, rfl, rfl, rfl, rfl, rfl, rfl, rfl, rfl, rfl, rfl, rfl, rfl, rfl, rfl, rfl, rfl, rfl, rfl, rfl, rfl, rfl, rfl, rfl, rfl, rfl, rfl, rfl, rfl, rfl, rfl, rfl, rfl, rfl, rfl, rfl, rfl, rfl, trivial⟩ rfl ?_
      rintro ⟨k, a2, c2, m_, M⟩ ⟨hk, hM, hmn⟩
      try dsimp only at *
      have hMl := hM.le
      have heLn := heL.len
      refine WC.seq ?_
      refine WC.seq ?_
      refine WC.region ?_
      refine SL.pure rfl rfl rfl (PureOp.move rfl) ?_
      refine SL.pure rfl rfl rfl (PureOp.move rfl) ?_
      refine SL.pure rfl rfl rfl (PureOp.len rfl Try.underlying89) ?_
      refine SL.pure rfl rfl rfl (PureOp.lss rfl rfl) ?_
      refine SL.nil_then ?_
      refine WC.cond rfl (fun h4 => ?_) (fun h4 => ?_)
      · try simp only [Bool.and_eq_true, Bool.or_eq_true, Bool.not_eq_true', Bool.not_eq_false', Bool.and_eq_false_iff, Bool.or_eq_false_iff, decide_eq_true_eq, decide_eq_false_iff_not, Int.not_lt, Int.not_le, ne_eq, Decidable.not_not] at h4
        refine WC.skip ?_
        refine QX.then_ ?_
        refine WC.seq ?_
        refine WC.block ?_
        refine WC.drawh ([Item.cells b1 [.slice aao an acap, .slice u3.ao u3.l.length u3.cap] 39, Item.triv, Item.own w0.heap.size ea en ec 31 1 (cellsOf encI eL)]) 12 [false, false, false, false, false, false, false, false, false, false, false, false] rfl rfl rfl ?_
        refine SD.take 0 [true, false, false, false, false, false, false, false, false, false, false, false] rfl (by kernel_rfl) rfl (fun _ h => (HeapOk.settriv h (i := 1) rfl)) rfl rfl rfl (PureOp.move rfl) ?_
        refine SD.take 1 [true, true, false, false, false, false, false, false, false, false, false, false] rfl (by kernel_rfl) rfl (fun _ h => (HeapOk.settriv h (i := 1) rfl)) rfl rfl rfl (PureOp.move rfl) ?_
        refine SD.take 2 [true, true, true, false, false, false, false, false, false, false, false, false] rfl (by kernel_rfl) rfl (fun _ h => (HeapOk.settriv h (i := 1) rfl)) rfl rfl rfl (PureOp.move rfl) ?_
        refine SD.take 3 [true, true, true, true, false, false, false, false, false, false, false, false] rfl (by kernel_rfl) rfl (fun _ h => (HeapOk.settriv h (i := 1) rfl)) rfl rfl rfl (PureOp.indexAddrN Try.underlying89 sz31 rfl rfl (AoOk.own 2 rfl) (fun _ => by first | omega | exact at_max (by decide))) ?_
        refine SD.take 4 [true, true, true, true, true, false, false, false, false, false, false, false] rfl (by kernel_rfl) rfl (fun _ h => (HeapOk.settriv h (i := 1) rfl)) rfl rfl rfl (PureOp.load (v := .int .i64 (nth eL k)) Try.underlying31 rfl rfl (fun _ => (CellIs.ownc 2 rfl k 0 (by exact encI_get (by omega))))) ?_
        refine SD.take 5 [true, true, true, true, true, true, false, false, false, false, false, false] rfl (by kernel_rfl) rfl (fun _ h => (HeapOk.settriv h (i := 1) rfl)) rfl rfl rfl (PureOp.move rfl) ?_
        refine SD.one 6 [true, true, true, true, true, true, true, false, false, false, false, false] (by kernel_rfl) rfl rfl ?_
        refine SL.calle rfl rfl rfl rfl rfl rfl callable37 (fun w hw => decimal_ok ((g : Nat) : Int) (by omega) w) ?_
        refine SL.norm [_, _, _] rfl ?_
        refine SD.back (fun _ h => (HeapOk.settriv h (i := 1) rfl)) ?_
        refine SD.take 7 [true, true, true, true, true, true, true, true, false, false, false, false] rfl (by kernel_rfl) rfl (fun _ h => (HeapOk.settriv h (i := 1) rfl)) rfl rfl rfl (PureOp.adds rfl rfl (fun _ => by first | omega | exact at_max (by decide))) ?_
        refine SD.take 8 [true, true, true, true, true, true, true, true, true, false, false, false] rfl (by kernel_rfl) rfl (fun _ h => (HeapOk.settriv h (i := 1) rfl)) rfl rfl rfl (PureOp.build bld93 rfl rfl) ?_
        refine SD.one 9 [true, true, true, true, true, true, true, true, true, true, false, false] (by kernel_rfl) rfl rfl ?_
        refine SL.buildSlice rfl rfl Try.underlying63 elem93 rfl rfl rfl rfl (fun b3 hb3 => ?_)
        refine SL.norm [_, _, _, _] rfl ?_
        refine SD.back (fun _ h => (HeapOk.settriv (HeapOk.take h 3) (i := 1) rfl)) ?_
        refine SD.one 10 [true, true, true, true, true, true, true, true, true, true, true, false] (by kernel_rfl) rfl rfl ?_
        refine SL.append 1 rfl rfl Try.underlying63 elem93 rfl rfl rfl rfl (SrcIs.own 3 rfl) (by rfl) (by first | omega | exact at_max (by decide)) (by first | omega | exact at_max (by decide)) (fun ao2_ cap2_ => ?_)
        refine SL.itemxs 1 rfl (show _ = cellsOf encNF (M ++ [(((nth eL k) : Int), (((⟨#[100, 105, 115, 116, 97, 110, 99, 101, 32]⟩) ++ (decS ((g : Nat) : Int))) : ByteArray))]) from by rw [cellsOf_append (l := M), cellsOf_one]; rfl) ?_
        refine SL.norm [_, _, _, _] rfl ?_
        refine SD.back (fun _ h => (HeapOk.settriv (HeapOk.take h 3) (i := 1) rfl)) ?_
        refine SD.take 11 [true, true, true, true, true, true, true, true, true, true, true, true] rfl (by kernel_rfl) rfl (fun _ h => (HeapOk.settriv (HeapOk.take h 3) (i := 1) rfl)) rfl rfl rfl (PureOp.assign rfl) ?_
        refine SD.done (by kernel_rfl) ?_
        refine QX.ofK ?_
        refine QX.normal_in ?_
        refine QX.then_ ?_
        refine WC.region ?_
        refine SL.pure rfl rfl rfl (PureOp.move rfl) ?_
        refine SL.pure rfl rfl rfl (PureOp.addN (k := 1) rfl rfl (fun _ => by first | omega | exact at_max (by decide))) ?_
        refine SL.pure rfl rfl rfl (PureOp.assign rfl) ?_
        refine SL.nil ?_
        refine QX.round (σ := Nat × Option Addr × Nat × Nat × List NF) (Ef := fun q_ => [(0, 0, .agg #[.slice aao an acap, .slice u3.ao u3.l.length u3.cap]), (1, 0, .pointer (some ⟨b1, 0, none⟩)), (2, 0, .slice none 0 0), (4, 0, .int .i64 ((i : Nat) : Int)), (7, 0, .int .i64 ((g : Nat) : Int)), (8, 0, .slice ea en ec), (10, 0, .int .i64 ((i : Nat) : Int)), (11, 0, .pointer (some ⟨b1, 0, none⟩)), (12, 0, .slice aao an acap), (13, 0, .int .i64 ((an : Nat) : Int)), (14, 0, .bool (decide (((i : Nat) : Int) < ((an : Nat) : Int)))), (37, 0, .int .i64 ((g : Nat) : Int)), (38, 0, .pointer (some ⟨b1, 1, none⟩)), (39, 0, .slice u3.ao u3.l.length u3.cap), (40, 0, .int .i64 ((u3.l.length : Nat) : Int)), (41, 0, .bool (decide (((g : Nat) : Int) < ((u3.l.length : Nat) : Int)))), (44, 0, .agg #[.slice aao an acap, .slice u3.ao u3.l.length u3.cap]), (45, 0, .int .i64 ((g : Nat) : Int)), (46, 0, .slice ea en ec), (9, 0, .int .i64 ((q_.1 : Nat) : Int)), (3, 0, .slice q_.2.1 q_.2.2.2.1 q_.2.2.1)]) (Hf := fun q_ => [Item.cells b1 [.slice aao an acap, .slice u3.ao u3.l.length u3.cap] 39, Item.own w0.heap.size q_.2.1 q_.2.2.2.1 q_.2.2.1 93 2 (cellsOf encNF (q_.2.2.2.2)), Item.own w0.heap.size ea en ec 31 1 (cellsOf encI eL)]) (I := fun q_ => q_.1 ≤ en ∧ LnB q_.2.2.2.2 q_.2.2.2.1 (100 + 3 * g + q_.1) ∧ q_.2.2.2.1 = n_ + q_.1) (μ := fun q_ => en - q_.1) (s := (k, a2, c2, m_, M)) 3 ((k + 1, ao2_, cap2_, m_ + 1, M ++ [(((nth eL k) : Int), (((⟨#[100, 105, 115, 116, 97, 110, 99, 101, 32]⟩) ++ (decS ((g : Nat) : Int))) : ByteArray))])) ⟨⟨(by first | omega | (dsimp only; omega)), (by exact hM.snoc), (by first | omega | (dsimp only; omega))⟩, by first | omega | (dsimp only; omega)⟩ ⟨rfl, rfl, rfl, rfl, rfl, rfl, rfl, rfl, rfl, rfl, rfl, rfl, rfl, rfl, rfl, rfl, rfl, rfl, rfl, rfl, rfl, rfl, rfl, rfl, rfl, rfl, rfl, rfl, rfl, rfl, rfl, rfl, rfl, rfl, rfl, rfl, rfl, rfl, rfl, rfl, rfl, rfl, trivial⟩ rfl
      · try simp only [Bool.and_eq_true, Bool.or_eq_true, Bool.not_eq_true', Bool.not_eq_false', Bool.and_eq_false_iff, Bool.or_eq_false_iff, decide_eq_true_eq, decide_eq_false_iff_not, Int.not_lt, Int.not_le, ne_eq, Decidable.not_not] at h4
        refine WC.exit ?_
        refine QX.exit_then ?_
        refine QX.exit_then ?_
        refine QX.exit_hit ?_
        refine QX.normal_in ?_
        refine QX.then_ ?_
        refine WC.region ?_
        refine SL.pure rfl rfl rfl (PureOp.move rfl) ?_
        refine SL.pure rfl rfl rfl (PureOp.addN (k := 1) rfl rfl (fun _ => by first | omega | exact at_max (by decide))) ?_
        refine SL.pure rfl rfl rfl (PureOp.assign rfl) ?_
        refine SL.nil ?_
        refine QX.round (σ := Nat × Option Addr × Nat × Nat × List NF) (Ef := fun q_ => [(0, 0, .agg #[.slice aao an acap, .slice u3.ao u3.l.length u3.cap]), (1, 0, .pointer (some ⟨b1, 0, none⟩)), (2, 0, .slice none 0 0), (4, 0, .int .i64 ((i : Nat) : Int)), (10, 0, .int .i64 ((i : Nat) : Int)), (11, 0, .pointer (some ⟨b1, 0, none⟩)), (12, 0, .slice aao an acap), (13, 0, .int .i64 ((an : Nat) : Int)), (14, 0, .bool (decide (((i : Nat) : Int) < ((an : Nat) : Int)))), (7, 0, .int .i64 ((q_.1 : Nat) : Int)), (3, 0, .slice q_.2.1 q_.2.2.2.1 q_.2.2.1)]) (Hf := fun q_ => [Item.cells b1 [.slice aao an acap, .slice u3.ao u3.l.length u3.cap] 39, Item.own w0.heap.size q_.2.1 q_.2.2.2.1 q_.2.2.1 93 2 (cellsOf encNF (q_.2.2.2.2))]) (I := fun q_ => q_.1 ≤ u3.l.length ∧ LnB q_.2.2.2.2 q_.2.2.2.1 (100 + 3 * q_.1) ∧ (q_.2.2.2.1 = 0 → ∀ j, j < an → ZA al j)) (μ := fun q_ => u3.l.length - q_.1) (s := (g, a, c, n_, L)) 2 ((g + 1, a2, c2, m_, M)) ⟨⟨(by first | omega | (dsimp only; omega)), (by exact hM.mono (by omega)), fun q => hZ (by dsimp only at q; omega)⟩, by first | omega | (dsimp only; omega)⟩ ⟨rfl, rfl, rfl, rfl, rfl, rfl, rfl, rfl, rfl, rfl, rfl, rfl, rfl, rfl, rfl, rfl, rfl, rfl, rfl, rfl, rfl, rfl, trivial⟩ rfl
    · try simp only [Bool.and_eq_true, Bool.or_eq_true, Bool.not_eq_true', Bool.not_eq_false', Bool.and_eq_false_iff, Bool.or_eq_false_iff, decide_eq_true_eq, decide_eq_false_iff_not, Int.not_lt, Int.not_le, ne_eq, Decidable.not_not] at h3
      refine WC.exit ?_
      refine QX.exit_then ?_
      refine QX.exit_then ?_
      refine QX.exit_hit ?_
      refine QX.then_ ?_
      refine WC.seq ?_
      refine WC.region ?_
      refine SL.pure rfl rfl rfl (PureOp.move rfl) ?_
      refine SL.pure rfl rfl rfl (PureOp.assign rfl) ?_
      refine SL.nil_then ?_
      refine WC.ret ?_
      refine QX.ret1 rfl rfl ?_
      intro w hw
      exact ⟨a, c, n_, L, rfl, ⟨hF.mono (by omega), hZ⟩, hw.mem (i := 1) rfl⟩

end Go.Proofs.Ytblmafknmeicfaa
