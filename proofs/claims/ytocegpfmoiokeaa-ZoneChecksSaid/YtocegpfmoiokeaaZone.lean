/- The walks of zone: what each function returns. -/
import Derived.Test.YtocegpfmoiokeaaPlain
import Derived.Test.YtocegpfmoiokeaaFacts
namespace Go.Proofs.Ytocegpfmoiokeaa
open Go Go.RowKit Eng
set_option linter.unusedVariables false
set_option linter.unusedSimpArgs false
theorem t0a {l : List Sh} {n : Nat} {o x : Int} (hn : n = l.length) (h : (n : Int) = 0 ∨ x - o < (nth l 0).1) : (1 : Int) = firstT o l x := by
  cases l with
  | nil => rfl
  | cons s r =>
    have : x - o < s.1 := by
      rcases h with h | h
      · simp at hn; omega
      · exact h
    simp [firstT, this]
theorem t0b {l : List Sh} {n : Nat} {o x : Int} (hn : n = l.length) (h : ¬ (n : Int) = 0 ∧ (nth l 0).1 ≤ x - o) : (0 : Int) = firstT o l x := by
  cases l with
  | nil => exact absurd (by simp [hn]) h.1
  | cons s r =>
    have : ¬ x - o < s.1 := by have := h.2; show ¬ x - o < s.1; exact Int.not_lt.2 this
    simp [firstT, this]
theorem near_pk {l : List Sh} (k : Nat) {a : Int} : (near (pk l k) a = true) = (0 < (k : Int) ∧ a - (nth l ((k : Int) - 1).toNat).1 < 2880) := by
  unfold pk
  by_cases h : 0 < k
  · rw [if_pos h]; simp [near]; omega
  · rw [if_neg h]; simp [near]; omega
theorem pk_succ {l : List Sh} {k : Nat} : pk l (k + 1) = some (nth l k).1 := by
  unfold pk
  rw [if_pos (by omega), show (((k + 1 : Nat) : Int) - 1).toNat = k from by omega]
theorem before_at (l : List Sh) (k : Nat) (x : Int) {y : Int} : (before (l.drop (k + 1)) y = true) = (l.length ≤ k + 1 ∨ y < (nth l ((k : Int) + 1).toNat).1) := by
  rw [show ((k : Int) + 1).toNat = k + 1 from by omega]
  by_cases h : k + 1 < l.length
  · rw [drop_nth h]; simp [before]; omega
  · rw [List.drop_eq_nil_of_le (by omega)]; simp [before]; omega
set_option maxHeartbeats 4000000 in
set_option maxRecDepth 100000 in
theorem right_ok (m : Int) (w0 : World) : FnC Try.prog 19 [.int .i64 m] w0 fun v _ => v = .bool (okOff m) := by
  refine fnc (N := 9) Try.func19 rfl rfl rfl ?_
  refine WC.seq ?_
  refine WC.region ?_
  refine SL.pure rfl rfl rfl (PureOp.assign rfl) ?_
  refine SL.nil_then ?_
  refine WC.seq ?_
  refine WC.region ?_
  refine SL.pure rfl rfl rfl (PureOp.move rfl) ?_
  refine SL.pure rfl rfl rfl (PureOp.geq rfl rfl) ?_
  refine SL.pure rfl rfl rfl (PureOp.move rfl) ?_
  refine SL.newg 5 true rfl ?_
  refine SL.gpure (c := 1) rfl rfl rfl rfl rfl rfl rfl (PureOp.move rfl) ?_
  refine SL.gpure (c := 1) rfl rfl rfl rfl rfl rfl rfl (PureOp.leq rfl rfl) ?_
  refine SL.pure rfl rfl rfl (PureOp.and_ rfl rfl rfl rfl) ?_
  refine SL.pure rfl rfl rfl (PureOp.assign rfl) ?_
  refine SL.nil_then ?_
  refine WC.ret ?_
  refine QX.ret1 rfl rfl ?_
  intro w hw
  rfl

set_option maxHeartbeats 4000000 in
set_option maxRecDepth 100000 in
theorem offset_ok (m : Int) (w0 : World) : FnC Try.prog 20 [.int .i64 m] w0 fun v _ => v = .bool (okOff m) := by
  refine fnc (N := 9) Try.func20 rfl rfl rfl ?_
  refine WC.seq ?_
  refine WC.region ?_
  refine SL.pure rfl rfl rfl (PureOp.assign rfl) ?_
  refine SL.nil_then ?_
  refine WC.seq ?_
  refine WC.region ?_
  refine SL.pure rfl rfl rfl (PureOp.move rfl) ?_
  refine SL.pure rfl rfl rfl (PureOp.geq rfl rfl) ?_
  refine SL.pure rfl rfl rfl (PureOp.move rfl) ?_
  refine SL.newg 5 true rfl ?_
  refine SL.gpure (c := 1) rfl rfl rfl rfl rfl rfl rfl (PureOp.move rfl) ?_
  refine SL.gpure (c := 1) rfl rfl rfl rfl rfl rfl rfl (PureOp.leq rfl rfl) ?_
  refine SL.pure rfl rfl rfl (PureOp.and_ rfl rfl rfl rfl) ?_
  refine SL.pure rfl rfl rfl (PureOp.assign rfl) ?_
  refine SL.nil_then ?_
  refine WC.ret ?_
  refine QX.ret1 rfl rfl ?_
  intro w hw
  rfl

set_option maxHeartbeats 4000000 in
set_option maxRecDepth 100000 in
theorem check_ok (o : Int) (l : List Sh) (ao : Option Addr) (n cap : Nat) (hn : n = l.length) (w0 : World) (hz : SliceIn w0 2 ao n cap (rowsF encS l)) (hb : ∀ k, In64 (nth l k).1) : FnC Try.prog 5 [.agg #[.int .i64 o, .slice ao n cap]] w0 fun v _ => v = .int .i64 (checkZ o l) := by
  refine fnc (N := 51) Try.func5 rfl rfl rfl ?_
  refine WC.seq ?_
  refine WC.region ?_
  refine SL.box rfl rfl rfl (fun b1 hb1 => ?_)
  refine SL.pure rfl rfl rfl (PureOp.assign rfl) ?_
  refine SL.nil_then ?_
  refine WC.seq ?_
  refine WC.seq ?_
  refine WC.region ?_
  refine SL.pure rfl rfl rfl (PureOp.fieldAddrT 1 Try.underlying24 rfl sz22 rfl rfl) ?_
  refine SL.pure rfl rfl rfl (PureOp.load Try.underlying22 rfl rfl (fun _ => (CellIs.cells 0 rfl rfl))) ?_
  refine SL.pure rfl rfl rfl (PureOp.len rfl Try.underlying22) ?_
  refine SL.pure rfl rfl rfl (PureOp.gtr rfl rfl) ?_
  refine SL.nil_then ?_
  refine WC.cond rfl (fun h1 => ?_) (fun h1 => ?_)
  · simp only [okOff, Bool.and_eq_true, Bool.or_eq_true, Bool.not_eq_true', Bool.not_eq_false', Bool.and_eq_false_iff, Bool.or_eq_false_iff, decide_eq_true_eq, decide_eq_false_iff_not, Int.not_lt, Int.not_le, ne_eq, Decidable.not_not] at h1
    refine WC.seq ?_
    refine WC.region ?_
    refine SL.pure rfl rfl rfl (PureOp.assign rfl) ?_
    refine SL.nil_then ?_
    refine WC.ret ?_
    refine QX.ret_then ?_
    refine QX.ret1 rfl rfl ?_
    intro w hw
    rw [checkZ, if_pos (by omega)]
  · simp only [okOff, Bool.and_eq_true, Bool.or_eq_true, Bool.not_eq_true', Bool.not_eq_false', Bool.and_eq_false_iff, Bool.or_eq_false_iff, decide_eq_true_eq, decide_eq_false_iff_not, Int.not_lt, Int.not_le, ne_eq, Decidable.not_not] at h1
    refine WC.skip ?_
    refine QX.then_ ?_
    refine WC.seq ?_
    refine WC.seq ?_
    refine WC.region ?_
    refine SL.pure rfl rfl rfl (PureOp.fieldAddrT 0 Try.underlying24 rfl sz3 rfl rfl) ?_
    refine SL.pure rfl rfl rfl (PureOp.load Try.underlying3 rfl rfl (fun _ => (CellIs.cells 0 rfl rfl))) ?_
    refine SL.calle rfl rfl rfl rfl rfl rfl callable19 (fun w hw => right_ok _ w) ?_
    refine SL.pure rfl rfl rfl (PureOp.not rfl) ?_
    refine SL.nil_then ?_
    refine WC.cond rfl (fun h2 => ?_) (fun h2 => ?_)
    · simp only [okOff, Bool.and_eq_true, Bool.or_eq_true, Bool.not_eq_true', Bool.not_eq_false', Bool.and_eq_false_iff, Bool.or_eq_false_iff, decide_eq_true_eq, decide_eq_false_iff_not, Int.not_lt, Int.not_le, ne_eq, Decidable.not_not] at h2
      refine WC.seq ?_
      refine WC.region ?_
      refine SL.pure rfl rfl rfl (PureOp.assign rfl) ?_
      refine SL.nil_then ?_
      refine WC.ret ?_
      refine QX.ret_then ?_
      refine QX.ret1 rfl rfl ?_
      intro w hw
      rw [checkZ, if_neg (by omega), if_neg (by simp [okOff]; omega)]
    · simp only [okOff, Bool.and_eq_true, Bool.or_eq_true, Bool.not_eq_true', Bool.not_eq_false', Bool.and_eq_false_iff, Bool.or_eq_false_iff, decide_eq_true_eq, decide_eq_false_iff_not, Int.not_lt, Int.not_le, ne_eq, Decidable.not_not] at h2
      refine WC.skip ?_
      refine QX.then_ ?_
      refine WC.seq ?_
      refine WC.seq ?_
      refine WC.region ?_
      refine SL.pure rfl rfl rfl (PureOp.fieldAddrT 1 Try.underlying24 rfl sz22 rfl rfl) ?_
      refine SL.pure rfl rfl rfl (PureOp.load Try.underlying22 rfl rfl (fun _ => (CellIs.cells 0 rfl rfl))) ?_
      refine SL.pure rfl rfl rfl (PureOp.len rfl Try.underlying22) ?_
      refine SL.pure rfl rfl rfl (PureOp.move rfl) ?_
      refine SL.nil_then ?_
      refine WC.block ?_
      refine WC.loop (σ := Nat) (fun s => [(1, 0, .pointer (some ⟨b1, 0, none⟩)), (14, 0, .slice ao n cap), (15, 0, .int .i64 n), (16, 0, .int .i64 (s : Nat))]) (fun _ => [Item.cells b1 [.int .i64 o, .slice ao n cap] 24]) (fun k => k ≤ n ∧ chk (pk l k) (l.drop k) = chk none l ∧ (0 < k → 0 ≤ (nth l ((k : Int) - 1).toNat).1)) (fun k => n - k) 1 (0) (⟨Nat.zero_le _, rfl, fun h => absurd h (by omega)⟩) ⟨rfl, rfl, rfl, rfl, rfl, rfl, rfl, rfl, trivial⟩ rfl ?_
      rintro k ⟨hk, hI, hp⟩
      refine WC.seq ?_
      refine WC.region ?_
      refine SL.pure rfl rfl rfl (PureOp.lss rfl rfl) ?_
      refine SL.nil_then ?_
      refine WC.seq ?_
      refine WC.cond rfl (fun h3 => ?_) (fun h3 => ?_)
      · simp only [okOff, Bool.and_eq_true, Bool.or_eq_true, Bool.not_eq_true', Bool.not_eq_false', Bool.and_eq_false_iff, Bool.or_eq_false_iff, decide_eq_true_eq, decide_eq_false_iff_not, Int.not_lt, Int.not_le, ne_eq, Decidable.not_not] at h3
        refine WC.skip ?_
        refine QX.then_ ?_
        refine WC.seq ?_
        refine WC.block ?_
        refine WC.seq ?_
        refine WC.region ?_
        refine SL.pure rfl rfl rfl (PureOp.move rfl) ?_
        refine SL.pure rfl rfl rfl (PureOp.indexAddrN Try.underlying22 sz34 rfl rfl (AoOk.in_ hz) (fun _ => by omega)) ?_
        refine SL.pure rfl rfl rfl (PureOp.loads Try.underlying34 rfl rfl (fun _ => (RowIs.in_ hz _ 0 2 (by omega) (by omega))) sz34) ?_
        refine SL.alloc rfl rfl zero34 (fun b2 hb2 => ?_)
        refine SL.pure rfl rfl rfl (PureOp.assign rfl) ?_
        refine SL.store 1 rfl rfl rfl rfl sz34 rfl rfl ?_
        refine SL.nil_then ?_
        refine WC.seq ?_
        refine WC.seq ?_
        refine WC.quiet rfl (by kernel_rfl) ?_
        refine SQ.pure rfl rfl rfl (PureOp.fieldAddrT 0 Try.underlying34 rfl sz3 rfl rfl) ?_
        refine SQ.pure rfl rfl rfl (PureOp.load Try.underlying3 rfl rfl (fun _ => (CellIs.cells 1 rfl rfl))) ?_
        refine SQ.pure rfl rfl rfl (PureOp.lss rfl rfl) ?_
        refine SQ.pure rfl rfl rfl (PureOp.move rfl) ?_
        refine SQ.newg 24 false rfl ?_
        refine SQ.gpure (c := 1) rfl rfl rfl rfl rfl rfl rfl (PureOp.fieldAddrT 0 Try.underlying34 rfl sz3 rfl rfl) ?_
        refine SQ.gpure (c := 1) rfl rfl rfl rfl rfl rfl rfl (PureOp.load Try.underlying3 rfl rfl (fun _ => (CellIs.cells 1 rfl rfl))) ?_
        refine SQ.gpure (c := 1) rfl rfl rfl rfl rfl rfl rfl (PureOp.geq rfl rfl) ?_
        refine SQ.pure rfl rfl rfl (PureOp.or_ rfl rfl rfl rfl) ?_
        refine SQ.pure rfl rfl rfl (PureOp.move rfl) ?_
        refine SQ.newg 29 false rfl ?_
        refine SQ.gpure (c := 2) rfl rfl rfl rfl rfl rfl rfl (PureOp.move rfl) ?_
        refine SQ.gpure (c := 2) rfl rfl rfl rfl rfl rfl rfl (PureOp.gtr rfl rfl) ?_
        refine SQ.gpure (c := 2) rfl rfl rfl rfl rfl rfl rfl (PureOp.move rfl) ?_
        refine SQ.newg 32 true rfl ?_
        refine SQ.gpure (c := 3) rfl rfl rfl rfl rfl rfl rfl (PureOp.fieldAddrT 0 Try.underlying34 rfl sz3 rfl rfl) ?_
        refine SQ.gpure (c := 3) rfl rfl rfl rfl rfl rfl rfl (PureOp.load Try.underlying3 rfl rfl (fun _ => (CellIs.cells 1 rfl rfl))) ?_
        refine SQ.gpure (c := 3) rfl rfl rfl rfl rfl rfl rfl (PureOp.fieldAddrT 1 Try.underlying24 rfl sz22 rfl rfl) ?_
        refine SQ.gpure (c := 3) rfl rfl rfl rfl rfl rfl rfl (PureOp.load Try.underlying22 rfl rfl (fun _ => (CellIs.cells 0 rfl rfl))) ?_
        refine SQ.gpure (c := 3) rfl rfl rfl rfl rfl rfl rfl (PureOp.move rfl) ?_
        refine SQ.gpure (c := 3) rfl rfl rfl rfl rfl rfl rfl (PureOp.sub rfl rfl (by intro hg; simp [gval] at hg; (have q1 := hb k; have q2 := hb ((k : Int) - 1).toNat; have q3 := hp (by omega); unfold In64 at q1 q2; omega))) ?_
        refine SQ.gpure (c := 3) rfl rfl rfl rfl rfl rfl rfl (PureOp.indexAddr Try.underlying22 sz34 rfl rfl (AoOk.in_ hz) (by intro hg; simp [gval] at hg; (have q1 := hb k; have q2 := hb ((k : Int) - 1).toNat; have q3 := hp (by omega); unfold In64 at q1 q2; omega))) ?_
        refine SQ.gpure (c := 3) rfl rfl rfl rfl rfl rfl rfl (PureOp.fieldAddr 0 Try.underlying34 rfl rfl sz3 rfl) ?_
        refine SQ.gpure (c := 3) rfl rfl rfl rfl rfl rfl rfl (PureOp.load Try.underlying3 rfl rfl (by intro hg; simp [gval] at hg; exact (CellIs.in_ hz ((k : Int) - 1).toNat 0 (by omega) (by omega)))) ?_
        refine SQ.gpure (c := 3) rfl rfl rfl rfl rfl rfl rfl (PureOp.sub rfl rfl (by intro hg; simp [gval] at hg; (have q1 := hb k; have q2 := hb ((k : Int) - 1).toNat; have q3 := hp (by omega); unfold In64 at q1 q2; omega))) ?_
        refine SQ.gpure (c := 3) rfl rfl rfl rfl rfl rfl rfl (PureOp.lss rfl rfl) ?_
        refine SQ.gpure (c := 2) rfl rfl rfl rfl rfl rfl rfl (PureOp.and_ rfl rfl rfl rfl) ?_
        refine SQ.pure rfl rfl rfl (PureOp.or_ rfl rfl rfl rfl) ?_
        refine SQ.nil_then ?_
        refine WC.cond rfl (fun h4 => ?_) (fun h4 => ?_)
        · simp only [okOff, Bool.and_eq_true, Bool.or_eq_true, Bool.not_eq_true', Bool.not_eq_false', Bool.and_eq_false_iff, Bool.or_eq_false_iff, decide_eq_true_eq, decide_eq_false_iff_not, Int.not_lt, Int.not_le, ne_eq, Decidable.not_not] at h4
          refine WC.seq ?_
          refine WC.region ?_
          refine SL.pure rfl rfl rfl (PureOp.assign rfl) ?_
          refine SL.nil_then ?_
          refine WC.ret ?_
          refine QX.ret_then ?_
          refine QX.ret_in ?_
          refine QX.ret_then ?_
          refine QX.ret_then ?_
          refine QX.ret_in ?_
          refine QX.ret_then ?_
          refine QX.ret1 rfl rfl ?_
          intro w hw
          have e := drop_nth (l := l) (i := k) (by omega)
          rw [checkZ, if_neg (by omega), if_pos (by simp [okOff]; omega), ← hI, e]
          simp only [chk]
          rw [if_pos (by rw [near_pk k]; omega)]
        · simp only [okOff, Bool.and_eq_true, Bool.or_eq_true, Bool.not_eq_true', Bool.not_eq_false', Bool.and_eq_false_iff, Bool.or_eq_false_iff, decide_eq_true_eq, decide_eq_false_iff_not, Int.not_lt, Int.not_le, ne_eq, Decidable.not_not] at h4
          refine WC.skip ?_
          refine QX.then_ ?_
          refine WC.seq ?_
          refine WC.region ?_
          refine SL.pure rfl rfl rfl (PureOp.fieldAddrT 1 Try.underlying34 rfl sz3 rfl rfl) ?_
          refine SL.pure rfl rfl rfl (PureOp.load Try.underlying3 rfl rfl (fun _ => (CellIs.cells 1 rfl rfl))) ?_
          refine SL.calle rfl rfl rfl rfl rfl rfl callable19 (fun w hw => right_ok _ w) ?_
          refine SL.pure rfl rfl rfl (PureOp.not rfl) ?_
          refine SL.nil_then ?_
          refine WC.cond rfl (fun h5 => ?_) (fun h5 => ?_)
          · simp only [okOff, Bool.and_eq_true, Bool.or_eq_true, Bool.not_eq_true', Bool.not_eq_false', Bool.and_eq_false_iff, Bool.or_eq_false_iff, decide_eq_true_eq, decide_eq_false_iff_not, Int.not_lt, Int.not_le, ne_eq, Decidable.not_not] at h5
            refine WC.seq ?_
            refine WC.region ?_
            refine SL.pure rfl rfl rfl (PureOp.assign rfl) ?_
            refine SL.nil_then ?_
            refine WC.ret ?_
            refine QX.ret_in ?_
            refine QX.ret_then ?_
            refine QX.ret_then ?_
            refine QX.ret_in ?_
            refine QX.ret_then ?_
            refine QX.ret1 rfl rfl ?_
            intro w hw
            have e := drop_nth (l := l) (i := k) (by omega)
            rw [checkZ, if_neg (by omega), if_pos (by simp [okOff]; omega), ← hI, e]
            simp only [chk]
            rw [if_neg (by rw [near_pk k]; omega), if_neg (by simp [okOff]; omega)]
          · simp only [okOff, Bool.and_eq_true, Bool.or_eq_true, Bool.not_eq_true', Bool.not_eq_false', Bool.and_eq_false_iff, Bool.or_eq_false_iff, decide_eq_true_eq, decide_eq_false_iff_not, Int.not_lt, Int.not_le, ne_eq, Decidable.not_not] at h5
            refine WC.skip ?_
            refine QX.normal_in ?_
            refine QX.then_ ?_
            refine WC.region ?_
            refine SL.pure rfl rfl rfl (PureOp.add rfl rfl (fun _ => by omega)) ?_
            refine SL.pure rfl rfl rfl (PureOp.move rfl) ?_
            refine SL.nil ?_
            have e := drop_nth (l := l) (i := k) (by omega)
            rw [e] at hI
            simp only [chk] at hI
            rw [if_neg (by rw [near_pk k]; omega), if_pos (by simp [okOff]; omega)] at hI
            refine QX.round 1 (k + 1) ⟨⟨by omega, ?_, ?_⟩, by omega⟩ ⟨rfl, rfl, rfl, rfl, rfl, rfl, rfl, rfl, trivial⟩ rfl
            · rw [← hI, pk_succ]
            · intro _; rw [show (((k + 1 : Nat) : Int) - 1).toNat = k from by omega]; omega
      · simp only [okOff, Bool.and_eq_true, Bool.or_eq_true, Bool.not_eq_true', Bool.not_eq_false', Bool.and_eq_false_iff, Bool.or_eq_false_iff, decide_eq_true_eq, decide_eq_false_iff_not, Int.not_lt, Int.not_le, ne_eq, Decidable.not_not] at h3
        refine WC.exit ?_
        refine QX.exit_then ?_
        refine QX.exit_then ?_
        refine QX.exit_hit ?_
        refine QX.then_ ?_
        refine WC.seq ?_
        refine WC.region ?_
        refine SL.pure rfl rfl rfl (PureOp.assign rfl) ?_
        refine SL.nil_then ?_
        refine WC.ret ?_
        refine QX.ret1 rfl rfl ?_
        intro w hw
        have e : l.drop k = [] := List.drop_eq_nil_of_le (by omega)
        rw [checkZ, if_neg (by omega), if_pos (by simp [okOff]; omega), ← hI, e]
        rfl

set_option maxHeartbeats 4000000 in
set_option maxRecDepth 100000 in
theorem rcheck_ok (o : Int) (l : List Sh) (ao : Option Addr) (n cap : Nat) (hn : n = l.length) (w0 : World) (hz : SliceIn w0 2 ao n cap (rowsF encS l)) (hb : ∀ k, In64 (nth l k).1) : FnC Try.prog 6 [.agg #[.int .i64 o, .slice ao n cap]] w0 fun v _ => v = .int .i64 (checkZ o l) := by
  refine fnc (N := 54) Try.func6 rfl rfl rfl ?_
  refine WC.seq ?_
  refine WC.region ?_
  refine SL.box rfl rfl rfl (fun b1 hb1 => ?_)
  refine SL.pure rfl rfl rfl (PureOp.assign rfl) ?_
  refine SL.nil_then ?_
  refine WC.seq ?_
  refine WC.seq ?_
  refine WC.region ?_
  refine SL.pure rfl rfl rfl (PureOp.fieldAddrT 1 Try.underlying24 rfl sz22 rfl rfl) ?_
  refine SL.pure rfl rfl rfl (PureOp.load Try.underlying22 rfl rfl (fun _ => (CellIs.cells 0 rfl rfl))) ?_
  refine SL.pure rfl rfl rfl (PureOp.len rfl Try.underlying22) ?_
  refine SL.pure rfl rfl rfl (PureOp.gtr rfl rfl) ?_
  refine SL.nil_then ?_
  refine WC.cond rfl (fun h1 => ?_) (fun h1 => ?_)
  · simp only [okOff, Bool.and_eq_true, Bool.or_eq_true, Bool.not_eq_true', Bool.not_eq_false', Bool.and_eq_false_iff, Bool.or_eq_false_iff, decide_eq_true_eq, decide_eq_false_iff_not, Int.not_lt, Int.not_le, ne_eq, Decidable.not_not] at h1
    refine WC.seq ?_
    refine WC.region ?_
    refine SL.pure rfl rfl rfl (PureOp.assign rfl) ?_
    refine SL.nil_then ?_
    refine WC.ret ?_
    refine QX.ret_then ?_
    refine QX.ret1 rfl rfl ?_
    intro w hw
    rw [checkZ, if_pos (by omega)]
  · simp only [okOff, Bool.and_eq_true, Bool.or_eq_true, Bool.not_eq_true', Bool.not_eq_false', Bool.and_eq_false_iff, Bool.or_eq_false_iff, decide_eq_true_eq, decide_eq_false_iff_not, Int.not_lt, Int.not_le, ne_eq, Decidable.not_not] at h1
    refine WC.skip ?_
    refine QX.then_ ?_
    refine WC.seq ?_
    refine WC.seq ?_
    refine WC.region ?_
    refine SL.pure rfl rfl rfl (PureOp.fieldAddrT 0 Try.underlying24 rfl sz3 rfl rfl) ?_
    refine SL.pure rfl rfl rfl (PureOp.load Try.underlying3 rfl rfl (fun _ => (CellIs.cells 0 rfl rfl))) ?_
    refine SL.calle rfl rfl rfl rfl rfl rfl callable20 (fun w hw => offset_ok _ w) ?_
    refine SL.pure rfl rfl rfl (PureOp.not rfl) ?_
    refine SL.nil_then ?_
    refine WC.cond rfl (fun h2 => ?_) (fun h2 => ?_)
    · simp only [okOff, Bool.and_eq_true, Bool.or_eq_true, Bool.not_eq_true', Bool.not_eq_false', Bool.and_eq_false_iff, Bool.or_eq_false_iff, decide_eq_true_eq, decide_eq_false_iff_not, Int.not_lt, Int.not_le, ne_eq, Decidable.not_not] at h2
      refine WC.seq ?_
      refine WC.region ?_
      refine SL.pure rfl rfl rfl (PureOp.assign rfl) ?_
      refine SL.nil_then ?_
      refine WC.ret ?_
      refine QX.ret_then ?_
      refine QX.ret1 rfl rfl ?_
      intro w hw
      rw [checkZ, if_neg (by omega), if_neg (by simp [okOff]; omega)]
    · simp only [okOff, Bool.and_eq_true, Bool.or_eq_true, Bool.not_eq_true', Bool.not_eq_false', Bool.and_eq_false_iff, Bool.or_eq_false_iff, decide_eq_true_eq, decide_eq_false_iff_not, Int.not_lt, Int.not_le, ne_eq, Decidable.not_not] at h2
      refine WC.skip ?_
      refine QX.then_ ?_
      refine WC.seq ?_
      refine WC.seq ?_
      refine WC.region ?_
      refine SL.pure rfl rfl rfl (PureOp.assign rfl) ?_
      refine SL.nil_then ?_
      refine WC.block ?_
      refine WC.loop (σ := Nat) (fun s => [(1, 0, .pointer (some ⟨b1, 0, none⟩)), (3, 0, .int .i64 (s : Nat))]) (fun _ => [Item.cells b1 [.int .i64 o, .slice ao n cap] 24]) (fun k => k ≤ n ∧ chk (pk l k) (l.drop k) = chk none l ∧ (0 < k → 0 ≤ (nth l ((k : Int) - 1).toNat).1)) (fun k => n - k) 1 (0) (⟨Nat.zero_le _, rfl, fun h => absurd h (by omega)⟩) ⟨rfl, rfl, rfl, rfl, trivial⟩ rfl ?_
      rintro k ⟨hk, hI, hp⟩
      refine WC.seq ?_
      refine WC.seq ?_
      refine WC.region ?_
      refine SL.pure rfl rfl rfl (PureOp.move rfl) ?_
      refine SL.pure rfl rfl rfl (PureOp.fieldAddrT 1 Try.underlying24 rfl sz22 rfl rfl) ?_
      refine SL.pure rfl rfl rfl (PureOp.load Try.underlying22 rfl rfl (fun _ => (CellIs.cells 0 rfl rfl))) ?_
      refine SL.pure rfl rfl rfl (PureOp.len rfl Try.underlying22) ?_
      refine SL.pure rfl rfl rfl (PureOp.lss rfl rfl) ?_
      refine SL.nil_then ?_
      refine WC.cond rfl (fun h3 => ?_) (fun h3 => ?_)
      · simp only [okOff, Bool.and_eq_true, Bool.or_eq_true, Bool.not_eq_true', Bool.not_eq_false', Bool.and_eq_false_iff, Bool.or_eq_false_iff, decide_eq_true_eq, decide_eq_false_iff_not, Int.not_lt, Int.not_le, ne_eq, Decidable.not_not] at h3
        refine WC.skip ?_
        refine QX.then_ ?_
        refine WC.seq ?_
        refine WC.block ?_
        refine WC.seq ?_
        refine WC.region ?_
        refine SL.pure rfl rfl rfl (PureOp.fieldAddrT 1 Try.underlying24 rfl sz22 rfl rfl) ?_
        refine SL.pure rfl rfl rfl (PureOp.load Try.underlying22 rfl rfl (fun _ => (CellIs.cells 0 rfl rfl))) ?_
        refine SL.pure rfl rfl rfl (PureOp.move rfl) ?_
        refine SL.pure rfl rfl rfl (PureOp.indexAddrN Try.underlying22 sz34 rfl rfl (AoOk.in_ hz) (fun _ => by omega)) ?_
        refine SL.pure rfl rfl rfl (PureOp.loads Try.underlying34 rfl rfl (fun _ => (RowIs.in_ hz _ 0 2 (by omega) (by omega))) sz34) ?_
        refine SL.alloc rfl rfl zero34 (fun b2 hb2 => ?_)
        refine SL.store 1 rfl rfl rfl rfl sz34 rfl rfl ?_
        refine SL.nil_then ?_
        refine WC.seq ?_
        refine WC.seq ?_
        refine WC.quiet rfl (by kernel_rfl) ?_
        refine SQ.pure rfl rfl rfl (PureOp.fieldAddrT 0 Try.underlying34 rfl sz3 rfl rfl) ?_
        refine SQ.pure rfl rfl rfl (PureOp.load Try.underlying3 rfl rfl (fun _ => (CellIs.cells 1 rfl rfl))) ?_
        refine SQ.pure rfl rfl rfl (PureOp.lss rfl rfl) ?_
        refine SQ.pure rfl rfl rfl (PureOp.move rfl) ?_
        refine SQ.newg 28 false rfl ?_
        refine SQ.gpure (c := 1) rfl rfl rfl rfl rfl rfl rfl (PureOp.fieldAddrT 0 Try.underlying34 rfl sz3 rfl rfl) ?_
        refine SQ.gpure (c := 1) rfl rfl rfl rfl rfl rfl rfl (PureOp.load Try.underlying3 rfl rfl (fun _ => (CellIs.cells 1 rfl rfl))) ?_
        refine SQ.gpure (c := 1) rfl rfl rfl rfl rfl rfl rfl (PureOp.geq rfl rfl) ?_
        refine SQ.pure rfl rfl rfl (PureOp.or_ rfl rfl rfl rfl) ?_
        refine SQ.pure rfl rfl rfl (PureOp.move rfl) ?_
        refine SQ.newg 33 false rfl ?_
        refine SQ.gpure (c := 2) rfl rfl rfl rfl rfl rfl rfl (PureOp.move rfl) ?_
        refine SQ.gpure (c := 2) rfl rfl rfl rfl rfl rfl rfl (PureOp.gtr rfl rfl) ?_
        refine SQ.gpure (c := 2) rfl rfl rfl rfl rfl rfl rfl (PureOp.move rfl) ?_
        refine SQ.newg 36 true rfl ?_
        refine SQ.gpure (c := 3) rfl rfl rfl rfl rfl rfl rfl (PureOp.fieldAddrT 0 Try.underlying34 rfl sz3 rfl rfl) ?_
        refine SQ.gpure (c := 3) rfl rfl rfl rfl rfl rfl rfl (PureOp.load Try.underlying3 rfl rfl (fun _ => (CellIs.cells 1 rfl rfl))) ?_
        refine SQ.gpure (c := 3) rfl rfl rfl rfl rfl rfl rfl (PureOp.fieldAddrT 1 Try.underlying24 rfl sz22 rfl rfl) ?_
        refine SQ.gpure (c := 3) rfl rfl rfl rfl rfl rfl rfl (PureOp.load Try.underlying22 rfl rfl (fun _ => (CellIs.cells 0 rfl rfl))) ?_
        refine SQ.gpure (c := 3) rfl rfl rfl rfl rfl rfl rfl (PureOp.move rfl) ?_
        refine SQ.gpure (c := 3) rfl rfl rfl rfl rfl rfl rfl (PureOp.sub rfl rfl (by intro hg; simp [gval] at hg; (have q1 := hb k; have q2 := hb ((k : Int) - 1).toNat; have q3 := hp (by omega); unfold In64 at q1 q2; omega))) ?_
        refine SQ.gpure (c := 3) rfl rfl rfl rfl rfl rfl rfl (PureOp.indexAddr Try.underlying22 sz34 rfl rfl (AoOk.in_ hz) (by intro hg; simp [gval] at hg; (have q1 := hb k; have q2 := hb ((k : Int) - 1).toNat; have q3 := hp (by omega); unfold In64 at q1 q2; omega))) ?_
        refine SQ.gpure (c := 3) rfl rfl rfl rfl rfl rfl rfl (PureOp.fieldAddr 0 Try.underlying34 rfl rfl sz3 rfl) ?_
        refine SQ.gpure (c := 3) rfl rfl rfl rfl rfl rfl rfl (PureOp.load Try.underlying3 rfl rfl (by intro hg; simp [gval] at hg; exact (CellIs.in_ hz ((k : Int) - 1).toNat 0 (by omega) (by omega)))) ?_
        refine SQ.gpure (c := 3) rfl rfl rfl rfl rfl rfl rfl (PureOp.sub rfl rfl (by intro hg; simp [gval] at hg; (have q1 := hb k; have q2 := hb ((k : Int) - 1).toNat; have q3 := hp (by omega); unfold In64 at q1 q2; omega))) ?_
        refine SQ.gpure (c := 3) rfl rfl rfl rfl rfl rfl rfl (PureOp.lss rfl rfl) ?_
        refine SQ.gpure (c := 2) rfl rfl rfl rfl rfl rfl rfl (PureOp.and_ rfl rfl rfl rfl) ?_
        refine SQ.pure rfl rfl rfl (PureOp.or_ rfl rfl rfl rfl) ?_
        refine SQ.nil_then ?_
        refine WC.cond rfl (fun h4 => ?_) (fun h4 => ?_)
        · simp only [okOff, Bool.and_eq_true, Bool.or_eq_true, Bool.not_eq_true', Bool.not_eq_false', Bool.and_eq_false_iff, Bool.or_eq_false_iff, decide_eq_true_eq, decide_eq_false_iff_not, Int.not_lt, Int.not_le, ne_eq, Decidable.not_not] at h4
          refine WC.seq ?_
          refine WC.region ?_
          refine SL.pure rfl rfl rfl (PureOp.assign rfl) ?_
          refine SL.nil_then ?_
          refine WC.ret ?_
          refine QX.ret_then ?_
          refine QX.ret_in ?_
          refine QX.ret_then ?_
          refine QX.ret_then ?_
          refine QX.ret_in ?_
          refine QX.ret_then ?_
          refine QX.ret1 rfl rfl ?_
          intro w hw
          have e := drop_nth (l := l) (i := k) (by omega)
          rw [checkZ, if_neg (by omega), if_pos (by simp [okOff]; omega), ← hI, e]
          simp only [chk]
          rw [if_pos (by rw [near_pk k]; omega)]
        · simp only [okOff, Bool.and_eq_true, Bool.or_eq_true, Bool.not_eq_true', Bool.not_eq_false', Bool.and_eq_false_iff, Bool.or_eq_false_iff, decide_eq_true_eq, decide_eq_false_iff_not, Int.not_lt, Int.not_le, ne_eq, Decidable.not_not] at h4
          refine WC.skip ?_
          refine QX.then_ ?_
          refine WC.seq ?_
          refine WC.region ?_
          refine SL.pure rfl rfl rfl (PureOp.fieldAddrT 1 Try.underlying34 rfl sz3 rfl rfl) ?_
          refine SL.pure rfl rfl rfl (PureOp.load Try.underlying3 rfl rfl (fun _ => (CellIs.cells 1 rfl rfl))) ?_
          refine SL.calle rfl rfl rfl rfl rfl rfl callable20 (fun w hw => offset_ok _ w) ?_
          refine SL.pure rfl rfl rfl (PureOp.not rfl) ?_
          refine SL.nil_then ?_
          refine WC.cond rfl (fun h5 => ?_) (fun h5 => ?_)
          · simp only [okOff, Bool.and_eq_true, Bool.or_eq_true, Bool.not_eq_true', Bool.not_eq_false', Bool.and_eq_false_iff, Bool.or_eq_false_iff, decide_eq_true_eq, decide_eq_false_iff_not, Int.not_lt, Int.not_le, ne_eq, Decidable.not_not] at h5
            refine WC.seq ?_
            refine WC.region ?_
            refine SL.pure rfl rfl rfl (PureOp.assign rfl) ?_
            refine SL.nil_then ?_
            refine WC.ret ?_
            refine QX.ret_in ?_
            refine QX.ret_then ?_
            refine QX.ret_then ?_
            refine QX.ret_in ?_
            refine QX.ret_then ?_
            refine QX.ret1 rfl rfl ?_
            intro w hw
            have e := drop_nth (l := l) (i := k) (by omega)
            rw [checkZ, if_neg (by omega), if_pos (by simp [okOff]; omega), ← hI, e]
            simp only [chk]
            rw [if_neg (by rw [near_pk k]; omega), if_neg (by simp [okOff]; omega)]
          · simp only [okOff, Bool.and_eq_true, Bool.or_eq_true, Bool.not_eq_true', Bool.not_eq_false', Bool.and_eq_false_iff, Bool.or_eq_false_iff, decide_eq_true_eq, decide_eq_false_iff_not, Int.not_lt, Int.not_le, ne_eq, Decidable.not_not] at h5
            refine WC.skip ?_
            refine QX.normal_in ?_
            refine QX.then_ ?_
            refine WC.region ?_
            refine SL.pure rfl rfl rfl (PureOp.move rfl) ?_
            refine SL.pure rfl rfl rfl (PureOp.add rfl rfl (fun _ => by omega)) ?_
            refine SL.pure rfl rfl rfl (PureOp.assign rfl) ?_
            refine SL.nil ?_
            have e := drop_nth (l := l) (i := k) (by omega)
            rw [e] at hI
            simp only [chk] at hI
            rw [if_neg (by rw [near_pk k]; omega), if_pos (by simp [okOff]; omega)] at hI
            refine QX.round 1 (k + 1) ⟨⟨by omega, ?_, ?_⟩, by omega⟩ ⟨rfl, rfl, rfl, rfl, trivial⟩ rfl
            · rw [← hI, pk_succ]
            · intro _; rw [show (((k + 1 : Nat) : Int) - 1).toNat = k from by omega]; omega
      · simp only [okOff, Bool.and_eq_true, Bool.or_eq_true, Bool.not_eq_true', Bool.not_eq_false', Bool.and_eq_false_iff, Bool.or_eq_false_iff, decide_eq_true_eq, decide_eq_false_iff_not, Int.not_lt, Int.not_le, ne_eq, Decidable.not_not] at h3
        refine WC.exit ?_
        refine QX.exit_then ?_
        refine QX.exit_then ?_
        refine QX.exit_hit ?_
        refine QX.then_ ?_
        refine WC.seq ?_
        refine WC.region ?_
        refine SL.pure rfl rfl rfl (PureOp.assign rfl) ?_
        refine SL.nil_then ?_
        refine WC.ret ?_
        refine QX.ret1 rfl rfl ?_
        intro w hw
        have e : l.drop k = [] := List.drop_eq_nil_of_le (by omega)
        rw [checkZ, if_neg (by omega), if_pos (by simp [okOff]; omega), ← hI, e]
        rfl

set_option maxHeartbeats 4000000 in
set_option maxRecDepth 100000 in
theorem offZ_ok (o : Int) (l : List Sh) (ao : Option Addr) (n cap : Nat) (hn : n = l.length) (w0 : World) (hz : SliceIn w0 2 ao n cap (rowsF encS l)) (u : Int) (hnb : n ≤ 1000) : FnC Try.prog 9 [.agg #[.int .i64 o, .slice ao n cap], .int .i64 u] w0 fun v _ => v = .int .i64 (offZ o l u) := by
  refine fnc (N := 25) Try.func9 rfl rfl rfl ?_
  refine WC.seq ?_
  refine WC.region ?_
  refine SL.box rfl rfl rfl (fun b1 hb1 => ?_)
  refine SL.pure rfl rfl rfl (PureOp.assign rfl) ?_
  refine SL.nil_then ?_
  refine WC.seq ?_
  refine WC.region ?_
  refine SL.pure rfl rfl rfl (PureOp.fieldAddrT 0 Try.underlying24 rfl sz3 rfl rfl) ?_
  refine SL.pure rfl rfl rfl (PureOp.load Try.underlying3 rfl rfl (fun _ => (CellIs.cells 0 rfl rfl))) ?_
  refine SL.pure rfl rfl rfl (PureOp.assign rfl) ?_
  refine SL.nil_then ?_
  refine WC.seq ?_
  refine WC.seq ?_
  refine WC.region ?_
  refine SL.pure rfl rfl rfl (PureOp.fieldAddrT 1 Try.underlying24 rfl sz22 rfl rfl) ?_
  refine SL.pure rfl rfl rfl (PureOp.load Try.underlying22 rfl rfl (fun _ => (CellIs.cells 0 rfl rfl))) ?_
  refine SL.pure rfl rfl rfl (PureOp.len rfl Try.underlying22) ?_
  refine SL.pure rfl rfl rfl (PureOp.move rfl) ?_
  refine SL.nil_then ?_
  refine WC.block ?_
  refine WC.loop (σ := Nat × Int) (fun s => [(2, 0, .pointer (some ⟨b1, 0, none⟩)), (1, 0, .int .i64 u), (11, 0, .slice ao n cap), (12, 0, .int .i64 n), (13, 0, .int .i64 (s.1 : Nat)), (5, 0, .int .i64 s.2)]) (fun _ => [Item.cells b1 [.int .i64 o, .slice ao n cap] 24]) (fun s => s.1 ≤ n ∧ offZ s.2 (l.drop s.1) u = offZ o l u) (fun s => n - s.1) 1 ((0, o)) (⟨Nat.zero_le _, rfl⟩) ⟨rfl, rfl, rfl, rfl, rfl, rfl, rfl, rfl, rfl, rfl, rfl, rfl, trivial⟩ rfl ?_
  rintro ⟨k, a⟩ ⟨hk, hI⟩
  dsimp only at hk hI ⊢
  refine WC.seq ?_
  refine WC.region ?_
  refine SL.pure rfl rfl rfl (PureOp.lss rfl rfl) ?_
  refine SL.nil_then ?_
  refine WC.seq ?_
  refine WC.cond rfl (fun h1 => ?_) (fun h1 => ?_)
  · simp only [Bool.and_eq_true, Bool.or_eq_true, Bool.not_eq_true', Bool.not_eq_false', Bool.and_eq_false_iff, Bool.or_eq_false_iff, decide_eq_true_eq, decide_eq_false_iff_not, Int.not_lt, Int.not_le, ne_eq, Decidable.not_not] at h1
    refine WC.skip ?_
    refine QX.then_ ?_
    refine WC.seq ?_
    refine WC.block ?_
    refine WC.seq ?_
    refine WC.region ?_
    refine SL.pure rfl rfl rfl (PureOp.indexAddrN Try.underlying22 sz34 rfl rfl (AoOk.in_ hz) (fun _ => by omega)) ?_
    refine SL.pure rfl rfl rfl (PureOp.loads Try.underlying34 rfl rfl (fun _ => (RowIs.in_ hz _ 0 2 (by omega) (by omega))) sz34) ?_
    refine SL.alloc rfl rfl zero34 (fun b2 hb2 => ?_)
    refine SL.store 1 rfl rfl rfl rfl sz34 rfl rfl ?_
    refine SL.nil_then ?_
    refine WC.seq ?_
    refine WC.seq ?_
    refine WC.region ?_
    refine SL.pure rfl rfl rfl (PureOp.fieldAddrT 0 Try.underlying34 rfl sz3 rfl rfl) ?_
    refine SL.pure rfl rfl rfl (PureOp.load Try.underlying3 rfl rfl (fun _ => (CellIs.cells 1 rfl rfl))) ?_
    refine SL.pure rfl rfl rfl (PureOp.move rfl) ?_
    refine SL.pure rfl rfl rfl (PureOp.gtr rfl rfl) ?_
    refine SL.nil_then ?_
    refine WC.cond rfl (fun h2 => ?_) (fun h2 => ?_)
    · simp only [Bool.and_eq_true, Bool.or_eq_true, Bool.not_eq_true', Bool.not_eq_false', Bool.and_eq_false_iff, Bool.or_eq_false_iff, decide_eq_true_eq, decide_eq_false_iff_not, Int.not_lt, Int.not_le, ne_eq, Decidable.not_not] at h2
      refine WC.exit ?_
      refine QX.exit_then ?_
      refine QX.exit_miss rfl ?_
      refine QX.exit_then ?_
      refine QX.exit_then ?_
      refine QX.exit_hit ?_
      refine QX.then_ ?_
      refine WC.seq ?_
      refine WC.region ?_
      refine SL.pure rfl rfl rfl (PureOp.move rfl) ?_
      refine SL.pure rfl rfl rfl (PureOp.assign rfl) ?_
      refine SL.nil_then ?_
      refine WC.ret ?_
      refine QX.ret1 rfl rfl ?_
      intro w hw
      have e := drop_nth (l := l) (i := k) (by omega)
      rw [← hI, e]
      simp only [offZ]
      rw [if_pos (by omega)]
    · simp only [Bool.and_eq_true, Bool.or_eq_true, Bool.not_eq_true', Bool.not_eq_false', Bool.and_eq_false_iff, Bool.or_eq_false_iff, decide_eq_true_eq, decide_eq_false_iff_not, Int.not_lt, Int.not_le, ne_eq, Decidable.not_not] at h2
      refine WC.skip ?_
      refine QX.then_ ?_
      refine WC.region ?_
      refine SL.pure rfl rfl rfl (PureOp.fieldAddrT 1 Try.underlying34 rfl sz3 rfl rfl) ?_
      refine SL.pure rfl rfl rfl (PureOp.load Try.underlying3 rfl rfl (fun _ => (CellIs.cells 1 rfl rfl))) ?_
      refine SL.pure rfl rfl rfl (PureOp.assign rfl) ?_
      refine SL.nil ?_
      refine QX.normal_in ?_
      refine QX.then_ ?_
      refine WC.region ?_
      refine SL.pure rfl rfl rfl (PureOp.add rfl rfl (fun _ => by omega)) ?_
      refine SL.pure rfl rfl rfl (PureOp.move rfl) ?_
      refine SL.nil ?_
      have e := drop_nth (l := l) (i := k) (by omega)
      refine QX.round (s := (k, a)) (μ := fun s => n - s.1) 1 (k + 1, _) ⟨⟨by show k + 1 ≤ n; omega, ?_⟩, by show n - (k + 1) < n - k; omega⟩ ⟨rfl, rfl, rfl, rfl, rfl, rfl, rfl, rfl, rfl, rfl, rfl, rfl, trivial⟩ rfl
      rw [← hI, e]
      simp only [offZ]
      first | rw [if_pos (by omega)] | rw [if_neg (by omega)]
  · simp only [Bool.and_eq_true, Bool.or_eq_true, Bool.not_eq_true', Bool.not_eq_false', Bool.and_eq_false_iff, Bool.or_eq_false_iff, decide_eq_true_eq, decide_eq_false_iff_not, Int.not_lt, Int.not_le, ne_eq, Decidable.not_not] at h1
    refine WC.exit ?_
    refine QX.exit_then ?_
    refine QX.exit_then ?_
    refine QX.exit_hit ?_
    refine QX.then_ ?_
    refine WC.seq ?_
    refine WC.region ?_
    refine SL.pure rfl rfl rfl (PureOp.move rfl) ?_
    refine SL.pure rfl rfl rfl (PureOp.assign rfl) ?_
    refine SL.nil_then ?_
    refine WC.ret ?_
    refine QX.ret1 rfl rfl ?_
    intro w hw
    have e : l.drop k = [] := List.drop_eq_nil_of_le (by omega)
    rw [← hI, e]
    rfl

set_option maxHeartbeats 4000000 in
set_option maxRecDepth 100000 in
theorem offR_ok (o : Int) (l : List Sh) (ao : Option Addr) (n cap : Nat) (hn : n = l.length) (w0 : World) (hz : SliceIn w0 2 ao n cap (rowsF encS l)) (u : Int) (hnb : n ≤ 1000) : FnC Try.prog 10 [.agg #[.int .i64 o, .slice ao n cap], .int .i64 u] w0 fun v _ => v = .int .i64 (offR o l u) := by
  refine fnc (N := 31) Try.func10 rfl rfl rfl ?_
  refine WC.seq ?_
  refine WC.region ?_
  refine SL.box rfl rfl rfl (fun b1 hb1 => ?_)
  refine SL.pure rfl rfl rfl (PureOp.assign rfl) ?_
  refine SL.nil_then ?_
  refine WC.seq ?_
  refine WC.region ?_
  refine SL.pure rfl rfl rfl (PureOp.fieldAddrT 0 Try.underlying24 rfl sz3 rfl rfl) ?_
  refine SL.pure rfl rfl rfl (PureOp.load Try.underlying3 rfl rfl (fun _ => (CellIs.cells 0 rfl rfl))) ?_
  refine SL.pure rfl rfl rfl (PureOp.assign rfl) ?_
  refine SL.nil_then ?_
  refine WC.seq ?_
  refine WC.seq ?_
  refine WC.region ?_
  refine SL.pure rfl rfl rfl (PureOp.assign rfl) ?_
  refine SL.nil_then ?_
  refine WC.block ?_
  refine WC.loop (σ := Nat × Int) (fun s => [(2, 0, .pointer (some ⟨b1, 0, none⟩)), (1, 0, .int .i64 u), (6, 0, .int .i64 (s.1 : Nat)), (5, 0, .int .i64 s.2)]) (fun _ => [Item.cells b1 [.int .i64 o, .slice ao n cap] 24]) (fun s => s.1 ≤ n ∧ offR s.2 (l.drop s.1) u = offR o l u) (fun s => n - s.1) 1 ((0, o)) (⟨Nat.zero_le _, rfl⟩) ⟨rfl, rfl, rfl, rfl, rfl, rfl, rfl, rfl, trivial⟩ rfl ?_
  rintro ⟨k, a⟩ ⟨hk, hI⟩
  dsimp only at hk hI ⊢
  refine WC.seq ?_
  refine WC.seq ?_
  refine WC.region ?_
  refine SL.pure rfl rfl rfl (PureOp.move rfl) ?_
  refine SL.pure rfl rfl rfl (PureOp.fieldAddrT 1 Try.underlying24 rfl sz22 rfl rfl) ?_
  refine SL.pure rfl rfl rfl (PureOp.load Try.underlying22 rfl rfl (fun _ => (CellIs.cells 0 rfl rfl))) ?_
  refine SL.pure rfl rfl rfl (PureOp.len rfl Try.underlying22) ?_
  refine SL.pure rfl rfl rfl (PureOp.lss rfl rfl) ?_
  refine SL.nil_then ?_
  refine WC.cond rfl (fun h1 => ?_) (fun h1 => ?_)
  · simp only [Bool.and_eq_true, Bool.or_eq_true, Bool.not_eq_true', Bool.not_eq_false', Bool.and_eq_false_iff, Bool.or_eq_false_iff, decide_eq_true_eq, decide_eq_false_iff_not, Int.not_lt, Int.not_le, ne_eq, Decidable.not_not] at h1
    refine WC.skip ?_
    refine QX.then_ ?_
    refine WC.seq ?_
    refine WC.block ?_
    refine WC.seq ?_
    refine WC.region ?_
    refine SL.pure rfl rfl rfl (PureOp.fieldAddrT 1 Try.underlying24 rfl sz22 rfl rfl) ?_
    refine SL.pure rfl rfl rfl (PureOp.load Try.underlying22 rfl rfl (fun _ => (CellIs.cells 0 rfl rfl))) ?_
    refine SL.pure rfl rfl rfl (PureOp.move rfl) ?_
    refine SL.pure rfl rfl rfl (PureOp.indexAddrN Try.underlying22 sz34 rfl rfl (AoOk.in_ hz) (fun _ => by omega)) ?_
    refine SL.pure rfl rfl rfl (PureOp.fieldAddr 0 Try.underlying34 rfl rfl sz3 rfl) ?_
    refine SL.pure rfl rfl rfl (PureOp.load Try.underlying3 rfl rfl (fun _ => (CellIs.in_ hz _ 0 (by omega) (by omega)))) ?_
    refine SL.pure rfl rfl rfl (PureOp.move rfl) ?_
    refine SL.pure rfl rfl rfl (PureOp.leq rfl rfl) ?_
    refine SL.nil_then ?_
    refine WC.cond rfl (fun h2 => ?_) (fun h2 => ?_)
    · simp only [Bool.and_eq_true, Bool.or_eq_true, Bool.not_eq_true', Bool.not_eq_false', Bool.and_eq_false_iff, Bool.or_eq_false_iff, decide_eq_true_eq, decide_eq_false_iff_not, Int.not_lt, Int.not_le, ne_eq, Decidable.not_not] at h2
      refine WC.region ?_
      refine SL.pure rfl rfl rfl (PureOp.fieldAddrT 1 Try.underlying24 rfl sz22 rfl rfl) ?_
      refine SL.pure rfl rfl rfl (PureOp.load Try.underlying22 rfl rfl (fun _ => (CellIs.cells 0 rfl rfl))) ?_
      refine SL.pure rfl rfl rfl (PureOp.move rfl) ?_
      refine SL.pure rfl rfl rfl (PureOp.indexAddrN Try.underlying22 sz34 rfl rfl (AoOk.in_ hz) (fun _ => by omega)) ?_
      refine SL.pure rfl rfl rfl (PureOp.fieldAddr 1 Try.underlying34 rfl rfl sz3 rfl) ?_
      refine SL.pure rfl rfl rfl (PureOp.load Try.underlying3 rfl rfl (fun _ => (CellIs.in_ hz _ 1 (by omega) (by omega)))) ?_
      refine SL.pure rfl rfl rfl (PureOp.assign rfl) ?_
      refine SL.nil ?_
      refine QX.normal_in ?_
      refine QX.then_ ?_
      refine WC.region ?_
      refine SL.pure rfl rfl rfl (PureOp.move rfl) ?_
      refine SL.pure rfl rfl rfl (PureOp.add rfl rfl (fun _ => by omega)) ?_
      refine SL.pure rfl rfl rfl (PureOp.assign rfl) ?_
      refine SL.nil ?_
      have e := drop_nth (l := l) (i := k) (by omega)
      refine QX.round (s := (k, a)) (μ := fun s => n - s.1) 1 (k + 1, _) ⟨⟨by show k + 1 ≤ n; omega, ?_⟩, by show n - (k + 1) < n - k; omega⟩ ⟨rfl, rfl, rfl, rfl, rfl, rfl, rfl, rfl, trivial⟩ rfl
      rw [← hI, e]
      simp only [offR]
      first | rw [if_pos (by omega)] | rw [if_neg (by omega)]
    · simp only [Bool.and_eq_true, Bool.or_eq_true, Bool.not_eq_true', Bool.not_eq_false', Bool.and_eq_false_iff, Bool.or_eq_false_iff, decide_eq_true_eq, decide_eq_false_iff_not, Int.not_lt, Int.not_le, ne_eq, Decidable.not_not] at h2
      refine WC.skip ?_
      refine QX.normal_in ?_
      refine QX.then_ ?_
      refine WC.region ?_
      refine SL.pure rfl rfl rfl (PureOp.move rfl) ?_
      refine SL.pure rfl rfl rfl (PureOp.add rfl rfl (fun _ => by omega)) ?_
      refine SL.pure rfl rfl rfl (PureOp.assign rfl) ?_
      refine SL.nil ?_
      have e := drop_nth (l := l) (i := k) (by omega)
      refine QX.round (s := (k, a)) (μ := fun s => n - s.1) 1 (k + 1, _) ⟨⟨by show k + 1 ≤ n; omega, ?_⟩, by show n - (k + 1) < n - k; omega⟩ ⟨rfl, rfl, rfl, rfl, rfl, rfl, rfl, rfl, trivial⟩ rfl
      rw [← hI, e]
      simp only [offR]
      first | rw [if_pos (by omega)] | rw [if_neg (by omega)]
  · simp only [Bool.and_eq_true, Bool.or_eq_true, Bool.not_eq_true', Bool.not_eq_false', Bool.and_eq_false_iff, Bool.or_eq_false_iff, decide_eq_true_eq, decide_eq_false_iff_not, Int.not_lt, Int.not_le, ne_eq, Decidable.not_not] at h1
    refine WC.exit ?_
    refine QX.exit_then ?_
    refine QX.exit_then ?_
    refine QX.exit_hit ?_
    refine QX.then_ ?_
    refine WC.seq ?_
    refine WC.region ?_
    refine SL.pure rfl rfl rfl (PureOp.move rfl) ?_
    refine SL.pure rfl rfl rfl (PureOp.assign rfl) ?_
    refine SL.nil_then ?_
    refine WC.ret ?_
    refine QX.ret1 rfl rfl ?_
    intro w hw
    have e : l.drop k = [] := List.drop_eq_nil_of_le (by omega)
    rw [← hI, e]
    rfl

set_option maxHeartbeats 4000000 in
set_option maxRecDepth 100000 in
theorem locZ_ok (o : Int) (l : List Sh) (ao : Option Addr) (n cap : Nat) (hn : n = l.length) (w0 : World) (hz : SliceIn w0 2 ao n cap (rowsF encS l)) (u : Int) (hv : Vd none l) (ho : -840 ≤ o ∧ o ≤ 840) (hnb : n ≤ 1000) (hu : -1099511627776 ≤ u ∧ u ≤ 1099511627776) : FnC Try.prog 11 [.agg #[.int .i64 o, .slice ao n cap], .int .i64 u] w0 fun v _ => v = .int .i64 (u + offZ o l u) := by
  refine fnc (N := 10) Try.func11 rfl rfl rfl ?_
  refine WC.seq ?_
  refine WC.region ?_
  refine SL.box rfl rfl rfl (fun b1 hb1 => ?_)
  refine SL.pure rfl rfl rfl (PureOp.assign rfl) ?_
  refine SL.nil_then ?_
  refine WC.seq ?_
  refine WC.region ?_
  refine SL.pure rfl rfl rfl (PureOp.move rfl) ?_
  refine SL.pure rfl rfl rfl (PureOp.loads Try.underlying24 rfl rfl (fun _ => (RowIs.cells 0 0 2 rfl rfl)) sz24) ?_
  refine SL.pure rfl rfl rfl (PureOp.move rfl) ?_
  refine SL.calle rfl rfl rfl rfl rfl rfl callable9 (fun w hw => offZ_ok o l ao n cap hn w (hz.below hw.below) u hnb) ?_
  refine SL.pure rfl rfl rfl (PureOp.add rfl rfl (fun _ => by (have q := offZ_bd l o u none hv ho.1 ho.2; omega))) ?_
  refine SL.pure rfl rfl rfl (PureOp.assign rfl) ?_
  refine SL.nil_then ?_
  refine WC.ret ?_
  refine QX.ret1 rfl rfl ?_
  intro w hw
  rfl

set_option maxHeartbeats 4000000 in
set_option maxRecDepth 100000 in
theorem locR_ok (o : Int) (l : List Sh) (ao : Option Addr) (n cap : Nat) (hn : n = l.length) (w0 : World) (hz : SliceIn w0 2 ao n cap (rowsF encS l)) (u : Int) (hv : Vd none l) (ho : -840 ≤ o ∧ o ≤ 840) (hnb : n ≤ 1000) (hu : -1099511627776 ≤ u ∧ u ≤ 1099511627776) : FnC Try.prog 12 [.agg #[.int .i64 o, .slice ao n cap], .int .i64 u] w0 fun v _ => v = .int .i64 (u + offR o l u) := by
  refine fnc (N := 10) Try.func12 rfl rfl rfl ?_
  refine WC.seq ?_
  refine WC.region ?_
  refine SL.box rfl rfl rfl (fun b1 hb1 => ?_)
  refine SL.pure rfl rfl rfl (PureOp.assign rfl) ?_
  refine SL.nil_then ?_
  refine WC.seq ?_
  refine WC.region ?_
  refine SL.pure rfl rfl rfl (PureOp.move rfl) ?_
  refine SL.pure rfl rfl rfl (PureOp.loads Try.underlying24 rfl rfl (fun _ => (RowIs.cells 0 0 2 rfl rfl)) sz24) ?_
  refine SL.pure rfl rfl rfl (PureOp.move rfl) ?_
  refine SL.calle rfl rfl rfl rfl rfl rfl callable10 (fun w hw => offR_ok o l ao n cap hn w (hz.below hw.below) u hnb) ?_
  refine SL.pure rfl rfl rfl (PureOp.add rfl rfl (fun _ => by (have q := offZ_bd l o u none hv ho.1 ho.2; rw [off_eq l o u none hv] at q; omega))) ?_
  refine SL.pure rfl rfl rfl (PureOp.assign rfl) ?_
  refine SL.nil_then ?_
  refine WC.ret ?_
  refine QX.ret1 rfl rfl ?_
  intro w hw
  rfl

set_option maxHeartbeats 4000000 in
set_option maxRecDepth 100000 in
theorem utcR_ok (o : Int) (l : List Sh) (ao : Option Addr) (n cap : Nat) (hn : n = l.length) (w0 : World) (hz : SliceIn w0 2 ao n cap (rowsF encS l)) (x : Int) (hv : Vd none l) (ho : -840 ≤ o ∧ o ≤ 840) (hnb : n ≤ 1000) (hx : -1099511627776 ≤ x ∧ x ≤ 1099511627776) : FnC Try.prog 14 [.agg #[.int .i64 o, .slice ao n cap], .int .i64 x] w0 fun v _ => v = .int .i64 (utcR (x - o) l x) := by
  refine fnc (N := 43) Try.func14 rfl rfl rfl ?_
  refine WC.seq ?_
  refine WC.region ?_
  refine SL.box rfl rfl rfl (fun b1 hb1 => ?_)
  refine SL.pure rfl rfl rfl (PureOp.assign rfl) ?_
  refine SL.nil_then ?_
  refine WC.seq ?_
  refine WC.region ?_
  refine SL.pure rfl rfl rfl (PureOp.move rfl) ?_
  refine SL.pure rfl rfl rfl (PureOp.fieldAddrT 0 Try.underlying24 rfl sz3 rfl rfl) ?_
  refine SL.pure rfl rfl rfl (PureOp.load Try.underlying3 rfl rfl (fun _ => (CellIs.cells 0 rfl rfl))) ?_
  refine SL.pure rfl rfl rfl (PureOp.sub rfl rfl (fun _ => by (first | omega | (have q := Vd_bd l none hv k; omega)))) ?_
  refine SL.pure rfl rfl rfl (PureOp.assign rfl) ?_
  refine SL.nil_then ?_
  refine WC.seq ?_
  refine WC.seq ?_
  refine WC.region ?_
  refine SL.pure rfl rfl rfl (PureOp.assign rfl) ?_
  refine SL.nil_then ?_
  refine WC.block ?_
  refine WC.loop (σ := Nat × Int) (fun s => [(2, 0, .pointer (some ⟨b1, 0, none⟩)), (1, 0, .int .i64 x), (6, 0, .int .i64 (s.1 : Nat)), (5, 0, .int .i64 s.2)]) (fun _ => [Item.cells b1 [.int .i64 o, .slice ao n cap] 24]) (fun s => s.1 ≤ n ∧ utcR s.2 (l.drop s.1) x = utcR (x - o) l x) (fun s => n - s.1) 1 ((0, x - o)) (⟨Nat.zero_le _, rfl⟩) ⟨rfl, rfl, rfl, rfl, rfl, rfl, rfl, rfl, trivial⟩ rfl ?_
  rintro ⟨k, a⟩ ⟨hk, hI⟩
  dsimp only at hk hI ⊢
  refine WC.seq ?_
  refine WC.seq ?_
  refine WC.region ?_
  refine SL.pure rfl rfl rfl (PureOp.move rfl) ?_
  refine SL.pure rfl rfl rfl (PureOp.fieldAddrT 1 Try.underlying24 rfl sz22 rfl rfl) ?_
  refine SL.pure rfl rfl rfl (PureOp.load Try.underlying22 rfl rfl (fun _ => (CellIs.cells 0 rfl rfl))) ?_
  refine SL.pure rfl rfl rfl (PureOp.len rfl Try.underlying22) ?_
  refine SL.pure rfl rfl rfl (PureOp.lss rfl rfl) ?_
  refine SL.nil_then ?_
  refine WC.cond rfl (fun h1 => ?_) (fun h1 => ?_)
  · simp only [Bool.and_eq_true, Bool.or_eq_true, Bool.not_eq_true', Bool.not_eq_false', Bool.and_eq_false_iff, Bool.or_eq_false_iff, decide_eq_true_eq, decide_eq_false_iff_not, Int.not_lt, Int.not_le, ne_eq, Decidable.not_not] at h1
    refine WC.skip ?_
    refine QX.then_ ?_
    refine WC.seq ?_
    refine WC.block ?_
    refine WC.seq ?_
    refine WC.seq ?_
    refine WC.region ?_
    refine SL.pure rfl rfl rfl (PureOp.move rfl) ?_
    refine SL.pure rfl rfl rfl (PureOp.fieldAddrT 1 Try.underlying24 rfl sz22 rfl rfl) ?_
    refine SL.pure rfl rfl rfl (PureOp.load Try.underlying22 rfl rfl (fun _ => (CellIs.cells 0 rfl rfl))) ?_
    refine SL.pure rfl rfl rfl (PureOp.move rfl) ?_
    refine SL.pure rfl rfl rfl (PureOp.indexAddrN Try.underlying22 sz34 rfl rfl (AoOk.in_ hz) (fun _ => by (first | omega | (have q := Vd_bd l none hv k; omega)))) ?_
    refine SL.pure rfl rfl rfl (PureOp.fieldAddr 0 Try.underlying34 rfl rfl sz3 rfl) ?_
    refine SL.pure rfl rfl rfl (PureOp.load Try.underlying3 rfl rfl (fun _ => (CellIs.in_ hz _ 0 (by omega) (by omega)))) ?_
    refine SL.pure rfl rfl rfl (PureOp.lss rfl rfl) ?_
    refine SL.nil_then ?_
    refine WC.cond rfl (fun h2 => ?_) (fun h2 => ?_)
    · simp only [Bool.and_eq_true, Bool.or_eq_true, Bool.not_eq_true', Bool.not_eq_false', Bool.and_eq_false_iff, Bool.or_eq_false_iff, decide_eq_true_eq, decide_eq_false_iff_not, Int.not_lt, Int.not_le, ne_eq, Decidable.not_not] at h2
      refine WC.seq ?_
      refine WC.region ?_
      refine SL.pure rfl rfl rfl (PureOp.move rfl) ?_
      refine SL.pure rfl rfl rfl (PureOp.assign rfl) ?_
      refine SL.nil_then ?_
      refine WC.ret ?_
      refine QX.ret_then ?_
      refine QX.ret_in ?_
      refine QX.ret_then ?_
      refine QX.ret_then ?_
      refine QX.ret_in ?_
      refine QX.ret_then ?_
      refine QX.ret1 rfl rfl ?_
      intro w hw
      have e := drop_nth (l := l) (i := k) (by omega)
      rw [← hI, e]
      simp only [utcR]
      rw [if_pos (by omega)]
    · simp only [Bool.and_eq_true, Bool.or_eq_true, Bool.not_eq_true', Bool.not_eq_false', Bool.and_eq_false_iff, Bool.or_eq_false_iff, decide_eq_true_eq, decide_eq_false_iff_not, Int.not_lt, Int.not_le, ne_eq, Decidable.not_not] at h2
      refine WC.skip ?_
      refine QX.then_ ?_
      refine WC.quiet rfl (by kernel_rfl) ?_
      refine SQ.pure rfl rfl rfl (PureOp.fieldAddrT 1 Try.underlying24 rfl sz22 rfl rfl) ?_
      refine SQ.pure rfl rfl rfl (PureOp.load Try.underlying22 rfl rfl (fun _ => (CellIs.cells 0 rfl rfl))) ?_
      refine SQ.pure rfl rfl rfl (PureOp.move rfl) ?_
      refine SQ.pure rfl rfl rfl (PureOp.indexAddrN Try.underlying22 sz34 rfl rfl (AoOk.in_ hz) (fun _ => by (first | omega | (have q := Vd_bd l none hv k; omega)))) ?_
      refine SQ.pure rfl rfl rfl (PureOp.fieldAddr 0 Try.underlying34 rfl rfl sz3 rfl) ?_
      refine SQ.pure rfl rfl rfl (PureOp.load Try.underlying3 rfl rfl (fun _ => (CellIs.in_ hz _ 0 (by omega) (by omega)))) ?_
      refine SQ.pure rfl rfl rfl (PureOp.move rfl) ?_
      refine SQ.pure rfl rfl rfl (PureOp.fieldAddrT 1 Try.underlying24 rfl sz22 rfl rfl) ?_
      refine SQ.pure rfl rfl rfl (PureOp.load Try.underlying22 rfl rfl (fun _ => (CellIs.cells 0 rfl rfl))) ?_
      refine SQ.pure rfl rfl rfl (PureOp.move rfl) ?_
      refine SQ.pure rfl rfl rfl (PureOp.indexAddrN Try.underlying22 sz34 rfl rfl (AoOk.in_ hz) (fun _ => by (first | omega | (have q := Vd_bd l none hv k; omega)))) ?_
      refine SQ.pure rfl rfl rfl (PureOp.fieldAddr 1 Try.underlying34 rfl rfl sz3 rfl) ?_
      refine SQ.pure rfl rfl rfl (PureOp.load Try.underlying3 rfl rfl (fun _ => (CellIs.in_ hz _ 1 (by omega) (by omega)))) ?_
      refine SQ.pure rfl rfl rfl (PureOp.sub rfl rfl (fun _ => by (first | omega | (have q := Vd_bd l none hv k; omega)))) ?_
      refine SQ.pure rfl rfl rfl (PureOp.max_ rfl rfl) ?_
      refine SQ.pure rfl rfl rfl (PureOp.assign rfl) ?_
      refine SQ.nil ?_
      refine QX.normal_in ?_
      refine QX.then_ ?_
      refine WC.region ?_
      refine SL.pure rfl rfl rfl (PureOp.move rfl) ?_
      refine SL.pure rfl rfl rfl (PureOp.add rfl rfl (fun _ => by (first | omega | (have q := Vd_bd l none hv k; omega)))) ?_
      refine SL.pure rfl rfl rfl (PureOp.assign rfl) ?_
      refine SL.nil ?_
      have e := drop_nth (l := l) (i := k) (by omega)
      refine QX.round (s := (k, a)) (μ := fun s => n - s.1) 1 (k + 1, _) ⟨⟨by show k + 1 ≤ n; omega, ?_⟩, by show n - (k + 1) < n - k; omega⟩ ⟨rfl, rfl, rfl, rfl, rfl, rfl, rfl, rfl, trivial⟩ rfl
      rw [← hI, e]
      simp only [utcR]
      first | rw [if_pos (by omega)] | rw [if_neg (by omega)]
  · simp only [Bool.and_eq_true, Bool.or_eq_true, Bool.not_eq_true', Bool.not_eq_false', Bool.and_eq_false_iff, Bool.or_eq_false_iff, decide_eq_true_eq, decide_eq_false_iff_not, Int.not_lt, Int.not_le, ne_eq, Decidable.not_not] at h1
    refine WC.exit ?_
    refine QX.exit_then ?_
    refine QX.exit_then ?_
    refine QX.exit_hit ?_
    refine QX.then_ ?_
    refine WC.seq ?_
    refine WC.region ?_
    refine SL.pure rfl rfl rfl (PureOp.move rfl) ?_
    refine SL.pure rfl rfl rfl (PureOp.assign rfl) ?_
    refine SL.nil_then ?_
    refine WC.ret ?_
    refine QX.ret1 rfl rfl ?_
    intro w hw
    have e : l.drop k = [] := List.drop_eq_nil_of_le (by omega)
    rw [← hI, e]
    rfl

set_option maxHeartbeats 4000000 in
set_option maxRecDepth 100000 in
theorem timesR_ok (o : Int) (l : List Sh) (ao : Option Addr) (n cap : Nat) (hn : n = l.length) (w0 : World) (hz : SliceIn w0 2 ao n cap (rowsF encS l)) (x : Int) (hv : Vd none l) (ho : -840 ≤ o ∧ o ≤ 840) (hnb : n ≤ 1000) (hx : -1099511627776 ≤ x ∧ x ≤ 1099511627776) : FnC Try.prog 23 [.agg #[.int .i64 o, .slice ao n cap], .int .i64 x] w0 fun v _ => v = .int .i64 (timesR0 o l x) := by
  refine fnc (N := 71) Try.func23 rfl rfl rfl ?_
  refine WC.seq ?_
  refine WC.region ?_
  refine SL.box rfl rfl rfl (fun b1 hb1 => ?_)
  refine SL.pure rfl rfl rfl (PureOp.assign rfl) ?_
  refine SL.nil_then ?_
  refine WC.seq ?_
  refine WC.region ?_
  refine SL.pure rfl rfl rfl (PureOp.assign rfl) ?_
  refine SL.nil_then ?_
  refine WC.seq ?_
  refine WC.seq ?_
  refine WC.quiet rfl (by kernel_rfl) ?_
  refine SQ.pure rfl rfl rfl (PureOp.fieldAddrT 1 Try.underlying24 rfl sz22 rfl rfl) ?_
  refine SQ.pure rfl rfl rfl (PureOp.load Try.underlying22 rfl rfl (fun _ => (CellIs.cells 0 rfl rfl))) ?_
  refine SQ.pure rfl rfl rfl (PureOp.len rfl Try.underlying22) ?_
  refine SQ.pure rfl rfl rfl (PureOp.eql rfl rfl) ?_
  refine SQ.pure rfl rfl rfl (PureOp.move rfl) ?_
  refine SQ.newg 12 false rfl ?_
  refine SQ.gpure (c := 1) rfl rfl rfl rfl rfl rfl rfl (PureOp.move rfl) ?_
  refine SQ.gpure (c := 1) rfl rfl rfl rfl rfl rfl rfl (PureOp.fieldAddrT 0 Try.underlying24 rfl sz3 rfl rfl) ?_
  refine SQ.gpure (c := 1) rfl rfl rfl rfl rfl rfl rfl (PureOp.load Try.underlying3 rfl rfl (fun _ => (CellIs.cells 0 rfl rfl))) ?_
  refine SQ.gpure (c := 1) rfl rfl rfl rfl rfl rfl rfl (PureOp.sub rfl rfl (by intro hg; simp [gval] at hg; omega)) ?_
  refine SQ.gpure (c := 1) rfl rfl rfl rfl rfl rfl rfl (PureOp.fieldAddrT 1 Try.underlying24 rfl sz22 rfl rfl) ?_
  refine SQ.gpure (c := 1) rfl rfl rfl rfl rfl rfl rfl (PureOp.load Try.underlying22 rfl rfl (fun _ => (CellIs.cells 0 rfl rfl))) ?_
  refine SQ.gpure (c := 1) rfl rfl rfl rfl rfl rfl rfl (PureOp.indexAddr Try.underlying22 sz34 rfl rfl (AoOk.in_ hz) (by intro hg; simp [gval] at hg; omega)) ?_
  refine SQ.gpure (c := 1) rfl rfl rfl rfl rfl rfl rfl (PureOp.fieldAddr 0 Try.underlying34 rfl rfl sz3 rfl) ?_
  refine SQ.gpure (c := 1) rfl rfl rfl rfl rfl rfl rfl (PureOp.load Try.underlying3 rfl rfl (by intro hg; simp [gval] at hg; exact (CellIs.in_ hz 0 0 (by omega) (by omega)))) ?_
  refine SQ.gpure (c := 1) rfl rfl rfl rfl rfl rfl rfl (PureOp.lss rfl rfl) ?_
  refine SQ.pure rfl rfl rfl (PureOp.or_ rfl rfl rfl rfl) ?_
  refine SQ.nil_then ?_
  refine WC.cond rfl (fun h1 => ?_) (fun h1 => ?_)
  · simp only [Bool.and_eq_true, Bool.or_eq_true, Bool.not_eq_true', Bool.not_eq_false', Bool.and_eq_false_iff, Bool.or_eq_false_iff, decide_eq_true_eq, decide_eq_false_iff_not, Int.not_lt, Int.not_le, ne_eq, Decidable.not_not] at h1
    refine WC.region ?_
    refine SL.pure rfl rfl rfl (PureOp.move rfl) ?_
    refine SL.pure rfl rfl rfl (PureOp.add rfl rfl (fun _ => by (first | omega | (have q := Vd_bd l none hv k; omega)))) ?_
    refine SL.pure rfl rfl rfl (PureOp.assign rfl) ?_
    refine SL.nil_then ?_
    refine WC.seq ?_
    refine WC.seq ?_
    refine WC.region ?_
    refine SL.pure rfl rfl rfl (PureOp.assign rfl) ?_
    refine SL.nil_then ?_
    refine WC.block ?_
    refine WC.loop (σ := Nat × Int) (fun s => [(2, 0, .pointer (some ⟨b1, 0, none⟩)), (1, 0, .int .i64 x), (6, 0, .int .i64 (s.1 : Nat)), (5, 0, .int .i64 s.2)]) (fun _ => [Item.cells b1 [.int .i64 o, .slice ao n cap] 24]) (fun s => s.1 ≤ n ∧ timesR s.2 (l.drop s.1) x = timesR0 o l x ∧ 0 ≤ s.2 ∧ s.2 ≤ s.1 + 1) (fun s => n - s.1) 1 ((0, 1)) (⟨Nat.zero_le _, by show timesR 1 l x = timesR0 o l x; unfold timesR0; congr 1; exact t0a hn h1, by simp, by simp⟩) ⟨rfl, rfl, rfl, rfl, rfl, rfl, rfl, rfl, trivial⟩ rfl ?_
    rintro ⟨k, a⟩ ⟨hk, hI⟩
    dsimp only at hk hI ⊢
    refine WC.seq ?_
    refine WC.seq ?_
    refine WC.region ?_
    refine SL.pure rfl rfl rfl (PureOp.move rfl) ?_
    refine SL.pure rfl rfl rfl (PureOp.fieldAddrT 1 Try.underlying24 rfl sz22 rfl rfl) ?_
    refine SL.pure rfl rfl rfl (PureOp.load Try.underlying22 rfl rfl (fun _ => (CellIs.cells 0 rfl rfl))) ?_
    refine SL.pure rfl rfl rfl (PureOp.len rfl Try.underlying22) ?_
    refine SL.pure rfl rfl rfl (PureOp.lss rfl rfl) ?_
    refine SL.nil_then ?_
    refine WC.cond rfl (fun h2 => ?_) (fun h2 => ?_)
    · simp only [Bool.and_eq_true, Bool.or_eq_true, Bool.not_eq_true', Bool.not_eq_false', Bool.and_eq_false_iff, Bool.or_eq_false_iff, decide_eq_true_eq, decide_eq_false_iff_not, Int.not_lt, Int.not_le, ne_eq, Decidable.not_not] at h2
      refine WC.skip ?_
      refine QX.then_ ?_
      refine WC.seq ?_
      refine WC.block ?_
      refine WC.seq ?_
      refine WC.region ?_
      refine SL.pure rfl rfl rfl (PureOp.move rfl) ?_
      refine SL.pure rfl rfl rfl (PureOp.fieldAddrT 1 Try.underlying24 rfl sz22 rfl rfl) ?_
      refine SL.pure rfl rfl rfl (PureOp.load Try.underlying22 rfl rfl (fun _ => (CellIs.cells 0 rfl rfl))) ?_
      refine SL.pure rfl rfl rfl (PureOp.move rfl) ?_
      refine SL.pure rfl rfl rfl (PureOp.indexAddrN Try.underlying22 sz34 rfl rfl (AoOk.in_ hz) (fun _ => by (first | omega | (have q := Vd_bd l none hv k; omega)))) ?_
      refine SL.pure rfl rfl rfl (PureOp.fieldAddr 1 Try.underlying34 rfl rfl sz3 rfl) ?_
      refine SL.pure rfl rfl rfl (PureOp.load Try.underlying3 rfl rfl (fun _ => (CellIs.in_ hz _ 1 (by omega) (by omega)))) ?_
      refine SL.pure rfl rfl rfl (PureOp.sub rfl rfl (fun _ => by (first | omega | (have q := Vd_bd l none hv k; omega)))) ?_
      refine SL.pure rfl rfl rfl (PureOp.assign rfl) ?_
      refine SL.nil_then ?_
      refine WC.seq ?_
      refine WC.region ?_
      refine SL.pure rfl rfl rfl (PureOp.move rfl) ?_
      refine SL.pure rfl rfl rfl (PureOp.fieldAddrT 1 Try.underlying24 rfl sz22 rfl rfl) ?_
      refine SL.pure rfl rfl rfl (PureOp.load Try.underlying22 rfl rfl (fun _ => (CellIs.cells 0 rfl rfl))) ?_
      refine SL.pure rfl rfl rfl (PureOp.move rfl) ?_
      refine SL.pure rfl rfl rfl (PureOp.indexAddrN Try.underlying22 sz34 rfl rfl (AoOk.in_ hz) (fun _ => by (first | omega | (have q := Vd_bd l none hv k; omega)))) ?_
      refine SL.pure rfl rfl rfl (PureOp.fieldAddr 0 Try.underlying34 rfl rfl sz3 rfl) ?_
      refine SL.pure rfl rfl rfl (PureOp.load Try.underlying3 rfl rfl (fun _ => (CellIs.in_ hz _ 0 (by omega) (by omega)))) ?_
      refine SL.pure rfl rfl rfl (PureOp.geq rfl rfl) ?_
      refine SL.pure rfl rfl rfl (PureOp.move rfl) ?_
      refine SL.newg 49 true rfl ?_
      refine SL.gpure (c := 1) rfl rfl rfl rfl rfl rfl rfl (PureOp.move rfl) ?_
      refine SL.gpure (c := 1) rfl rfl rfl rfl rfl rfl rfl (PureOp.add rfl rfl (by intro hg; simp [gval] at hg; omega)) ?_
      refine SL.gpure (c := 1) rfl rfl rfl rfl rfl rfl rfl (PureOp.fieldAddrT 1 Try.underlying24 rfl sz22 rfl rfl) ?_
      refine SL.gpure (c := 1) rfl rfl rfl rfl rfl rfl rfl (PureOp.load Try.underlying22 rfl rfl (fun _ => (CellIs.cells 0 rfl rfl))) ?_
      refine SL.gpure (c := 1) rfl rfl rfl rfl rfl rfl rfl (PureOp.len rfl Try.underlying22) ?_
      refine SL.gpure (c := 1) rfl rfl rfl rfl rfl rfl rfl (PureOp.eql rfl rfl) ?_
      refine SL.gpure (c := 1) rfl rfl rfl rfl rfl rfl rfl (PureOp.move rfl) ?_
      refine SL.newg 56 false rfl ?_
      refine SL.gpure (c := 2) rfl rfl rfl rfl rfl rfl rfl (PureOp.move rfl) ?_
      refine SL.gpure (c := 2) rfl rfl rfl rfl rfl rfl rfl (PureOp.fieldAddrT 1 Try.underlying24 rfl sz22 rfl rfl) ?_
      refine SL.gpure (c := 2) rfl rfl rfl rfl rfl rfl rfl (PureOp.load Try.underlying22 rfl rfl (fun _ => (CellIs.cells 0 rfl rfl))) ?_
      refine SL.gpure (c := 2) rfl rfl rfl rfl rfl rfl rfl (PureOp.move rfl) ?_
      refine SL.gpure (c := 2) rfl rfl rfl rfl rfl rfl rfl (PureOp.add rfl rfl (by intro hg; simp [gval] at hg; omega)) ?_
      refine SL.gpure (c := 2) rfl rfl rfl rfl rfl rfl rfl (PureOp.indexAddr Try.underlying22 sz34 rfl rfl (AoOk.in_ hz) (by intro hg; simp [gval] at hg; omega)) ?_
      refine SL.gpure (c := 2) rfl rfl rfl rfl rfl rfl rfl (PureOp.fieldAddr 0 Try.underlying34 rfl rfl sz3 rfl) ?_
      refine SL.gpure (c := 2) rfl rfl rfl rfl rfl rfl rfl (PureOp.load Try.underlying3 rfl rfl (by intro hg; simp [gval] at hg; exact (CellIs.in_ hz ((k : Int) + 1).toNat 0 (by omega) (by omega)))) ?_
      refine SL.gpure (c := 2) rfl rfl rfl rfl rfl rfl rfl (PureOp.lss rfl rfl) ?_
      refine SL.gpure (c := 1) rfl rfl rfl rfl rfl rfl rfl (PureOp.or_ rfl rfl rfl rfl) ?_
      refine SL.pure rfl rfl rfl (PureOp.and_ rfl rfl rfl rfl) ?_
      refine SL.nil_then ?_
      refine WC.cond rfl (fun h3 => ?_) (fun h3 => ?_)
      · simp only [Bool.and_eq_true, Bool.or_eq_true, Bool.not_eq_true', Bool.not_eq_false', Bool.and_eq_false_iff, Bool.or_eq_false_iff, decide_eq_true_eq, decide_eq_false_iff_not, Int.not_lt, Int.not_le, ne_eq, Decidable.not_not] at h3
        refine WC.region ?_
        refine SL.pure rfl rfl rfl (PureOp.move rfl) ?_
        refine SL.pure rfl rfl rfl (PureOp.add rfl rfl (fun _ => by (first | omega | (have q := Vd_bd l none hv k; omega)))) ?_
        refine SL.pure rfl rfl rfl (PureOp.assign rfl) ?_
        refine SL.nil ?_
        refine QX.normal_in ?_
        refine QX.then_ ?_
        refine WC.region ?_
        refine SL.pure rfl rfl rfl (PureOp.move rfl) ?_
        refine SL.pure rfl rfl rfl (PureOp.add rfl rfl (fun _ => by (first | omega | (have q := Vd_bd l none hv k; omega)))) ?_
        refine SL.pure rfl rfl rfl (PureOp.assign rfl) ?_
        refine SL.nil ?_
        have e := drop_nth (l := l) (i := k) (by omega)
        obtain ⟨hI, ha, hb⟩ := hI
        have q := Vd_bd l none hv k
        refine QX.round (s := (k, a)) (μ := fun s => n - s.1) 1 (k + 1, _) ⟨⟨by show k + 1 ≤ n; omega, ?_, by show (0 : Int) ≤ _; omega, by show _ ≤ ((k + 1 : Nat) : Int) + 1; omega⟩, by show n - (k + 1) < n - k; omega⟩ ⟨rfl, rfl, rfl, rfl, rfl, rfl, rfl, rfl, trivial⟩ rfl
        rw [← hI, e]
        simp only [timesR]
        first | rw [if_pos (by rw [before_at l k x]; omega)] | rw [if_neg (by rw [before_at l k x]; omega)]
      · simp only [Bool.and_eq_true, Bool.or_eq_true, Bool.not_eq_true', Bool.not_eq_false', Bool.and_eq_false_iff, Bool.or_eq_false_iff, decide_eq_true_eq, decide_eq_false_iff_not, Int.not_lt, Int.not_le, ne_eq, Decidable.not_not] at h3
        refine WC.skip ?_
        refine QX.normal_in ?_
        refine QX.then_ ?_
        refine WC.region ?_
        refine SL.pure rfl rfl rfl (PureOp.move rfl) ?_
        refine SL.pure rfl rfl rfl (PureOp.add rfl rfl (fun _ => by (first | omega | (have q := Vd_bd l none hv k; omega)))) ?_
        refine SL.pure rfl rfl rfl (PureOp.assign rfl) ?_
        refine SL.nil ?_
        have e := drop_nth (l := l) (i := k) (by omega)
        obtain ⟨hI, ha, hb⟩ := hI
        have q := Vd_bd l none hv k
        refine QX.round (s := (k, a)) (μ := fun s => n - s.1) 1 (k + 1, _) ⟨⟨by show k + 1 ≤ n; omega, ?_, by show (0 : Int) ≤ _; omega, by show _ ≤ ((k + 1 : Nat) : Int) + 1; omega⟩, by show n - (k + 1) < n - k; omega⟩ ⟨rfl, rfl, rfl, rfl, rfl, rfl, rfl, rfl, trivial⟩ rfl
        rw [← hI, e]
        simp only [timesR]
        first | rw [if_pos (by rw [before_at l k x]; omega)] | rw [if_neg (by rw [before_at l k x]; omega)]
    · simp only [Bool.and_eq_true, Bool.or_eq_true, Bool.not_eq_true', Bool.not_eq_false', Bool.and_eq_false_iff, Bool.or_eq_false_iff, decide_eq_true_eq, decide_eq_false_iff_not, Int.not_lt, Int.not_le, ne_eq, Decidable.not_not] at h2
      refine WC.exit ?_
      refine QX.exit_then ?_
      refine QX.exit_then ?_
      refine QX.exit_hit ?_
      refine QX.then_ ?_
      refine WC.seq ?_
      refine WC.region ?_
      refine SL.pure rfl rfl rfl (PureOp.move rfl) ?_
      refine SL.pure rfl rfl rfl (PureOp.assign rfl) ?_
      refine SL.nil_then ?_
      refine WC.ret ?_
      refine QX.ret1 rfl rfl ?_
      intro w hw
      obtain ⟨hI, ha, hb⟩ := hI
      have e : l.drop k = [] := List.drop_eq_nil_of_le (by omega)
      rw [← hI, e]
      rfl
  · simp only [Bool.and_eq_true, Bool.or_eq_true, Bool.not_eq_true', Bool.not_eq_false', Bool.and_eq_false_iff, Bool.or_eq_false_iff, decide_eq_true_eq, decide_eq_false_iff_not, Int.not_lt, Int.not_le, ne_eq, Decidable.not_not] at h1
    refine WC.skip ?_
    refine QX.then_ ?_
    refine WC.seq ?_
    refine WC.seq ?_
    refine WC.region ?_
    refine SL.pure rfl rfl rfl (PureOp.assign rfl) ?_
    refine SL.nil_then ?_
    refine WC.block ?_
    refine WC.loop (σ := Nat × Int) (fun s => [(2, 0, .pointer (some ⟨b1, 0, none⟩)), (1, 0, .int .i64 x), (6, 0, .int .i64 (s.1 : Nat)), (5, 0, .int .i64 s.2)]) (fun _ => [Item.cells b1 [.int .i64 o, .slice ao n cap] 24]) (fun s => s.1 ≤ n ∧ timesR s.2 (l.drop s.1) x = timesR0 o l x ∧ 0 ≤ s.2 ∧ s.2 ≤ s.1 + 1) (fun s => n - s.1) 1 ((0, 0)) (⟨Nat.zero_le _, by show timesR 0 l x = timesR0 o l x; unfold timesR0; congr 1; exact t0b hn h1, by simp, by simp⟩) ⟨rfl, rfl, rfl, rfl, rfl, rfl, rfl, rfl, trivial⟩ rfl ?_
    rintro ⟨k, a⟩ ⟨hk, hI⟩
    dsimp only at hk hI ⊢
    refine WC.seq ?_
    refine WC.seq ?_
    refine WC.region ?_
    refine SL.pure rfl rfl rfl (PureOp.move rfl) ?_
    refine SL.pure rfl rfl rfl (PureOp.fieldAddrT 1 Try.underlying24 rfl sz22 rfl rfl) ?_
    refine SL.pure rfl rfl rfl (PureOp.load Try.underlying22 rfl rfl (fun _ => (CellIs.cells 0 rfl rfl))) ?_
    refine SL.pure rfl rfl rfl (PureOp.len rfl Try.underlying22) ?_
    refine SL.pure rfl rfl rfl (PureOp.lss rfl rfl) ?_
    refine SL.nil_then ?_
    refine WC.cond rfl (fun h4 => ?_) (fun h4 => ?_)
    · simp only [Bool.and_eq_true, Bool.or_eq_true, Bool.not_eq_true', Bool.not_eq_false', Bool.and_eq_false_iff, Bool.or_eq_false_iff, decide_eq_true_eq, decide_eq_false_iff_not, Int.not_lt, Int.not_le, ne_eq, Decidable.not_not] at h4
      refine WC.skip ?_
      refine QX.then_ ?_
      refine WC.seq ?_
      refine WC.block ?_
      refine WC.seq ?_
      refine WC.region ?_
      refine SL.pure rfl rfl rfl (PureOp.move rfl) ?_
      refine SL.pure rfl rfl rfl (PureOp.fieldAddrT 1 Try.underlying24 rfl sz22 rfl rfl) ?_
      refine SL.pure rfl rfl rfl (PureOp.load Try.underlying22 rfl rfl (fun _ => (CellIs.cells 0 rfl rfl))) ?_
      refine SL.pure rfl rfl rfl (PureOp.move rfl) ?_
      refine SL.pure rfl rfl rfl (PureOp.indexAddrN Try.underlying22 sz34 rfl rfl (AoOk.in_ hz) (fun _ => by (first | omega | (have q := Vd_bd l none hv k; omega)))) ?_
      refine SL.pure rfl rfl rfl (PureOp.fieldAddr 1 Try.underlying34 rfl rfl sz3 rfl) ?_
      refine SL.pure rfl rfl rfl (PureOp.load Try.underlying3 rfl rfl (fun _ => (CellIs.in_ hz _ 1 (by omega) (by omega)))) ?_
      refine SL.pure rfl rfl rfl (PureOp.sub rfl rfl (fun _ => by (first | omega | (have q := Vd_bd l none hv k; omega)))) ?_
      refine SL.pure rfl rfl rfl (PureOp.assign rfl) ?_
      refine SL.nil_then ?_
      refine WC.seq ?_
      refine WC.region ?_
      refine SL.pure rfl rfl rfl (PureOp.move rfl) ?_
      refine SL.pure rfl rfl rfl (PureOp.fieldAddrT 1 Try.underlying24 rfl sz22 rfl rfl) ?_
      refine SL.pure rfl rfl rfl (PureOp.load Try.underlying22 rfl rfl (fun _ => (CellIs.cells 0 rfl rfl))) ?_
      refine SL.pure rfl rfl rfl (PureOp.move rfl) ?_
      refine SL.pure rfl rfl rfl (PureOp.indexAddrN Try.underlying22 sz34 rfl rfl (AoOk.in_ hz) (fun _ => by (first | omega | (have q := Vd_bd l none hv k; omega)))) ?_
      refine SL.pure rfl rfl rfl (PureOp.fieldAddr 0 Try.underlying34 rfl rfl sz3 rfl) ?_
      refine SL.pure rfl rfl rfl (PureOp.load Try.underlying3 rfl rfl (fun _ => (CellIs.in_ hz _ 0 (by omega) (by omega)))) ?_
      refine SL.pure rfl rfl rfl (PureOp.geq rfl rfl) ?_
      refine SL.pure rfl rfl rfl (PureOp.move rfl) ?_
      refine SL.newg 49 true rfl ?_
      refine SL.gpure (c := 1) rfl rfl rfl rfl rfl rfl rfl (PureOp.move rfl) ?_
      refine SL.gpure (c := 1) rfl rfl rfl rfl rfl rfl rfl (PureOp.add rfl rfl (by intro hg; simp [gval] at hg; omega)) ?_
      refine SL.gpure (c := 1) rfl rfl rfl rfl rfl rfl rfl (PureOp.fieldAddrT 1 Try.underlying24 rfl sz22 rfl rfl) ?_
      refine SL.gpure (c := 1) rfl rfl rfl rfl rfl rfl rfl (PureOp.load Try.underlying22 rfl rfl (fun _ => (CellIs.cells 0 rfl rfl))) ?_
      refine SL.gpure (c := 1) rfl rfl rfl rfl rfl rfl rfl (PureOp.len rfl Try.underlying22) ?_
      refine SL.gpure (c := 1) rfl rfl rfl rfl rfl rfl rfl (PureOp.eql rfl rfl) ?_
      refine SL.gpure (c := 1) rfl rfl rfl rfl rfl rfl rfl (PureOp.move rfl) ?_
      refine SL.newg 56 false rfl ?_
      refine SL.gpure (c := 2) rfl rfl rfl rfl rfl rfl rfl (PureOp.move rfl) ?_
      refine SL.gpure (c := 2) rfl rfl rfl rfl rfl rfl rfl (PureOp.fieldAddrT 1 Try.underlying24 rfl sz22 rfl rfl) ?_
      refine SL.gpure (c := 2) rfl rfl rfl rfl rfl rfl rfl (PureOp.load Try.underlying22 rfl rfl (fun _ => (CellIs.cells 0 rfl rfl))) ?_
      refine SL.gpure (c := 2) rfl rfl rfl rfl rfl rfl rfl (PureOp.move rfl) ?_
      refine SL.gpure (c := 2) rfl rfl rfl rfl rfl rfl rfl (PureOp.add rfl rfl (by intro hg; simp [gval] at hg; omega)) ?_
      refine SL.gpure (c := 2) rfl rfl rfl rfl rfl rfl rfl (PureOp.indexAddr Try.underlying22 sz34 rfl rfl (AoOk.in_ hz) (by intro hg; simp [gval] at hg; omega)) ?_
      refine SL.gpure (c := 2) rfl rfl rfl rfl rfl rfl rfl (PureOp.fieldAddr 0 Try.underlying34 rfl rfl sz3 rfl) ?_
      refine SL.gpure (c := 2) rfl rfl rfl rfl rfl rfl rfl (PureOp.load Try.underlying3 rfl rfl (by intro hg; simp [gval] at hg; exact (CellIs.in_ hz ((k : Int) + 1).toNat 0 (by omega) (by omega)))) ?_
      refine SL.gpure (c := 2) rfl rfl rfl rfl rfl rfl rfl (PureOp.lss rfl rfl) ?_
      refine SL.gpure (c := 1) rfl rfl rfl rfl rfl rfl rfl (PureOp.or_ rfl rfl rfl rfl) ?_
      refine SL.pure rfl rfl rfl (PureOp.and_ rfl rfl rfl rfl) ?_
      refine SL.nil_then ?_
      refine WC.cond rfl (fun h5 => ?_) (fun h5 => ?_)
      · simp only [Bool.and_eq_true, Bool.or_eq_true, Bool.not_eq_true', Bool.not_eq_false', Bool.and_eq_false_iff, Bool.or_eq_false_iff, decide_eq_true_eq, decide_eq_false_iff_not, Int.not_lt, Int.not_le, ne_eq, Decidable.not_not] at h5
        refine WC.region ?_
        refine SL.pure rfl rfl rfl (PureOp.move rfl) ?_
        refine SL.pure rfl rfl rfl (PureOp.add rfl rfl (fun _ => by (first | omega | (have q := Vd_bd l none hv k; omega)))) ?_
        refine SL.pure rfl rfl rfl (PureOp.assign rfl) ?_
        refine SL.nil ?_
        refine QX.normal_in ?_
        refine QX.then_ ?_
        refine WC.region ?_
        refine SL.pure rfl rfl rfl (PureOp.move rfl) ?_
        refine SL.pure rfl rfl rfl (PureOp.add rfl rfl (fun _ => by (first | omega | (have q := Vd_bd l none hv k; omega)))) ?_
        refine SL.pure rfl rfl rfl (PureOp.assign rfl) ?_
        refine SL.nil ?_
        have e := drop_nth (l := l) (i := k) (by omega)
        obtain ⟨hI, ha, hb⟩ := hI
        have q := Vd_bd l none hv k
        refine QX.round (s := (k, a)) (μ := fun s => n - s.1) 1 (k + 1, _) ⟨⟨by show k + 1 ≤ n; omega, ?_, by show (0 : Int) ≤ _; omega, by show _ ≤ ((k + 1 : Nat) : Int) + 1; omega⟩, by show n - (k + 1) < n - k; omega⟩ ⟨rfl, rfl, rfl, rfl, rfl, rfl, rfl, rfl, trivial⟩ rfl
        rw [← hI, e]
        simp only [timesR]
        first | rw [if_pos (by rw [before_at l k x]; omega)] | rw [if_neg (by rw [before_at l k x]; omega)]
      · simp only [Bool.and_eq_true, Bool.or_eq_true, Bool.not_eq_true', Bool.not_eq_false', Bool.and_eq_false_iff, Bool.or_eq_false_iff, decide_eq_true_eq, decide_eq_false_iff_not, Int.not_lt, Int.not_le, ne_eq, Decidable.not_not] at h5
        refine WC.skip ?_
        refine QX.normal_in ?_
        refine QX.then_ ?_
        refine WC.region ?_
        refine SL.pure rfl rfl rfl (PureOp.move rfl) ?_
        refine SL.pure rfl rfl rfl (PureOp.add rfl rfl (fun _ => by (first | omega | (have q := Vd_bd l none hv k; omega)))) ?_
        refine SL.pure rfl rfl rfl (PureOp.assign rfl) ?_
        refine SL.nil ?_
        have e := drop_nth (l := l) (i := k) (by omega)
        obtain ⟨hI, ha, hb⟩ := hI
        have q := Vd_bd l none hv k
        refine QX.round (s := (k, a)) (μ := fun s => n - s.1) 1 (k + 1, _) ⟨⟨by show k + 1 ≤ n; omega, ?_, by show (0 : Int) ≤ _; omega, by show _ ≤ ((k + 1 : Nat) : Int) + 1; omega⟩, by show n - (k + 1) < n - k; omega⟩ ⟨rfl, rfl, rfl, rfl, rfl, rfl, rfl, rfl, trivial⟩ rfl
        rw [← hI, e]
        simp only [timesR]
        first | rw [if_pos (by rw [before_at l k x]; omega)] | rw [if_neg (by rw [before_at l k x]; omega)]
    · simp only [Bool.and_eq_true, Bool.or_eq_true, Bool.not_eq_true', Bool.not_eq_false', Bool.and_eq_false_iff, Bool.or_eq_false_iff, decide_eq_true_eq, decide_eq_false_iff_not, Int.not_lt, Int.not_le, ne_eq, Decidable.not_not] at h4
      refine WC.exit ?_
      refine QX.exit_then ?_
      refine QX.exit_then ?_
      refine QX.exit_hit ?_
      refine QX.then_ ?_
      refine WC.seq ?_
      refine WC.region ?_
      refine SL.pure rfl rfl rfl (PureOp.move rfl) ?_
      refine SL.pure rfl rfl rfl (PureOp.assign rfl) ?_
      refine SL.nil_then ?_
      refine WC.ret ?_
      refine QX.ret1 rfl rfl ?_
      intro w hw
      obtain ⟨hI, ha, hb⟩ := hI
      have e : l.drop k = [] := List.drop_eq_nil_of_le (by omega)
      rw [← hI, e]
      rfl

end Go.Proofs.Ytocegpfmoiokeaa
