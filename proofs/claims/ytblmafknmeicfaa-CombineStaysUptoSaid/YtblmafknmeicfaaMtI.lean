import Derived.Test.YtblmafknmeicfaaMtE
namespace Go.Proofs.Ytblmafknmeicfaa
open Go Go.RowKit Eng
set_option linter.unusedVariables false
set_option linter.unusedSimpArgs false

def alN (a : Ru) (n : Int) : Bool := decide ((a.2.2.1.l.length : Int) = 0) || conB a.2.2.1.l n
set_option maxHeartbeats 4000000 in
set_option maxRecDepth 100000 in
theorem mixes_ok (a : Ru) (n : Int) (w0 : World) (hca : SliceIn w0 1 a.2.2.1.ao a.2.2.1.l.length a.2.2.1.cap (rowsF encI a.2.2.1.l)) : FnC Try.prog 46 [.agg #[.int .i64 a.1, .int .i64 a.2.1.1, .slice a.2.1.2.1.ao a.2.1.2.1.l.length a.2.1.2.1.cap, .int .i64 a.2.1.2.2.1, .int .i64 a.2.1.2.2.2.1, .int .i64 a.2.1.2.2.2.2.1.1, .int .i64 a.2.1.2.2.2.2.1.2.1, .int .i64 a.2.1.2.2.2.2.1.2.2, .slice a.2.1.2.2.2.2.2.ao a.2.1.2.2.2.2.2.l.length a.2.1.2.2.2.2.2.cap, .slice a.2.2.1.ao a.2.2.1.l.length a.2.2.1.cap, .int .i64 a.2.2.2.1, .int .i64 a.2.2.2.2.1, .int .i64 a.2.2.2.2.2.1, .int .i64 a.2.2.2.2.2.2.1, .slice a.2.2.2.2.2.2.2.ao a.2.2.2.2.2.2.2.l.length a.2.2.2.2.2.2.2.cap], .int .i64 n] w0 fun v w' => v = .bool (alN a n) := by
  have hnm : (a.2.2.1.l.length : Int) ≤ 9223372036854775807 := by
    have q1 := hca.le; have q2 := hca.max; simp only [maxLen] at q2; omega
  refine fnc (N := 24) Try.func46 rfl rfl rfl ?_
  refine WC.seq ?_
  refine WC.region ?_
  refine SL.box rfl rfl rfl (fun b1 hb1 => ?_)
  refine SL.norm [_] rfl ?_
  refine SL.pure rfl rfl rfl (PureOp.assign rfl) ?_
  refine SL.nil_then ?_
  refine WC.seq ?_
  refine WC.seq ?_
  refine WC.region ?_
  refine SL.pure rfl rfl rfl (PureOp.assign rfl) ?_
  refine SL.nil_then ?_
  refine WC.block ?_
  refine WC.loop (σ := Nat) (fun q_ => [(0, 0, .agg #[.int .i64 a.1, .int .i64 a.2.1.1, .slice a.2.1.2.1.ao a.2.1.2.1.l.length a.2.1.2.1.cap, .int .i64 a.2.1.2.2.1, .int .i64 a.2.1.2.2.2.1, .int .i64 a.2.1.2.2.2.2.1.1, .int .i64 a.2.1.2.2.2.2.1.2.1, .int .i64 a.2.1.2.2.2.2.1.2.2, .slice a.2.1.2.2.2.2.2.ao a.2.1.2.2.2.2.2.l.length a.2.1.2.2.2.2.2.cap, .slice a.2.2.1.ao a.2.2.1.l.length a.2.2.1.cap, .int .i64 a.2.2.2.1, .int .i64 a.2.2.2.2.1, .int .i64 a.2.2.2.2.2.1, .int .i64 a.2.2.2.2.2.2.1, .slice a.2.2.2.2.2.2.2.ao a.2.2.2.2.2.2.2.l.length a.2.2.2.2.2.2.2.cap]), (1, 0, .int .i64 n), (2, 0, .pointer (some ⟨b1, 0, none⟩)), (5, 0, .int .i64 ((q_ : Nat) : Int))]) (fun q_ => [Item.cells b1 [.int .i64 a.1, .int .i64 a.2.1.1, .slice a.2.1.2.1.ao a.2.1.2.1.l.length a.2.1.2.1.cap, .int .i64 a.2.1.2.2.1, .int .i64 a.2.1.2.2.2.1, .int .i64 a.2.1.2.2.2.2.1.1, .int .i64 a.2.1.2.2.2.2.1.2.1, .int .i64 a.2.1.2.2.2.2.1.2.2, .slice a.2.1.2.2.2.2.2.ao a.2.1.2.2.2.2.2.l.length a.2.1.2.2.2.2.2.cap, .slice a.2.2.1.ao a.2.2.1.l.length a.2.2.1.cap, .int .i64 a.2.2.2.1, .int .i64 a.2.2.2.2.1, .int .i64 a.2.2.2.2.2.1, .int .i64 a.2.2.2.2.2.2.1, .slice a.2.2.2.2.2.2.2.ao a.2.2.2.2.2.2.2.l.length a.2.2.2.2.2.2.2.cap] 76]) (fun q_ => q_ ≤ a.2.2.1.l.length ∧ allK (fun j => decide (nth a.2.2.1.l j ≠ n)) q_ = true) (fun q_ => a.2.2.1.l.length - q_) 1 (0) (⟨Nat.zero_le _, rfl⟩) ⟨rfl, rfl, rfl, rfl, rfl, rfl, rfl, rfl, trivial⟩ rfl ?_
  rintro k ⟨hk, hz⟩
  refine WC.seq ?_
  refine WC.seq ?_
  refine WC.region ?_
  refine SL.pure rfl rfl rfl (PureOp.move rfl) ?_
  refine SL.pure rfl rfl rfl (PureOp.fieldAddrT 9 Try.underlying76 rfl sz73 rfl rfl) ?_
  refine SL.pure rfl rfl rfl (PureOp.load (v := .slice a.2.2.1.ao a.2.2.1.l.length a.2.2.1.cap) Try.underlying73 rfl rfl (fun _ => (CellIs.cells 0 rfl rfl))) ?_
  refine SL.pure rfl rfl rfl (PureOp.len rfl Try.underlying73) ?_
  refine SL.pure rfl rfl rfl (PureOp.lss rfl rfl) ?_
  refine SL.nil_then ?_
  refine WC.cond rfl (fun h1 => ?_) (fun h1 => ?_)
  · try simp only [Bool.and_eq_true, Bool.or_eq_true, Bool.not_eq_true', Bool.not_eq_false', Bool.and_eq_false_iff, Bool.or_eq_false_iff, decide_eq_true_eq, decide_eq_false_iff_not, Int.not_lt, Int.not_le, ne_eq, Decidable.not_not] at h1
    refine WC.skip ?_
    refine QX.then_ ?_
    refine WC.seq ?_
    refine WC.block ?_
    refine WC.seq ?_
    refine WC.region ?_
    refine SL.pure rfl rfl rfl (PureOp.fieldAddrT 9 Try.underlying76 rfl sz73 rfl rfl) ?_
    refine SL.pure rfl rfl rfl (PureOp.load (v := .slice a.2.2.1.ao a.2.2.1.l.length a.2.2.1.cap) Try.underlying73 rfl rfl (fun _ => (CellIs.cells 0 rfl rfl))) ?_
    refine SL.pure rfl rfl rfl (PureOp.move rfl) ?_
    refine SL.pure rfl rfl rfl (PureOp.indexAddrN Try.underlying73 sz3 rfl rfl (AoOk.in_ hca) (fun _ => by omega)) ?_
    refine SL.pure rfl rfl rfl (PureOp.load (v := .int .i64 (nth a.2.2.1.l k)) Try.underlying3 rfl rfl (fun _ => (CellIs.in_ hca k 0 (by omega) (by omega)))) ?_
    refine SL.pure rfl rfl rfl (PureOp.move rfl) ?_
    refine SL.pure rfl rfl rfl (PureOp.eql rfl rfl) ?_
    refine SL.nil_then ?_
    refine WC.cond rfl (fun h2 => ?_) (fun h2 => ?_)
    · try simp only [Bool.and_eq_true, Bool.or_eq_true, Bool.not_eq_true', Bool.not_eq_false', Bool.and_eq_false_iff, Bool.or_eq_false_iff, decide_eq_true_eq, decide_eq_false_iff_not, Int.not_lt, Int.not_le, ne_eq, Decidable.not_not] at h2
      refine WC.seq ?_
      refine WC.region ?_
      refine SL.pure rfl rfl rfl (PureOp.assign rfl) ?_
      refine SL.nil_then ?_
      refine WC.ret ?_
      refine QX.ret_in ?_
      refine QX.ret_then ?_
      refine QX.ret_then ?_
      refine QX.ret_in ?_
      refine QX.ret_then ?_
      refine QX.ret1 rfl rfl ?_
      intro w hw
      rw [alN, conB_yes (k := k) (by omega) (by omega), Bool.or_true]
    · try simp only [Bool.and_eq_true, Bool.or_eq_true, Bool.not_eq_true', Bool.not_eq_false', Bool.and_eq_false_iff, Bool.or_eq_false_iff, decide_eq_true_eq, decide_eq_false_iff_not, Int.not_lt, Int.not_le, ne_eq, Decidable.not_not] at h2
      refine WC.skip ?_
      refine QX.normal_in ?_
      refine QX.then_ ?_
      refine WC.region ?_
      refine SL.pure rfl rfl rfl (PureOp.move rfl) ?_
      refine SL.pure rfl rfl rfl (PureOp.addN (k := 1) rfl rfl (fun _ => by omega)) ?_
      refine SL.pure rfl rfl rfl (PureOp.assign rfl) ?_
      refine SL.nil ?_
      refine QX.round 1 (k + 1) ⟨⟨(by first | omega | (dsimp only; omega)), allK_next hz (by simp; omega)⟩, by first | omega | (dsimp only; omega)⟩ ⟨rfl, rfl, rfl, rfl, rfl, rfl, rfl, rfl, trivial⟩ rfl
  · try simp only [Bool.and_eq_true, Bool.or_eq_true, Bool.not_eq_true', Bool.not_eq_false', Bool.and_eq_false_iff, Bool.or_eq_false_iff, decide_eq_true_eq, decide_eq_false_iff_not, Int.not_lt, Int.not_le, ne_eq, Decidable.not_not] at h1
    refine WC.exit ?_
    refine QX.exit_then ?_
    refine QX.exit_then ?_
    refine QX.exit_hit ?_
    refine QX.then_ ?_
    refine WC.seq ?_
    refine WC.region ?_
    refine SL.pure rfl rfl rfl (PureOp.fieldAddrT 9 Try.underlying76 rfl sz73 rfl rfl) ?_
    refine SL.pure rfl rfl rfl (PureOp.load (v := .slice a.2.2.1.ao a.2.2.1.l.length a.2.2.1.cap) Try.underlying73 rfl rfl (fun _ => (CellIs.cells 0 rfl rfl))) ?_
    refine SL.pure rfl rfl rfl (PureOp.len rfl Try.underlying73) ?_
    refine SL.pure rfl rfl rfl (PureOp.eql rfl rfl) ?_
    refine SL.pure rfl rfl rfl (PureOp.assign rfl) ?_
    refine SL.nil_then ?_
    refine WC.ret ?_
    refine QX.ret1 rfl rfl ?_
    intro w hw
    rw [alN, conB_no (by rw [show a.2.2.1.l.length = k from by omega]; exact hz), Bool.or_false]

set_option maxHeartbeats 4000000 in
set_option maxRecDepth 100000 in
theorem rmix_ok (a b : Ru) (w0 : World) (hca : SliceIn w0 1 a.2.2.1.ao a.2.2.1.l.length a.2.2.1.cap (rowsF encI a.2.2.1.l)) (hcb : SliceIn w0 1 b.2.2.1.ao b.2.2.1.l.length b.2.2.1.cap (rowsF encI b.2.2.1.l)) : FnC Try.prog 28 [.agg #[.int .i64 a.1, .int .i64 a.2.1.1, .slice a.2.1.2.1.ao a.2.1.2.1.l.length a.2.1.2.1.cap, .int .i64 a.2.1.2.2.1, .int .i64 a.2.1.2.2.2.1, .int .i64 a.2.1.2.2.2.2.1.1, .int .i64 a.2.1.2.2.2.2.1.2.1, .int .i64 a.2.1.2.2.2.2.1.2.2, .slice a.2.1.2.2.2.2.2.ao a.2.1.2.2.2.2.2.l.length a.2.1.2.2.2.2.2.cap, .slice a.2.2.1.ao a.2.2.1.l.length a.2.2.1.cap, .int .i64 a.2.2.2.1, .int .i64 a.2.2.2.2.1, .int .i64 a.2.2.2.2.2.1, .int .i64 a.2.2.2.2.2.2.1, .slice a.2.2.2.2.2.2.2.ao a.2.2.2.2.2.2.2.l.length a.2.2.2.2.2.2.2.cap], .agg #[.int .i64 b.1, .int .i64 b.2.1.1, .slice b.2.1.2.1.ao b.2.1.2.1.l.length b.2.1.2.1.cap, .int .i64 b.2.1.2.2.1, .int .i64 b.2.1.2.2.2.1, .int .i64 b.2.1.2.2.2.2.1.1, .int .i64 b.2.1.2.2.2.2.1.2.1, .int .i64 b.2.1.2.2.2.2.1.2.2, .slice b.2.1.2.2.2.2.2.ao b.2.1.2.2.2.2.2.l.length b.2.1.2.2.2.2.2.cap, .slice b.2.2.1.ao b.2.2.1.l.length b.2.2.1.cap, .int .i64 b.2.2.2.1, .int .i64 b.2.2.2.2.1, .int .i64 b.2.2.2.2.2.1, .int .i64 b.2.2.2.2.2.2.1, .slice b.2.2.2.2.2.2.2.ao b.2.2.2.2.2.2.2.l.length b.2.2.2.2.2.2.2.cap]] w0 fun v w' => v = .bool (mixB a b) := by
  refine fnc (N := 15) Try.func28 rfl rfl rfl ?_
  refine WC.seq ?_
  refine WC.region ?_
  refine SL.box rfl rfl rfl (fun b1 hb1 => ?_)
  refine SL.norm [_] rfl ?_
  refine SL.box rfl rfl rfl (fun b2 hb2 => ?_)
  refine SL.norm [_, _] rfl ?_
  refine SL.pure rfl rfl rfl (PureOp.assign rfl) ?_
  refine SL.nil_then ?_
  refine WC.seq ?_
  refine WC.region ?_
  refine SL.pure rfl rfl rfl (PureOp.loads (vs := [.int .i64 a.1, .int .i64 a.2.1.1, .slice a.2.1.2.1.ao a.2.1.2.1.l.length a.2.1.2.1.cap, .int .i64 a.2.1.2.2.1, .int .i64 a.2.1.2.2.2.1, .int .i64 a.2.1.2.2.2.2.1.1, .int .i64 a.2.1.2.2.2.2.1.2.1, .int .i64 a.2.1.2.2.2.2.1.2.2, .slice a.2.1.2.2.2.2.2.ao a.2.1.2.2.2.2.2.l.length a.2.1.2.2.2.2.2.cap, .slice a.2.2.1.ao a.2.2.1.l.length a.2.2.1.cap, .int .i64 a.2.2.2.1, .int .i64 a.2.2.2.2.1, .int .i64 a.2.2.2.2.2.1, .int .i64 a.2.2.2.2.2.2.1, .slice a.2.2.2.2.2.2.2.ao a.2.2.2.2.2.2.2.l.length a.2.2.2.2.2.2.2.cap]) Try.underlying76 rfl rfl (fun _ => (RowIs.cells 0 0 15 rfl rfl)) sz76) ?_
  refine SL.pure rfl rfl rfl (PureOp.fieldAddrT 0 Try.underlying76 rfl sz3 rfl rfl) ?_
  refine SL.pure rfl rfl rfl (PureOp.load (v := .int .i64 b.1) Try.underlying3 rfl rfl (fun _ => (CellIs.cells 1 rfl rfl))) ?_
  refine SL.calle rfl rfl rfl rfl rfl rfl callable46 (fun w hw => mixes_ok a b.1 w (hca.below hw.below)) ?_
  refine SL.norm [_, _] rfl ?_
  refine SL.pure rfl rfl rfl (PureOp.move rfl) ?_
  refine SL.newg 9 true rfl ?_
  refine SL.gpure (c := 1) rfl rfl rfl rfl rfl rfl rfl (PureOp.loads (vs := [.int .i64 b.1, .int .i64 b.2.1.1, .slice b.2.1.2.1.ao b.2.1.2.1.l.length b.2.1.2.1.cap, .int .i64 b.2.1.2.2.1, .int .i64 b.2.1.2.2.2.1, .int .i64 b.2.1.2.2.2.2.1.1, .int .i64 b.2.1.2.2.2.2.1.2.1, .int .i64 b.2.1.2.2.2.2.1.2.2, .slice b.2.1.2.2.2.2.2.ao b.2.1.2.2.2.2.2.l.length b.2.1.2.2.2.2.2.cap, .slice b.2.2.1.ao b.2.2.1.l.length b.2.2.1.cap, .int .i64 b.2.2.2.1, .int .i64 b.2.2.2.2.1, .int .i64 b.2.2.2.2.2.1, .int .i64 b.2.2.2.2.2.2.1, .slice b.2.2.2.2.2.2.2.ao b.2.2.2.2.2.2.2.l.length b.2.2.2.2.2.2.2.cap]) Try.underlying76 rfl rfl (fun _ => (RowIs.cells 1 0 15 rfl rfl)) sz76) ?_
  refine SL.gpure (c := 1) rfl rfl rfl rfl rfl rfl rfl (PureOp.fieldAddrT 0 Try.underlying76 rfl sz3 rfl rfl) ?_
  refine SL.gpure (c := 1) rfl rfl rfl rfl rfl rfl rfl (PureOp.load (v := .int .i64 a.1) Try.underlying3 rfl rfl (fun _ => (CellIs.cells 0 rfl rfl))) ?_
  refine SL.gcalle (c := 1) rfl rfl rfl rfl rfl rfl rfl rfl rfl rfl callable46 (by intro hg; simp [gval] at hg; exact (fun w hw => mixes_ok b a.1 w (hcb.below hw.below))) ?_
  refine SL.norm [_, _] rfl ?_
  refine SL.pure rfl rfl rfl (PureOp.and_ rfl rfl rfl rfl) ?_
  refine SL.pure rfl rfl rfl (PureOp.assign rfl) ?_
  refine SL.nil_then ?_
  refine WC.ret ?_
  refine QX.ret1 rfl rfl ?_
  intro w hw
  rfl

set_option maxHeartbeats 4000000 in
set_option maxRecDepth 100000 in
theorem rruleof_ok (u1 u2 : SliceV Unit) (fl : List Fa) (rl : List Ru) (rao : Option Addr) (rn rcap : Nat) (fao : Option Addr) (fn fcap : Nat) (hfn : fn = fl.length) (hrn : rn = rl.length) (w0 : World) (hf : SliceIn w0 9 fao fn fcap (rowsF enc52 fl)) (hr : SliceIn w0 15 rao rn rcap (rowsF enc76 rl)) (hfb : fn ≤ 1000) (hrb : rn ≤ 1000) (x : Pt) (hx : 0 ≤ x.2.2.1 ∧ x.2.2.1 < fn) : FnC Try.prog 29 [.agg #[.slice fao fn fcap, .slice rao rn rcap, .slice u1.ao u1.l.length u1.cap, .slice u2.ao u2.l.length u2.cap], .agg #[.int .i64 x.1, .int .i64 x.2.1, .int .i64 x.2.2.1, .int .i64 x.2.2.2]] w0 fun v w' => v = .agg (enc76 (ruleX fl rl x)).toArray := by
  refine fnc (N := 20) Try.func29 rfl rfl rfl ?_
  refine WC.seq ?_
  refine WC.region ?_
  refine SL.box rfl rfl rfl (fun b1 hb1 => ?_)
  refine SL.norm [_] rfl ?_
  refine SL.box rfl rfl rfl (fun b2 hb2 => ?_)
  refine SL.norm [_, _] rfl ?_
  refine SL.alloc rfl rfl zero76 (fun b3 hb3 => ?_)
  refine SL.norm [_, _, _] rfl ?_
  refine SL.nil_then ?_
  refine WC.seq ?_
  refine WC.drawH 15 [false, false, false, false, false, false, false, false, false, false, false, false, false, false, false] rfl rfl rfl ?_
  refine SD.take 0 [true, false, false, false, false, false, false, false, false, false, false, false, false, false, false] rfl (by kernel_rfl) rfl (fun _ h => h) rfl rfl rfl (PureOp.loads (vs := [.slice fao fn fcap, .slice rao rn rcap, .slice u1.ao u1.l.length u1.cap, .slice u2.ao u2.l.length u2.cap]) Try.underlying27 rfl rfl (fun _ => (RowIs.cells 0 0 4 rfl rfl)) sz27) ?_
  refine SD.take 1 [true, true, false, false, false, false, false, false, false, false, false, false, false, false, false] rfl (by kernel_rfl) rfl (fun _ h => h) rfl rfl rfl (PureOp.fieldAddrT 0 Try.underlying27 rfl sz22 rfl rfl) ?_
  refine SD.take 2 [true, true, true, false, false, false, false, false, false, false, false, false, false, false, false] rfl (by kernel_rfl) rfl (fun _ h => h) rfl rfl rfl (PureOp.load (v := .slice fao fn fcap) Try.underlying22 rfl rfl (fun _ => (CellIs.cells 0 rfl rfl))) ?_
  refine SD.take 3 [true, true, true, true, false, false, false, false, false, false, false, false, false, false, false] rfl (by kernel_rfl) rfl (fun _ h => h) rfl rfl rfl (PureOp.fieldAddrT 2 Try.underlying42 rfl sz3 rfl rfl) ?_
  refine SD.take 4 [true, true, true, true, true, false, false, false, false, false, false, false, false, false, false] rfl (by kernel_rfl) rfl (fun _ h => h) rfl rfl rfl (PureOp.load (v := .int .i64 x.2.2.1) Try.underlying3 rfl rfl (fun _ => (CellIs.cells 1 rfl rfl))) ?_
  refine SD.take 5 [true, true, true, true, true, true, false, false, false, false, false, false, false, false, false] rfl (by kernel_rfl) rfl (fun _ h => h) rfl rfl rfl (PureOp.indexAddr Try.underlying22 sz52 rfl rfl (AoOk.in_ hf) (fun _ => by omega)) ?_
  refine SD.take 6 [true, true, true, true, true, true, true, false, false, false, false, false, false, false, false] rfl (by kernel_rfl) rfl (fun _ h => h) rfl rfl rfl (PureOp.fieldAddr 7 Try.underlying52 rfl rfl sz3 rfl) ?_
  refine SD.take 7 [true, true, true, true, true, true, true, true, false, false, false, false, false, false, false] rfl (by kernel_rfl) rfl (fun _ h => h) rfl rfl rfl (PureOp.load (v := .int .i64 ((nth fl ((x.2.2.1).toNat)).2.2.2.2.2.2.2.1)) Try.underlying3 rfl rfl (fun _ => (CellIs.in_ hf ((x.2.2.1).toNat) 7 (by omega) (by omega)))) ?_
  refine SD.all [8, 12] (by kernel_rfl) (by simp) ⟨⟨_, [true, true, true, true, true, true, true, true, true, false, false, false, false, false, false], rfl, rfl, ?_⟩, ⟨_, [true, true, true, true, true, true, true, true, false, false, false, false, true, false, false], rfl, rfl, ?_⟩, trivial⟩
  · skip
    refine SL.calle rfl rfl rfl rfl rfl rfl callable47 (fun w hw => rrule_ok u1 u2 fl rl rao rn rcap fao fn fcap hfn hrn w (hf.below hw.below) (hr.below hw.below) hfb hrb _) ?_
    refine SL.norm [_, _, _] rfl ?_
    refine SD.back (fun _ h => h) ?_
    refine SD.take 9 [true, true, true, true, true, true, true, true, true, true, false, false, false, false, false] rfl (by kernel_rfl) rfl (fun _ h => h) rfl rfl rfl (PureOp.move rfl) ?_
    refine SD.take 10 [true, true, true, true, true, true, true, true, true, true, true, false, false, false, false] rfl (by kernel_rfl) rfl (fun _ h => h) rfl rfl rfl (PureOp.extract rfl rfl) ?_
    refine SD.take 11 [true, true, true, true, true, true, true, true, true, true, true, true, false, false, false] rfl (by kernel_rfl) rfl (fun _ h => h) rfl rfl rfl (PureOp.extract rfl rfl) ?_
    refine SD.one 12 [true, true, true, true, true, true, true, true, true, true, true, true, true, false, false] (by kernel_rfl) rfl rfl ?_
    refine SL.alloc rfl rfl zero76 (fun b4 hb4 => ?_)
    refine SL.norm [_, _, _, _] rfl ?_
    refine SD.back (fun _ h => HeapOk.take h 3) ?_
    refine SD.one 13 [true, true, true, true, true, true, true, true, true, true, true, true, true, true, false] (by kernel_rfl) rfl rfl ?_
    refine SL.store 3 rfl rfl rfl rfl sz76 rfl rfl ?_
    refine SL.norm [_, _, _, _] rfl ?_
    refine SD.back (fun _ h => HeapOk.take h 3) ?_
    refine SD.take 14 [true, true, true, true, true, true, true, true, true, true, true, true, true, true, true] rfl (by kernel_rfl) rfl (fun _ h => HeapOk.take h 3) rfl rfl rfl (PureOp.assign rfl) ?_
    refine SD.done (by kernel_rfl) ?_
    refine QX.ofK ?_
    refine QX.then_ ?_
    refine WC.seq ?_
    refine WC.region ?_
    refine SL.pure rfl rfl rfl (PureOp.loads (vs := [.int .i64 ((ruleE rl (nth fl (x.2.2.1).toNat).2.2.2.2.2.2.2.1).1.1), .int .i64 ((ruleE rl (nth fl (x.2.2.1).toNat).2.2.2.2.2.2.2.1).1.2.1.1), .slice ((ruleE rl (nth fl (x.2.2.1).toNat).2.2.2.2.2.2.2.1).1.2.1.2.1.ao) ((ruleE rl (nth fl (x.2.2.1).toNat).2.2.2.2.2.2.2.1).1.2.1.2.1.l.length) ((ruleE rl (nth fl (x.2.2.1).toNat).2.2.2.2.2.2.2.1).1.2.1.2.1.cap), .int .i64 ((ruleE rl (nth fl (x.2.2.1).toNat).2.2.2.2.2.2.2.1).1.2.1.2.2.1), .int .i64 ((ruleE rl (nth fl (x.2.2.1).toNat).2.2.2.2.2.2.2.1).1.2.1.2.2.2.1), .int .i64 ((ruleE rl (nth fl (x.2.2.1).toNat).2.2.2.2.2.2.2.1).1.2.1.2.2.2.2.1.1), .int .i64 ((ruleE rl (nth fl (x.2.2.1).toNat).2.2.2.2.2.2.2.1).1.2.1.2.2.2.2.1.2.1), .int .i64 ((ruleE rl (nth fl (x.2.2.1).toNat).2.2.2.2.2.2.2.1).1.2.1.2.2.2.2.1.2.2), .slice ((ruleE rl (nth fl (x.2.2.1).toNat).2.2.2.2.2.2.2.1).1.2.1.2.2.2.2.2.ao) ((ruleE rl (nth fl (x.2.2.1).toNat).2.2.2.2.2.2.2.1).1.2.1.2.2.2.2.2.l.length) ((ruleE rl (nth fl (x.2.2.1).toNat).2.2.2.2.2.2.2.1).1.2.1.2.2.2.2.2.cap), .slice ((ruleE rl (nth fl (x.2.2.1).toNat).2.2.2.2.2.2.2.1).1.2.2.1.ao) ((ruleE rl (nth fl (x.2.2.1).toNat).2.2.2.2.2.2.2.1).1.2.2.1.l.length) ((ruleE rl (nth fl (x.2.2.1).toNat).2.2.2.2.2.2.2.1).1.2.2.1.cap), .int .i64 ((ruleE rl (nth fl (x.2.2.1).toNat).2.2.2.2.2.2.2.1).1.2.2.2.1), .int .i64 ((ruleE rl (nth fl (x.2.2.1).toNat).2.2.2.2.2.2.2.1).1.2.2.2.2.1), .int .i64 ((ruleE rl (nth fl (x.2.2.1).toNat).2.2.2.2.2.2.2.1).1.2.2.2.2.2.1), .int .i64 ((ruleE rl (nth fl (x.2.2.1).toNat).2.2.2.2.2.2.2.1).1.2.2.2.2.2.2.1), .slice ((ruleE rl (nth fl (x.2.2.1).toNat).2.2.2.2.2.2.2.1).1.2.2.2.2.2.2.2.ao) ((ruleE rl (nth fl (x.2.2.1).toNat).2.2.2.2.2.2.2.1).1.2.2.2.2.2.2.2.l.length) ((ruleE rl (nth fl (x.2.2.1).toNat).2.2.2.2.2.2.2.1).1.2.2.2.2.2.2.2.cap)]) Try.underlying76 rfl rfl (fun _ => (RowIs.cells 3 0 15 rfl rfl)) sz76) ?_
    refine SL.store 2 rfl rfl rfl rfl sz76 rfl rfl ?_
    refine SL.norm [_, _, _, _] rfl ?_
    refine SL.nil_then ?_
    refine WC.ret ?_
    refine QX.retv rfl (RVs.cons (RV.cell rfl Try.underlying76 rfl (RowIs.cells 2 0 15 rfl rfl) sz76) RVs.nil) ?_
    intro w hw
    rfl
  · skip
    refine SL.alloc rfl rfl zero76 (fun b5 hb5 => ?_)
    refine SL.norm [_, _, _, _] rfl ?_
    refine SD.back (fun _ h => HeapOk.take h 3) ?_
    refine SD.one 8 [true, true, true, true, true, true, true, true, true, false, false, false, true, false, false] (by kernel_rfl) rfl rfl ?_
    refine SL.calle rfl rfl rfl rfl rfl rfl callable47 (fun w hw => rrule_ok u1 u2 fl rl rao rn rcap fao fn fcap hfn hrn w (hf.below hw.below) (hr.below hw.below) hfb hrb _) ?_
    refine SL.norm [_, _, _, _] rfl ?_
    refine SD.back (fun _ h => HeapOk.take h 3) ?_
    refine SD.take 9 [true, true, true, true, true, true, true, true, true, true, false, false, true, false, false] rfl (by kernel_rfl) rfl (fun _ h => HeapOk.take h 3) rfl rfl rfl (PureOp.move rfl) ?_
    refine SD.take 10 [true, true, true, true, true, true, true, true, true, true, true, false, true, false, false] rfl (by kernel_rfl) rfl (fun _ h => HeapOk.take h 3) rfl rfl rfl (PureOp.extract rfl rfl) ?_
    refine SD.take 11 [true, true, true, true, true, true, true, true, true, true, true, true, true, false, false] rfl (by kernel_rfl) rfl (fun _ h => HeapOk.take h 3) rfl rfl rfl (PureOp.extract rfl rfl) ?_
    refine SD.one 13 [true, true, true, true, true, true, true, true, true, true, true, true, true, true, false] (by kernel_rfl) rfl rfl ?_
    refine SL.store 3 rfl rfl rfl rfl sz76 rfl rfl ?_
    refine SL.norm [_, _, _, _] rfl ?_
    refine SD.back (fun _ h => HeapOk.take h 3) ?_
    refine SD.take 14 [true, true, true, true, true, true, true, true, true, true, true, true, true, true, true] rfl (by kernel_rfl) rfl (fun _ h => HeapOk.take h 3) rfl rfl rfl (PureOp.assign rfl) ?_
    refine SD.done (by kernel_rfl) ?_
    refine QX.ofK ?_
    refine QX.then_ ?_
    refine WC.seq ?_
    refine WC.region ?_
    refine SL.pure rfl rfl rfl (PureOp.loads (vs := [.int .i64 ((ruleE rl (nth fl (x.2.2.1).toNat).2.2.2.2.2.2.2.1).1.1), .int .i64 ((ruleE rl (nth fl (x.2.2.1).toNat).2.2.2.2.2.2.2.1).1.2.1.1), .slice ((ruleE rl (nth fl (x.2.2.1).toNat).2.2.2.2.2.2.2.1).1.2.1.2.1.ao) ((ruleE rl (nth fl (x.2.2.1).toNat).2.2.2.2.2.2.2.1).1.2.1.2.1.l.length) ((ruleE rl (nth fl (x.2.2.1).toNat).2.2.2.2.2.2.2.1).1.2.1.2.1.cap), .int .i64 ((ruleE rl (nth fl (x.2.2.1).toNat).2.2.2.2.2.2.2.1).1.2.1.2.2.1), .int .i64 ((ruleE rl (nth fl (x.2.2.1).toNat).2.2.2.2.2.2.2.1).1.2.1.2.2.2.1), .int .i64 ((ruleE rl (nth fl (x.2.2.1).toNat).2.2.2.2.2.2.2.1).1.2.1.2.2.2.2.1.1), .int .i64 ((ruleE rl (nth fl (x.2.2.1).toNat).2.2.2.2.2.2.2.1).1.2.1.2.2.2.2.1.2.1), .int .i64 ((ruleE rl (nth fl (x.2.2.1).toNat).2.2.2.2.2.2.2.1).1.2.1.2.2.2.2.1.2.2), .slice ((ruleE rl (nth fl (x.2.2.1).toNat).2.2.2.2.2.2.2.1).1.2.1.2.2.2.2.2.ao) ((ruleE rl (nth fl (x.2.2.1).toNat).2.2.2.2.2.2.2.1).1.2.1.2.2.2.2.2.l.length) ((ruleE rl (nth fl (x.2.2.1).toNat).2.2.2.2.2.2.2.1).1.2.1.2.2.2.2.2.cap), .slice ((ruleE rl (nth fl (x.2.2.1).toNat).2.2.2.2.2.2.2.1).1.2.2.1.ao) ((ruleE rl (nth fl (x.2.2.1).toNat).2.2.2.2.2.2.2.1).1.2.2.1.l.length) ((ruleE rl (nth fl (x.2.2.1).toNat).2.2.2.2.2.2.2.1).1.2.2.1.cap), .int .i64 ((ruleE rl (nth fl (x.2.2.1).toNat).2.2.2.2.2.2.2.1).1.2.2.2.1), .int .i64 ((ruleE rl (nth fl (x.2.2.1).toNat).2.2.2.2.2.2.2.1).1.2.2.2.2.1), .int .i64 ((ruleE rl (nth fl (x.2.2.1).toNat).2.2.2.2.2.2.2.1).1.2.2.2.2.2.1), .int .i64 ((ruleE rl (nth fl (x.2.2.1).toNat).2.2.2.2.2.2.2.1).1.2.2.2.2.2.2.1), .slice ((ruleE rl (nth fl (x.2.2.1).toNat).2.2.2.2.2.2.2.1).1.2.2.2.2.2.2.2.ao) ((ruleE rl (nth fl (x.2.2.1).toNat).2.2.2.2.2.2.2.1).1.2.2.2.2.2.2.2.l.length) ((ruleE rl (nth fl (x.2.2.1).toNat).2.2.2.2.2.2.2.1).1.2.2.2.2.2.2.2.cap)]) Try.underlying76 rfl rfl (fun _ => (RowIs.cells 3 0 15 rfl rfl)) sz76) ?_
    refine SL.store 2 rfl rfl rfl rfl sz76 rfl rfl ?_
    refine SL.norm [_, _, _, _] rfl ?_
    refine SL.nil_then ?_
    refine WC.ret ?_
    refine QX.retv rfl (RVs.cons (RV.cell rfl Try.underlying76 rfl (RowIs.cells 2 0 15 rfl rfl) sz76) RVs.nil) ?_
    intro w hw
    rfl

set_option maxHeartbeats 4000000 in
set_option maxRecDepth 100000 in
theorem rmixed_ok (u1 u2 : SliceV Unit) (fl : List Fa) (rl : List Ru) (rao : Option Addr) (rn rcap : Nat) (fao : Option Addr) (fn fcap : Nat) (hfn : fn = fl.length) (hrn : rn = rl.length) (w0 : World) (hf : SliceIn w0 9 fao fn fcap (rowsF enc52 fl)) (hr : SliceIn w0 15 rao rn rcap (rowsF enc76 rl)) (hfb : fn ≤ 1000) (hrb : rn ≤ 1000) (hcm : ∀ r ∈ rl, SliceIn w0 1 r.2.2.1.ao r.2.2.1.l.length r.2.2.1.cap (rowsF encI r.2.2.1.l)) (pl : List Pt) (pao : Option Addr) (pn pcap : Nat) (hpn : pn = pl.length) (hp : SliceIn w0 4 pao pn pcap (rowsF enc42 pl)) (hpb : pn ≤ 1000) : FnC Try.prog 13 [.agg #[.slice fao fn fcap, .slice rao rn rcap, .slice u1.ao u1.l.length u1.cap, .slice u2.ao u2.l.length u2.cap], .slice pao pn pcap] w0 fun v w' => v = .int .i64 (mixedE (allK (prF fn pl) pl.length) pn (mixX fl rl pl)) := by
  have hple := hp.le
  refine fnc (N := 36) Try.func13 rfl rfl rfl ?_
  refine WC.seq ?_
  refine WC.region ?_
  refine SL.box rfl rfl rfl (fun b1 hb1 => ?_)
  refine SL.norm [_] rfl ?_
  refine SL.pure rfl rfl rfl (PureOp.assign rfl) ?_
  refine SL.nil_then ?_
  refine WC.seq ?_
  refine WC.seq ?_
  refine WC.region ?_
  refine SL.pure rfl rfl rfl (PureOp.loads (vs := [.slice fao fn fcap, .slice rao rn rcap, .slice u1.ao u1.l.length u1.cap, .slice u2.ao u2.l.length u2.cap]) Try.underlying27 rfl rfl (fun _ => (RowIs.cells 0 0 4 rfl rfl)) sz27) ?_
  refine SL.pure rfl rfl rfl (PureOp.move rfl) ?_
  refine SL.calle rfl rfl rfl rfl rfl rfl callable21 (fun w hw => known_ok u1 u2 fl rao rn rcap fao fn fcap hfn w (hf.below hw.below) hfb pl pao pn pcap hpn (hp.below hw.below) hpb) ?_
  refine SL.norm [_] rfl ?_
  refine SL.pure rfl rfl rfl (PureOp.not rfl) ?_
  refine SL.nil_then ?_
  refine WC.cond rfl (fun h1 => ?_) (fun h1 => ?_)
  · try simp only [Bool.and_eq_true, Bool.or_eq_true, Bool.not_eq_true', Bool.not_eq_false', Bool.and_eq_false_iff, Bool.or_eq_false_iff, decide_eq_true_eq, decide_eq_false_iff_not, Int.not_lt, Int.not_le, ne_eq, Decidable.not_not] at h1
    refine WC.seq ?_
    refine WC.region ?_
    refine SL.pure rfl rfl rfl (PureOp.assign rfl) ?_
    refine SL.nil_then ?_
    refine WC.ret ?_
    refine QX.ret_then ?_
    refine QX.ret1 rfl rfl ?_
    intro w hw
    rw [mixed_un (by simpa using h1)]
  · try simp only [Bool.and_eq_true, Bool.or_eq_true, Bool.not_eq_true', Bool.not_eq_false', Bool.and_eq_false_iff, Bool.or_eq_false_iff, decide_eq_true_eq, decide_eq_false_iff_not, Int.not_lt, Int.not_le, ne_eq, Decidable.not_not] at h1
    have hfa : ∀ j, j < pn → 0 ≤ (nth pl j).2.2.1 ∧ (nth pl j).2.2.1 < fn := fun j hj => priced_at (by simpa using h1) (by omega)
    refine WC.skip ?_
    refine QX.then_ ?_
    refine WC.seq ?_
    refine WC.seq ?_
    refine WC.region ?_
    refine SL.pure rfl rfl rfl (PureOp.assign rfl) ?_
    refine SL.nil_then ?_
    refine WC.block ?_
    refine WC.loop (σ := Nat) (fun q_ => [(0, 0, .agg #[.slice fao fn fcap, .slice rao rn rcap, .slice u1.ao u1.l.length u1.cap, .slice u2.ao u2.l.length u2.cap]), (1, 0, .slice pao pn pcap), (2, 0, .pointer (some ⟨b1, 0, none⟩)), (7, 0, .agg #[.slice fao fn fcap, .slice rao rn rcap, .slice u1.ao u1.l.length u1.cap, .slice u2.ao u2.l.length u2.cap]), (8, 0, .slice pao pn pcap), (9, 0, .bool (allK (prF fn pl) pl.length)), (10, 0, .bool (!(allK (prF fn pl) pl.length))), (5, 0, .int .i64 ((q_ : Nat) : Int))]) (fun q_ => [Item.cells b1 [.slice fao fn fcap, .slice rao rn rcap, .slice u1.ao u1.l.length u1.cap, .slice u2.ao u2.l.length u2.cap] 27]) (fun q_ => q_ ≤ pn ∧ allK (fun i => allK (fun j => mixX fl rl pl i j) i) q_ = true) (fun q_ => pn - q_) 1 (0) (⟨Nat.zero_le _, rfl⟩) ⟨rfl, rfl, rfl, rfl, rfl, rfl, rfl, rfl, rfl, rfl, rfl, rfl, rfl, rfl, rfl, rfl, trivial⟩ rfl ?_
    rintro i ⟨hi, hz1⟩
    refine WC.seq ?_
    refine WC.seq ?_
    refine WC.region ?_
    refine SL.pure rfl rfl rfl (PureOp.move rfl) ?_
    refine SL.pure rfl rfl rfl (PureOp.move rfl) ?_
    refine SL.pure rfl rfl rfl (PureOp.len rfl Try.underlying28) ?_
    refine SL.pure rfl rfl rfl (PureOp.lss rfl rfl) ?_
    refine SL.nil_then ?_
    refine WC.cond rfl (fun h2 => ?_) (fun h2 => ?_)
    · try simp only [Bool.and_eq_true, Bool.or_eq_true, Bool.not_eq_true', Bool.not_eq_false', Bool.and_eq_false_iff, Bool.or_eq_false_iff, decide_eq_true_eq, decide_eq_false_iff_not, Int.not_lt, Int.not_le, ne_eq, Decidable.not_not] at h2
      refine WC.skip ?_
      refine QX.then_ ?_
      refine WC.seq ?_
      refine WC.block ?_
      refine WC.seq ?_
      refine WC.region ?_
      refine SL.pure rfl rfl rfl (PureOp.assign rfl) ?_
      refine SL.nil_then ?_
      refine WC.block ?_
      refine WC.loop (σ := Nat) (fun q_ => [(0, 0, .agg #[.slice fao fn fcap, .slice rao rn rcap, .slice u1.ao u1.l.length u1.cap, .slice u2.ao u2.l.length u2.cap]), (1, 0, .slice pao pn pcap), (2, 0, .pointer (some ⟨b1, 0, none⟩)), (5, 0, .int .i64 ((i : Nat) : Int)), (7, 0, .agg #[.slice fao fn fcap, .slice rao rn rcap, .slice u1.ao u1.l.length u1.cap, .slice u2.ao u2.l.length u2.cap]), (8, 0, .slice pao pn pcap), (9, 0, .bool (allK (prF fn pl) pl.length)), (10, 0, .bool (!(allK (prF fn pl) pl.length))), (11, 0, .int .i64 ((i : Nat) : Int)), (12, 0, .slice pao pn pcap), (13, 0, .int .i64 ((pn : Nat) : Int)), (14, 0, .bool (decide (((i : Nat) : Int) < ((pn : Nat) : Int)))), (6, 0, .int .i64 ((q_ : Nat) : Int))]) (fun q_ => [Item.cells b1 [.slice fao fn fcap, .slice rao rn rcap, .slice u1.ao u1.l.length u1.cap, .slice u2.ao u2.l.length u2.cap] 27]) (fun q_ => q_ ≤ i ∧ allK (fun j => mixX fl rl pl i j) q_ = true) (fun q_ => i - q_) 1 (0) (⟨Nat.zero_le _, rfl⟩) ⟨rfl, rfl, rfl, rfl, rfl, rfl, rfl, rfl, rfl, rfl, rfl, rfl, rfl, rfl, rfl, rfl, rfl, rfl, rfl, rfl, rfl, rfl, rfl, rfl, rfl, rfl, trivial⟩ rfl ?_
      rintro j ⟨hj, hz2⟩
      refine WC.seq ?_
      refine WC.seq ?_
      refine WC.region ?_
      refine SL.pure rfl rfl rfl (PureOp.move rfl) ?_
      refine SL.pure rfl rfl rfl (PureOp.move rfl) ?_
      refine SL.pure rfl rfl rfl (PureOp.lss rfl rfl) ?_
      refine SL.nil_then ?_
      refine WC.cond rfl (fun h3 => ?_) (fun h3 => ?_)
      · try simp only [Bool.and_eq_true, Bool.or_eq_true, Bool.not_eq_true', Bool.not_eq_false', Bool.and_eq_false_iff, Bool.or_eq_false_iff, decide_eq_true_eq, decide_eq_false_iff_not, Int.not_lt, Int.not_le, ne_eq, Decidable.not_not] at h3
        refine WC.skip ?_
        refine QX.then_ ?_
        refine WC.seq ?_
        refine WC.block ?_
        refine WC.seq ?_
        refine WC.drawH 14 [false, false, false, false, false, false, false, false, false, false, false, false, false, false] rfl rfl rfl ?_
        refine SD.take 0 [true, false, false, false, false, false, false, false, false, false, false, false, false, false] rfl (by kernel_rfl) rfl (fun _ h => h) rfl rfl rfl (PureOp.loads (vs := [.slice fao fn fcap, .slice rao rn rcap, .slice u1.ao u1.l.length u1.cap, .slice u2.ao u2.l.length u2.cap]) Try.underlying27 rfl rfl (fun _ => (RowIs.cells 0 0 4 rfl rfl)) sz27) ?_
        refine SD.take 1 [true, true, false, false, false, false, false, false, false, false, false, false, false, false] rfl (by kernel_rfl) rfl (fun _ h => h) rfl rfl rfl (PureOp.move rfl) ?_
        refine SD.take 2 [true, true, true, false, false, false, false, false, false, false, false, false, false, false] rfl (by kernel_rfl) rfl (fun _ h => h) rfl rfl rfl (PureOp.move rfl) ?_
        refine SD.take 3 [true, true, true, true, false, false, false, false, false, false, false, false, false, false] rfl (by kernel_rfl) rfl (fun _ h => h) rfl rfl rfl (PureOp.indexAddrN Try.underlying28 sz42 rfl rfl (AoOk.in_ hp) (fun _ => by omega)) ?_
        refine SD.take 4 [true, true, true, true, true, false, false, false, false, false, false, false, false, false] rfl (by kernel_rfl) rfl (fun _ h => h) rfl rfl rfl (PureOp.loads (vs := [.int .i64 ((nth pl i).1), .int .i64 ((nth pl i).2.1), .int .i64 ((nth pl i).2.2.1), .int .i64 ((nth pl i).2.2.2)]) Try.underlying42 rfl rfl (fun _ => (RowIs.in_ hp i 0 4 (by omega) (by omega))) sz42) ?_
        refine SD.take 6 [true, true, true, true, true, false, true, false, false, false, false, false, false, false] rfl (by kernel_rfl) rfl (fun _ h => h) rfl rfl rfl (PureOp.loads (vs := [.slice fao fn fcap, .slice rao rn rcap, .slice u1.ao u1.l.length u1.cap, .slice u2.ao u2.l.length u2.cap]) Try.underlying27 rfl rfl (fun _ => (RowIs.cells 0 0 4 rfl rfl)) sz27) ?_
        refine SD.take 7 [true, true, true, true, true, false, true, true, false, false, false, false, false, false] rfl (by kernel_rfl) rfl (fun _ h => h) rfl rfl rfl (PureOp.move rfl) ?_
        refine SD.take 8 [true, true, true, true, true, false, true, true, true, false, false, false, false, false] rfl (by kernel_rfl) rfl (fun _ h => h) rfl rfl rfl (PureOp.move rfl) ?_
        refine SD.take 9 [true, true, true, true, true, false, true, true, true, true, false, false, false, false] rfl (by kernel_rfl) rfl (fun _ h => h) rfl rfl rfl (PureOp.indexAddrN Try.underlying28 sz42 rfl rfl (AoOk.in_ hp) (fun _ => by omega)) ?_
        refine SD.take 10 [true, true, true, true, true, false, true, true, true, true, true, false, false, false] rfl (by kernel_rfl) rfl (fun _ h => h) rfl rfl rfl (PureOp.loads (vs := [.int .i64 ((nth pl j).1), .int .i64 ((nth pl j).2.1), .int .i64 ((nth pl j).2.2.1), .int .i64 ((nth pl j).2.2.2)]) Try.underlying42 rfl rfl (fun _ => (RowIs.in_ hp j 0 4 (by omega) (by omega))) sz42) ?_
        refine SD.one 5 [true, true, true, true, true, true, true, true, true, true, true, false, false, false] (by kernel_rfl) rfl rfl ?_
        refine SL.calle rfl rfl rfl rfl rfl rfl callable29 (fun w hw => rruleof_ok u1 u2 fl rl rao rn rcap fao fn fcap hfn hrn w (hf.below hw.below) (hr.below hw.below) hfb hrb (nth pl i) (hfa i (by omega))) ?_
        refine SL.norm [_] rfl ?_
        refine SD.back (fun _ h => h) ?_
        refine SD.one 11 [true, true, true, true, true, true, true, true, true, true, true, true, false, false] (by kernel_rfl) rfl rfl ?_
        refine SL.calle rfl rfl rfl rfl rfl rfl callable29 (fun w hw => rruleof_ok u1 u2 fl rl rao rn rcap fao fn fcap hfn hrn w (hf.below hw.below) (hr.below hw.below) hfb hrb (nth pl j) (hfa j (by omega))) ?_
        refine SL.norm [_] rfl ?_
        refine SD.back (fun _ h => h) ?_
        refine SD.one 12 [true, true, true, true, true, true, true, true, true, true, true, true, true, false] (by kernel_rfl) rfl rfl ?_
        refine SL.calle rfl rfl rfl rfl rfl rfl callable28 (fun w hw => rmix_ok (ruleX fl rl (nth pl i)) (ruleX fl rl (nth pl j)) w (ruleX_in (fun r hr => (hcm r hr).below hw.below) _) (ruleX_in (fun r hr => (hcm r hr).below hw.below) _)) ?_
        refine SL.norm [_] rfl ?_
        refine SD.back (fun _ h => h) ?_
        refine SD.take 13 [true, true, true, true, true, true, true, true, true, true, true, true, true, true] rfl (by kernel_rfl) rfl (fun _ h => h) rfl rfl rfl (PureOp.not rfl) ?_
        refine SD.done (by kernel_rfl) ?_
        refine QX.ofK ?_
        refine QX.then_ ?_
        refine WC.cond rfl (fun h4 => ?_) (fun h4 => ?_)
        · try simp only [Bool.and_eq_true, Bool.or_eq_true, Bool.not_eq_true', Bool.not_eq_false', Bool.and_eq_false_iff, Bool.or_eq_false_iff, decide_eq_true_eq, decide_eq_false_iff_not, Int.not_lt, Int.not_le, ne_eq, Decidable.not_not] at h4
          refine WC.seq ?_
          refine WC.region ?_
          refine SL.pure rfl rfl rfl (PureOp.assign rfl) ?_
          refine SL.nil_then ?_
          refine WC.ret ?_
          refine QX.ret_in ?_
          refine QX.ret_then ?_
          refine QX.ret_then ?_
          refine QX.ret_in ?_
          refine QX.ret_in ?_
          refine QX.ret_then ?_
          refine QX.ret_then ?_
          refine QX.ret_in ?_
          refine QX.ret_then ?_
          refine QX.ret1 rfl rfl ?_
          intro w hw
          rw [mixed_bad (by simpa using h1) (i := i) (j := j) (by omega) (by omega) h4]
        · try simp only [Bool.and_eq_true, Bool.or_eq_true, Bool.not_eq_true', Bool.not_eq_false', Bool.and_eq_false_iff, Bool.or_eq_false_iff, decide_eq_true_eq, decide_eq_false_iff_not, Int.not_lt, Int.not_le, ne_eq, Decidable.not_not] at h4
          refine WC.skip ?_
          refine QX.normal_in ?_
          refine QX.then_ ?_
          refine WC.region ?_
          refine SL.pure rfl rfl rfl (PureOp.move rfl) ?_
          refine SL.pure rfl rfl rfl (PureOp.addN (k := 1) rfl rfl (fun _ => by omega)) ?_
          refine SL.pure rfl rfl rfl (PureOp.assign rfl) ?_
          refine SL.nil ?_
          refine QX.round 1 (j + 1) ⟨⟨(by first | omega | (dsimp only; omega)), allK_next hz2 h4⟩, by first | omega | (dsimp only; omega)⟩ ⟨rfl, rfl, rfl, rfl, rfl, rfl, rfl, rfl, rfl, rfl, rfl, rfl, rfl, rfl, rfl, rfl, rfl, rfl, rfl, rfl, rfl, rfl, rfl, rfl, rfl, rfl, trivial⟩ rfl
      · try simp only [Bool.and_eq_true, Bool.or_eq_true, Bool.not_eq_true', Bool.not_eq_false', Bool.and_eq_false_iff, Bool.or_eq_false_iff, decide_eq_true_eq, decide_eq_false_iff_not, Int.not_lt, Int.not_le, ne_eq, Decidable.not_not] at h3
        refine WC.exit ?_
        refine QX.exit_then ?_
        refine QX.exit_then ?_
        refine QX.exit_hit ?_
        refine QX.normal_in ?_
        refine QX.then_ ?_
        refine WC.region ?_
        refine SL.pure rfl rfl rfl (PureOp.move rfl) ?_
        refine SL.pure rfl rfl rfl (PureOp.addN (k := 1) rfl rfl (fun _ => by omega)) ?_
        refine SL.pure rfl rfl rfl (PureOp.assign rfl) ?_
        refine SL.nil ?_
        refine QX.round 1 (i + 1) ⟨⟨(by first | omega | (dsimp only; omega)), allK_next hz1 (by have e : i = j := (by omega); subst e; exact hz2)⟩, by first | omega | (dsimp only; omega)⟩ ⟨rfl, rfl, rfl, rfl, rfl, rfl, rfl, rfl, rfl, rfl, rfl, rfl, rfl, rfl, rfl, rfl, trivial⟩ rfl
    · try simp only [Bool.and_eq_true, Bool.or_eq_true, Bool.not_eq_true', Bool.not_eq_false', Bool.and_eq_false_iff, Bool.or_eq_false_iff, decide_eq_true_eq, decide_eq_false_iff_not, Int.not_lt, Int.not_le, ne_eq, Decidable.not_not] at h2
      refine WC.exit ?_
      refine QX.exit_then ?_
      refine QX.exit_then ?_
      refine QX.exit_hit ?_
      refine QX.then_ ?_
      refine WC.seq ?_
      refine WC.region ?_
      refine SL.pure rfl rfl rfl (PureOp.assign rfl) ?_
      refine SL.nil_then ?_
      refine WC.ret ?_
      refine QX.ret1 rfl rfl ?_
      intro w hw
      rw [mixed_ok (by simpa using h1) (by rw [show pn = i from by omega]; exact hz1)]

end Go.Proofs.Ytblmafknmeicfaa
