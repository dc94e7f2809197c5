import Derived.Test.YtipmdakhmpaemaaDoorCpT
import Derived.Test.YtipmdakhmpaemaaDoorCpM
import Derived.Test.YtipmdakhmpaemaaDoorCpR
import Derived.Test.YtipmdakhmpaemaaDoorLaws
namespace Go.Proofs.YtipmdakhmpaemaaDoor
open Go Go.RowKit Eng
set_option linter.unusedVariables false
set_option linter.unusedSimpArgs false
theorem move_k (ao : Option Addr) (cap : Nat) (w0 : World) (hz : SliceIn w0 11 ao 1 cap (rowsF enc50 [cp1])) : FnC Tryd.prog 17 [.agg (tkv tk0 (.slice ao 1 cap)).toArray, .int .i64 0, .int .i64 1] w0 fun v w' => ∃ a c, v = .tuple #[.agg (tkv tk0 (.slice a 1 c)).toArray, .int .i64 0] ∧ w'.ownsRow w0.heap.size 50 11 (.slice a 1 c) 1 (cellsOf enc50 [cp2]) := by
  have h := move_ok tk0 [cp1] ao 1 cap rfl w0 hz (by decide) 0 1
  rw [k_tk, k_lm, k_err] at h
  exact h

set_option maxHeartbeats 4000000 in
set_option maxRecDepth 100000 in
theorem awake_ok (w0 : World) (hW : Words w0) : FnC Tryd.prog 10 [] w0 fun v w' => v = .bool true := by
  refine fnc (N := 102) Tryd.func10 rfl rfl rfl ?_
  refine WC.seq ?_
  refine WC.region ?_
  refine SL.pure rfl rfl rfl (PureOp.assign rfl) ?_
  refine SL.nil_then ?_
  refine WC.seq ?_
  refine WC.region ?_
  refine SL.calle rfl rfl rfl rfl rfl rfl callable8 (fun w hw => Next_ok _ _ w) ?_
  refine SL.pure rfl rfl rfl (PureOp.move rfl) ?_
  refine SL.pure rfl rfl rfl (PureOp.extract rfl rfl) ?_
  refine SL.pure rfl rfl rfl (PureOp.extract rfl rfl) ?_
  refine SL.pure rfl rfl rfl (PureOp.assign rfl) ?_
  refine SL.pure rfl rfl rfl (PureOp.assign rfl) ?_
  refine SL.nil_then ?_
  refine WC.seq ?_
  refine WC.region ?_
  refine SL.calle rfl rfl rfl rfl rfl rfl callable8 (fun w hw => Next_ok _ _ w) ?_
  refine SL.pure rfl rfl rfl (PureOp.move rfl) ?_
  refine SL.pure rfl rfl rfl (PureOp.extract rfl rfl) ?_
  refine SL.pure rfl rfl rfl (PureOp.extract rfl rfl) ?_
  refine SL.pure rfl rfl rfl (PureOp.assign rfl) ?_
  refine SL.pure rfl rfl rfl (PureOp.assign rfl) ?_
  refine SL.nil_then ?_
  refine WC.seq ?_
  refine WC.region ?_
  refine SL.calle rfl rfl rfl rfl rfl rfl callable8 (fun w hw => Next_ok _ _ w) ?_
  refine SL.pure rfl rfl rfl (PureOp.move rfl) ?_
  refine SL.pure rfl rfl rfl (PureOp.extract rfl rfl) ?_
  refine SL.pure rfl rfl rfl (PureOp.extract rfl rfl) ?_
  refine SL.pure rfl rfl rfl (PureOp.assign rfl) ?_
  refine SL.pure rfl rfl rfl (PureOp.assign rfl) ?_
  refine SL.nil_then ?_
  refine WC.seq ?_
  refine WC.region ?_
  refine SL.calle rfl rfl rfl rfl rfl rfl callable21 (fun w hw => text_ok _ w (SliceIn.below hW hw.below)) ?_
  refine SL.pure rfl rfl rfl (PureOp.move rfl) ?_
  refine SL.pure rfl rfl rfl (PureOp.extract rfl rfl) ?_
  refine SL.pure rfl rfl rfl (PureOp.extract rfl rfl) ?_
  refine SL.pure rfl rfl rfl (PureOp.assign rfl) ?_
  refine SL.pure rfl rfl rfl (PureOp.assign rfl) ?_
  refine SL.nil_then ?_
  refine WC.seq ?_
  refine WC.region ?_
  refine SL.calle rfl rfl rfl rfl rfl rfl callable23 (fun w hw => parse_ok _ w (SliceIn.below hW hw.below)) ?_
  refine SL.pure rfl rfl rfl (PureOp.move rfl) ?_
  refine SL.pure rfl rfl rfl (PureOp.extract rfl rfl) ?_
  refine SL.pure rfl rfl rfl (PureOp.extract rfl rfl) ?_
  refine SL.pure rfl rfl rfl (PureOp.assign rfl) ?_
  refine SL.pure rfl rfl rfl (PureOp.assign rfl) ?_
  refine SL.nil_then ?_
  refine WC.seq ?_
  refine WC.region ?_
  refine SL.pure rfl rfl rfl (PureOp.build bld50 rfl rfl) ?_
  refine SL.buildSlice rfl rfl Tryd.underlying31 elem50 rfl rfl rfl rfl (fun b1 hb1 => ?_)
  refine SL.pure rfl rfl rfl (PureOp.build bld34 rfl rfl) ?_
  refine SL.callo (fun a c => .tuple #[.agg (tkv tk0 (.slice a 1 c)).toArray, .int .i64 0]) rfl rfl rfl rfl rfl rfl callable17 (fun w hw => move_k _ _ w (SliceIn.rows (enc := enc50) (l := [cp1]) (hw.mem (i := 0) rfl) enc50_len (by decide))) (fun ma mc => ?_)
  refine SL.pure rfl rfl rfl (PureOp.move rfl) ?_
  refine SL.pure rfl rfl rfl (PureOp.extract rfl rfl) ?_
  refine SL.pure rfl rfl rfl (PureOp.extract rfl rfl) ?_
  refine SL.alloc rfl rfl zero34 (fun b2 hb2 => ?_)
  refine SL.store 2 rfl rfl rfl rfl sz34 rfl rfl ?_
  refine SL.pure rfl rfl rfl (PureOp.assign rfl) ?_
  refine SL.nil_then ?_
  refine WC.seq ?_
  refine WC.region ?_
  refine SL.pure rfl rfl rfl (PureOp.move rfl) ?_
  refine SL.pure rfl rfl rfl (PureOp.eql rfl rfl) ?_
  refine SL.pure rfl rfl rfl (PureOp.move rfl) ?_
  refine SL.newg 42 true rfl ?_
  refine SL.gpure (c := 1) rfl rfl rfl rfl rfl rfl rfl (PureOp.move rfl) ?_
  refine SL.gpure (c := 1) rfl rfl rfl rfl rfl rfl rfl (PureOp.eql rfl rfl) ?_
  refine SL.pure rfl rfl rfl (PureOp.and_ rfl rfl rfl rfl) ?_
  refine SL.pure rfl rfl rfl (PureOp.move rfl) ?_
  refine SL.newg 46 true rfl ?_
  refine SL.gpure (c := 2) rfl rfl rfl rfl rfl rfl rfl (PureOp.move rfl) ?_
  refine SL.gpure (c := 2) rfl rfl rfl rfl rfl rfl rfl (PureOp.eql rfl rfl) ?_
  refine SL.pure rfl rfl rfl (PureOp.and_ rfl rfl rfl rfl) ?_
  refine SL.pure rfl rfl rfl (PureOp.move rfl) ?_
  refine SL.newg 50 true rfl ?_
  refine SL.gpure (c := 3) rfl rfl rfl rfl rfl rfl rfl (PureOp.move rfl) ?_
  refine SL.gpure (c := 3) rfl rfl rfl rfl rfl rfl rfl (PureOp.eql rfl rfl) ?_
  refine SL.pure rfl rfl rfl (PureOp.and_ rfl rfl rfl rfl) ?_
  refine SL.pure rfl rfl rfl (PureOp.move rfl) ?_
  refine SL.newg 54 true rfl ?_
  refine SL.gpure (c := 4) rfl rfl rfl rfl rfl rfl rfl (PureOp.move rfl) ?_
  refine SL.gpure (c := 4) rfl rfl rfl rfl rfl rfl rfl (PureOp.eqls rfl rfl) ?_
  refine SL.pure rfl rfl rfl (PureOp.and_ rfl rfl rfl rfl) ?_
  refine SL.pure rfl rfl rfl (PureOp.move rfl) ?_
  refine SL.newg 58 true rfl ?_
  refine SL.gpure (c := 5) rfl rfl rfl rfl rfl rfl rfl (PureOp.move rfl) ?_
  refine SL.gpure (c := 5) rfl rfl rfl rfl rfl rfl rfl (PureOp.eql rfl rfl) ?_
  refine SL.pure rfl rfl rfl (PureOp.and_ rfl rfl rfl rfl) ?_
  refine SL.pure rfl rfl rfl (PureOp.move rfl) ?_
  refine SL.newg 62 true rfl ?_
  refine SL.gpure (c := 6) rfl rfl rfl rfl rfl rfl rfl (PureOp.move rfl) ?_
  refine SL.gpure (c := 6) rfl rfl rfl rfl rfl rfl rfl (PureOp.eql rfl rfl) ?_
  refine SL.pure rfl rfl rfl (PureOp.and_ rfl rfl rfl rfl) ?_
  refine SL.pure rfl rfl rfl (PureOp.move rfl) ?_
  refine SL.newg 66 true rfl ?_
  refine SL.gpure (c := 7) rfl rfl rfl rfl rfl rfl rfl (PureOp.move rfl) ?_
  refine SL.gpure (c := 7) rfl rfl rfl rfl rfl rfl rfl (PureOp.eql rfl rfl) ?_
  refine SL.pure rfl rfl rfl (PureOp.and_ rfl rfl rfl rfl) ?_
  refine SL.pure rfl rfl rfl (PureOp.move rfl) ?_
  refine SL.newg 70 true rfl ?_
  refine SL.gpure (c := 8) rfl rfl rfl rfl rfl rfl rfl (PureOp.move rfl) ?_
  refine SL.gpure (c := 8) rfl rfl rfl rfl rfl rfl rfl (PureOp.eql rfl rfl) ?_
  refine SL.pure rfl rfl rfl (PureOp.and_ rfl rfl rfl rfl) ?_
  refine SL.pure rfl rfl rfl (PureOp.move rfl) ?_
  refine SL.newg 74 true rfl ?_
  refine SL.gpure (c := 9) rfl rfl rfl rfl rfl rfl rfl (PureOp.fieldAddrT 5 Tryd.underlying34 rfl sz31 rfl rfl) ?_
  refine SL.gpure (c := 9) rfl rfl rfl rfl rfl rfl rfl (PureOp.load Tryd.underlying31 rfl rfl (fun _ => (CellIs.cells 2 rfl rfl))) ?_
  refine SL.gpure (c := 9) rfl rfl rfl rfl rfl rfl rfl (PureOp.len rfl Tryd.underlying31) ?_
  refine SL.gpure (c := 9) rfl rfl rfl rfl rfl rfl rfl (PureOp.eql rfl rfl) ?_
  refine SL.pure rfl rfl rfl (PureOp.and_ rfl rfl rfl rfl) ?_
  refine SL.pure rfl rfl rfl (PureOp.move rfl) ?_
  refine SL.newg 80 true rfl ?_
  refine SL.gpure (c := 10) rfl rfl rfl rfl rfl rfl rfl (PureOp.fieldAddrT 5 Tryd.underlying34 rfl sz31 rfl rfl) ?_
  refine SL.gpure (c := 10) rfl rfl rfl rfl rfl rfl rfl (PureOp.load Tryd.underlying31 rfl rfl (fun _ => (CellIs.cells 2 rfl rfl))) ?_
  refine SL.gpure (c := 10) rfl rfl rfl rfl rfl rfl rfl (PureOp.indexAddr Tryd.underlying31 sz50 rfl rfl (AoOk.own 1 rfl) (by intro hg; simp [gval] at hg; first | omega | decide)) ?_
  refine SL.gpure (c := 10) rfl rfl rfl rfl rfl rfl rfl (PureOp.fieldAddr 9 Tryd.underlying50 rfl rfl sz3 rfl) ?_
  refine SL.gpure (c := 10) rfl rfl rfl rfl rfl rfl rfl (PureOp.load Tryd.underlying3 rfl rfl (by intro hg; simp [gval] at hg; exact (CellIs.ownc 1 rfl (0 : Int).toNat 9 (by rfl)))) ?_
  refine SL.gpure (c := 10) rfl rfl rfl rfl rfl rfl rfl (PureOp.eql rfl rfl) ?_
  refine SL.pure rfl rfl rfl (PureOp.and_ rfl rfl rfl rfl) ?_
  refine SL.pure rfl rfl rfl (PureOp.move rfl) ?_
  refine SL.newg 88 true rfl ?_
  refine SL.gcalle (c := 11) rfl rfl rfl rfl rfl rfl rfl rfl rfl rfl callable15 (by intro hg; simp [gval] at hg; exact (fun w hw => reach_ok _ _ w)) ?_
  refine SL.pure rfl rfl rfl (PureOp.and_ rfl rfl rfl rfl) ?_
  refine SL.pure rfl rfl rfl (PureOp.move rfl) ?_
  refine SL.newg 91 true rfl ?_
  refine SL.gcalle (c := 12) rfl rfl rfl rfl rfl rfl rfl rfl rfl rfl callable15 (by intro hg; simp [gval] at hg; exact (fun w hw => reach_ok _ _ w)) ?_
  refine SL.gpure (c := 12) rfl rfl rfl rfl rfl rfl rfl (PureOp.not rfl) ?_
  refine SL.pure rfl rfl rfl (PureOp.and_ rfl rfl rfl rfl) ?_
  refine SL.pure rfl rfl rfl (PureOp.move rfl) ?_
  refine SL.newg 95 true rfl ?_
  refine SL.gcalle (c := 13) rfl rfl rfl rfl rfl rfl rfl rfl rfl rfl callable11 (by intro hg; simp [gval] at hg; exact (fun w hw => final_ok _ w)) ?_
  refine SL.pure rfl rfl rfl (PureOp.and_ rfl rfl rfl rfl) ?_
  refine SL.pure rfl rfl rfl (PureOp.move rfl) ?_
  refine SL.newg 98 true rfl ?_
  refine SL.gcalle (c := 14) rfl rfl rfl rfl rfl rfl rfl rfl rfl rfl callable13 (by intro hg; simp [gval] at hg; exact (fun w hw => used_ok _ w)) ?_
  refine SL.gpure (c := 14) rfl rfl rfl rfl rfl rfl rfl (PureOp.not rfl) ?_
  refine SL.pure rfl rfl rfl (PureOp.and_ rfl rfl rfl rfl) ?_
  refine SL.pure rfl rfl rfl (PureOp.assign rfl) ?_
  refine SL.nil_then ?_
  refine WC.ret ?_
  refine QX.ret1 rfl rfl ?_
  intro w hw
  refine congrArg Value.bool ?_
  simp only [Bool.and_eq_true]
  repeat' apply And.intro
  all_goals first | rfl | exact bytes_eq.2 rfl | decide

set_option maxHeartbeats 4000000 in
set_option maxRecDepth 100000 in
theorem same_coupons_ok (l : List Cp) (a1 a2 : Option Addr) (n1 n2 c1 c2 : Nat) (hn1 : n1 = l.length) (hn2 : n2 = l.length) (w0 : World) (hz1 : SliceIn w0 11 a1 n1 c1 (rowsF enc50 l)) (hz2 : SliceIn w0 11 a2 n2 c2 (rowsF enc50 l)) (hnb : n1 ≤ 1000) : FnC Tryd.prog 20 [.slice a1 n1 c1, .slice a2 n2 c2] w0 fun v w' => v = .bool true := by
  refine fnc (N := 26) Tryd.func20 rfl rfl rfl ?_
  refine WC.seq ?_
  refine WC.region ?_
  refine SL.pure rfl rfl rfl (PureOp.assign rfl) ?_
  refine SL.nil_then ?_
  refine WC.seq ?_
  refine WC.seq ?_
  refine WC.region ?_
  refine SL.pure rfl rfl rfl (PureOp.move rfl) ?_
  refine SL.pure rfl rfl rfl (PureOp.len rfl Tryd.underlying31) ?_
  refine SL.pure rfl rfl rfl (PureOp.move rfl) ?_
  refine SL.pure rfl rfl rfl (PureOp.len rfl Tryd.underlying31) ?_
  refine SL.pure rfl rfl rfl (PureOp.neq rfl rfl) ?_
  refine SL.nil_then ?_
  refine WC.cond rfl (fun h1 => ?_) (fun h1 => ?_)
  · try simp only [Bool.and_eq_true, Bool.or_eq_true, Bool.not_eq_true', Bool.not_eq_false', Bool.and_eq_false_iff, Bool.or_eq_false_iff, decide_eq_true_eq, decide_eq_false_iff_not, Int.not_lt, Int.not_le, ne_eq, Decidable.not_not] at h1
    exact absurd h1 (by omega)
  · try simp only [Bool.and_eq_true, Bool.or_eq_true, Bool.not_eq_true', Bool.not_eq_false', Bool.and_eq_false_iff, Bool.or_eq_false_iff, decide_eq_true_eq, decide_eq_false_iff_not, Int.not_lt, Int.not_le, ne_eq, Decidable.not_not] at h1
    refine WC.skip ?_
    refine QX.then_ ?_
    refine WC.seq ?_
    refine WC.seq ?_
    refine WC.region ?_
    refine SL.pure rfl rfl rfl (PureOp.assign rfl) ?_
    refine SL.nil_then ?_
    refine WC.block ?_
    refine WC.loop (σ := Nat) (fun s => [(0, 0, .slice a1 n1 c1), (1, 0, .slice a2 n2 c2), (5, 0, .int .i64 (s : Nat))]) (fun _ => []) (fun s => s ≤ n1) (fun s => n1 - s) 0 (0) (Nat.zero_le _) ⟨rfl, rfl, rfl, rfl, rfl, rfl, trivial⟩ rfl ?_
    rintro k hk
    refine WC.seq ?_
    refine WC.seq ?_
    refine WC.region ?_
    refine SL.pure rfl rfl rfl (PureOp.move rfl) ?_
    refine SL.pure rfl rfl rfl (PureOp.move rfl) ?_
    refine SL.pure rfl rfl rfl (PureOp.len rfl Tryd.underlying31) ?_
    refine SL.pure rfl rfl rfl (PureOp.lss rfl rfl) ?_
    refine SL.nil_then ?_
    refine WC.cond rfl (fun h2 => ?_) (fun h2 => ?_)
    · try simp only [Bool.and_eq_true, Bool.or_eq_true, Bool.not_eq_true', Bool.not_eq_false', Bool.and_eq_false_iff, Bool.or_eq_false_iff, decide_eq_true_eq, decide_eq_false_iff_not, Int.not_lt, Int.not_le, ne_eq, Decidable.not_not] at h2
      refine WC.skip ?_
      refine QX.then_ ?_
      refine WC.seq ?_
      refine WC.block ?_
      refine WC.seq ?_
      refine WC.quiet rfl (by kernel_rfl) ?_
      refine SQ.pure rfl rfl rfl (PureOp.move rfl) ?_
      refine SQ.pure rfl rfl rfl (PureOp.move rfl) ?_
      refine SQ.pure rfl rfl rfl (PureOp.indexAddrN Tryd.underlying31 sz50 rfl rfl (AoOk.in_ hz1) (fun _ => by omega)) ?_
      refine SQ.pure rfl rfl rfl (PureOp.loads Tryd.underlying50 rfl rfl (fun _ => (RowIs.in_ hz1 _ 0 11 (by omega) (by omega))) sz50) ?_
      refine SQ.pure rfl rfl rfl (PureOp.move rfl) ?_
      refine SQ.pure rfl rfl rfl (PureOp.move rfl) ?_
      refine SQ.pure rfl rfl rfl (PureOp.indexAddrN Tryd.underlying31 sz50 rfl rfl (AoOk.in_ hz2) (fun _ => by omega)) ?_
      refine SQ.pure rfl rfl rfl (PureOp.loads Tryd.underlying50 rfl rfl (fun _ => (RowIs.in_ hz2 _ 0 11 (by omega) (by omega))) sz50) ?_
      refine SQ.pure rfl rfl rfl (PureOp.neqd rfl rfl deep50 rfl) ?_
      refine SQ.nil_then ?_
      refine WC.cond rfl (fun h3 => ?_) (fun h3 => ?_)
      · try simp only [Bool.and_eq_true, Bool.or_eq_true, Bool.not_eq_true', Bool.not_eq_false', Bool.and_eq_false_iff, Bool.or_eq_false_iff, decide_eq_true_eq, decide_eq_false_iff_not, Int.not_lt, Int.not_le, ne_eq, Decidable.not_not] at h3
        exact absurd h3 (by rw [eqB_refl (ks := [1, 0, 0, 1, 1, 0, 0, 1, 1, 0, 0]) rfl]; simp)
      · try simp only [Bool.and_eq_true, Bool.or_eq_true, Bool.not_eq_true', Bool.not_eq_false', Bool.and_eq_false_iff, Bool.or_eq_false_iff, decide_eq_true_eq, decide_eq_false_iff_not, Int.not_lt, Int.not_le, ne_eq, Decidable.not_not] at h3
        refine WC.skip ?_
        refine QX.normal_in ?_
        refine QX.then_ ?_
        refine WC.region ?_
        refine SL.pure rfl rfl rfl (PureOp.move rfl) ?_
        refine SL.pure rfl rfl rfl (PureOp.add rfl rfl (fun _ => by omega)) ?_
        refine SL.pure rfl rfl rfl (PureOp.assign rfl) ?_
        refine SL.nil ?_
        refine QX.round 0 (k + 1) ⟨by omega, by omega⟩ ⟨rfl, rfl, rfl, rfl, rfl, rfl, trivial⟩ rfl
    · try simp only [Bool.and_eq_true, Bool.or_eq_true, Bool.not_eq_true', Bool.not_eq_false', Bool.and_eq_false_iff, Bool.or_eq_false_iff, decide_eq_true_eq, decide_eq_false_iff_not, Int.not_lt, Int.not_le, ne_eq, Decidable.not_not] at h2
      refine WC.exit ?_
      refine QX.exit_then ?_
      refine QX.exit_then ?_
      refine QX.exit_hit ?_
      refine QX.then_ ?_
      refine WC.seq ?_
      refine WC.region ?_
      refine SL.pure rfl rfl rfl (PureOp.assign rfl) ?_
      refine SL.nil_then ?_
      refine WC.ret ?_
      refine QX.ret1 rfl rfl ?_
      intro w hw
      rfl

set_option maxHeartbeats 4000000 in
set_option maxRecDepth 100000 in
theorem same_tickets_ok (l : List Cp) (a1 a2 : Option Addr) (n1 n2 c1 c2 : Nat) (hn1 : n1 = l.length) (hn2 : n2 = l.length) (w0 : World) (hz1 : SliceIn w0 11 a1 n1 c1 (rowsF enc50 l)) (hz2 : SliceIn w0 11 a2 n2 c2 (rowsF enc50 l)) (hnb : n1 ≤ 1000) (t : TK) (ht : SliceIn w0 2 t.taxes.ao t.taxes.l.length t.taxes.cap (rowsF enc54 t.taxes.l)) (hlt : t.taxes.l.length ≤ 1000) : FnC Tryd.prog 19 [.agg (tkv t (.slice a1 n1 c1)).toArray, .agg (tkv t (.slice a2 n2 c2)).toArray] w0 fun v w' => v = .bool true := by
  refine fnc (N := 78) Tryd.func19 rfl rfl rfl ?_
  refine WC.seq ?_
  refine WC.region ?_
  refine SL.box rfl rfl rfl (fun b1 hb1 => ?_)
  refine SL.box rfl rfl rfl (fun b2 hb2 => ?_)
  refine SL.pure rfl rfl rfl (PureOp.assign rfl) ?_
  refine SL.nil_then ?_
  refine WC.seq ?_
  refine WC.seq ?_
  refine WC.region ?_
  refine SL.pure rfl rfl rfl (PureOp.fieldAddrT 0 Tryd.underlying34 rfl sz3 rfl rfl) ?_
  refine SL.pure rfl rfl rfl (PureOp.load Tryd.underlying3 rfl rfl (fun _ => (CellIs.cells 0 rfl rfl))) ?_
  refine SL.pure rfl rfl rfl (PureOp.fieldAddrT 0 Tryd.underlying34 rfl sz3 rfl rfl) ?_
  refine SL.pure rfl rfl rfl (PureOp.load Tryd.underlying3 rfl rfl (fun _ => (CellIs.cells 1 rfl rfl))) ?_
  refine SL.pure rfl rfl rfl (PureOp.neq rfl rfl) ?_
  refine SL.pure rfl rfl rfl (PureOp.move rfl) ?_
  refine SL.newg 11 false rfl ?_
  refine SL.gpure (c := 1) rfl rfl rfl rfl rfl rfl rfl (PureOp.fieldAddrT 1 Tryd.underlying34 rfl sz9 rfl rfl) ?_
  refine SL.gpure (c := 1) rfl rfl rfl rfl rfl rfl rfl (PureOp.load Tryd.underlying9 rfl rfl (fun _ => (CellIs.cells 0 rfl rfl))) ?_
  refine SL.gpure (c := 1) rfl rfl rfl rfl rfl rfl rfl (PureOp.fieldAddrT 1 Tryd.underlying34 rfl sz9 rfl rfl) ?_
  refine SL.gpure (c := 1) rfl rfl rfl rfl rfl rfl rfl (PureOp.load Tryd.underlying9 rfl rfl (fun _ => (CellIs.cells 1 rfl rfl))) ?_
  refine SL.gpure (c := 1) rfl rfl rfl rfl rfl rfl rfl (PureOp.neqs rfl rfl) ?_
  refine SL.pure rfl rfl rfl (PureOp.or_ rfl rfl rfl rfl) ?_
  refine SL.pure rfl rfl rfl (PureOp.move rfl) ?_
  refine SL.newg 18 false rfl ?_
  refine SL.gpure (c := 2) rfl rfl rfl rfl rfl rfl rfl (PureOp.fieldAddrT 2 Tryd.underlying34 rfl sz30 rfl rfl) ?_
  refine SL.gpure (c := 2) rfl rfl rfl rfl rfl rfl rfl (PureOp.loads Tryd.underlying30 rfl rfl (fun _ => (RowIs.cells 0 2 3 rfl rfl)) sz30) ?_
  refine SL.gpure (c := 2) rfl rfl rfl rfl rfl rfl rfl (PureOp.fieldAddrT 2 Tryd.underlying34 rfl sz30 rfl rfl) ?_
  refine SL.gpure (c := 2) rfl rfl rfl rfl rfl rfl rfl (PureOp.loads Tryd.underlying30 rfl rfl (fun _ => (RowIs.cells 1 2 3 rfl rfl)) sz30) ?_
  refine SL.gpure (c := 2) rfl rfl rfl rfl rfl rfl rfl (PureOp.neqa rfl rfl flat30 rfl) ?_
  refine SL.pure rfl rfl rfl (PureOp.or_ rfl rfl rfl rfl) ?_
  refine SL.pure rfl rfl rfl (PureOp.move rfl) ?_
  refine SL.newg 25 false rfl ?_
  refine SL.gpure (c := 3) rfl rfl rfl rfl rfl rfl rfl (PureOp.fieldAddrT 6 Tryd.underlying34 rfl sz3 rfl rfl) ?_
  refine SL.gpure (c := 3) rfl rfl rfl rfl rfl rfl rfl (PureOp.load Tryd.underlying3 rfl rfl (fun _ => (CellIs.cells 0 rfl rfl))) ?_
  refine SL.gpure (c := 3) rfl rfl rfl rfl rfl rfl rfl (PureOp.fieldAddrT 6 Tryd.underlying34 rfl sz3 rfl rfl) ?_
  refine SL.gpure (c := 3) rfl rfl rfl rfl rfl rfl rfl (PureOp.load Tryd.underlying3 rfl rfl (fun _ => (CellIs.cells 1 rfl rfl))) ?_
  refine SL.gpure (c := 3) rfl rfl rfl rfl rfl rfl rfl (PureOp.neq rfl rfl) ?_
  refine SL.pure rfl rfl rfl (PureOp.or_ rfl rfl rfl rfl) ?_
  refine SL.pure rfl rfl rfl (PureOp.move rfl) ?_
  refine SL.newg 32 false rfl ?_
  refine SL.gpure (c := 4) rfl rfl rfl rfl rfl rfl rfl (PureOp.fieldAddrT 8 Tryd.underlying34 rfl sz3 rfl rfl) ?_
  refine SL.gpure (c := 4) rfl rfl rfl rfl rfl rfl rfl (PureOp.load Tryd.underlying3 rfl rfl (fun _ => (CellIs.cells 0 rfl rfl))) ?_
  refine SL.gpure (c := 4) rfl rfl rfl rfl rfl rfl rfl (PureOp.fieldAddrT 8 Tryd.underlying34 rfl sz3 rfl rfl) ?_
  refine SL.gpure (c := 4) rfl rfl rfl rfl rfl rfl rfl (PureOp.load Tryd.underlying3 rfl rfl (fun _ => (CellIs.cells 1 rfl rfl))) ?_
  refine SL.gpure (c := 4) rfl rfl rfl rfl rfl rfl rfl (PureOp.neq rfl rfl) ?_
  refine SL.pure rfl rfl rfl (PureOp.or_ rfl rfl rfl rfl) ?_
  refine SL.pure rfl rfl rfl (PureOp.move rfl) ?_
  refine SL.newg 39 false rfl ?_
  refine SL.gpure (c := 5) rfl rfl rfl rfl rfl rfl rfl (PureOp.fieldAddrT 9 Tryd.underlying34 rfl sz3 rfl rfl) ?_
  refine SL.gpure (c := 5) rfl rfl rfl rfl rfl rfl rfl (PureOp.load Tryd.underlying3 rfl rfl (fun _ => (CellIs.cells 0 rfl rfl))) ?_
  refine SL.gpure (c := 5) rfl rfl rfl rfl rfl rfl rfl (PureOp.fieldAddrT 9 Tryd.underlying34 rfl sz3 rfl rfl) ?_
  refine SL.gpure (c := 5) rfl rfl rfl rfl rfl rfl rfl (PureOp.load Tryd.underlying3 rfl rfl (fun _ => (CellIs.cells 1 rfl rfl))) ?_
  refine SL.gpure (c := 5) rfl rfl rfl rfl rfl rfl rfl (PureOp.neq rfl rfl) ?_
  refine SL.pure rfl rfl rfl (PureOp.or_ rfl rfl rfl rfl) ?_
  refine SL.pure rfl rfl rfl (PureOp.move rfl) ?_
  refine SL.newg 46 false rfl ?_
  refine SL.gpure (c := 6) rfl rfl rfl rfl rfl rfl rfl (PureOp.fieldAddrT 7 Tryd.underlying34 rfl sz32 rfl rfl) ?_
  refine SL.gpure (c := 6) rfl rfl rfl rfl rfl rfl rfl (PureOp.load Tryd.underlying32 rfl rfl (fun _ => (CellIs.cells 0 rfl rfl))) ?_
  refine SL.gpure (c := 6) rfl rfl rfl rfl rfl rfl rfl (PureOp.len rfl Tryd.underlying32) ?_
  refine SL.gpure (c := 6) rfl rfl rfl rfl rfl rfl rfl (PureOp.fieldAddrT 7 Tryd.underlying34 rfl sz32 rfl rfl) ?_
  refine SL.gpure (c := 6) rfl rfl rfl rfl rfl rfl rfl (PureOp.load Tryd.underlying32 rfl rfl (fun _ => (CellIs.cells 1 rfl rfl))) ?_
  refine SL.gpure (c := 6) rfl rfl rfl rfl rfl rfl rfl (PureOp.len rfl Tryd.underlying32) ?_
  refine SL.gpure (c := 6) rfl rfl rfl rfl rfl rfl rfl (PureOp.neq rfl rfl) ?_
  refine SL.pure rfl rfl rfl (PureOp.or_ rfl rfl rfl rfl) ?_
  refine SL.nil_then ?_
  refine WC.cond rfl (fun h1 => ?_) (fun h1 => ?_)
  · try simp only [Bool.and_eq_true, Bool.or_eq_true, Bool.not_eq_true', Bool.not_eq_false', Bool.and_eq_false_iff, Bool.or_eq_false_iff, decide_eq_true_eq, decide_eq_false_iff_not, Int.not_lt, Int.not_le, ne_eq, Decidable.not_not] at h1
    exact absurd h1 (by simp [eqB, eqV, tkv, vcells])
  · try simp only [Bool.and_eq_true, Bool.or_eq_true, Bool.not_eq_true', Bool.not_eq_false', Bool.and_eq_false_iff, Bool.or_eq_false_iff, decide_eq_true_eq, decide_eq_false_iff_not, Int.not_lt, Int.not_le, ne_eq, Decidable.not_not] at h1
    refine WC.skip ?_
    refine QX.then_ ?_
    refine WC.seq ?_
    refine WC.seq ?_
    refine WC.region ?_
    refine SL.pure rfl rfl rfl (PureOp.assign rfl) ?_
    refine SL.nil_then ?_
    refine WC.block ?_
    refine WC.loop (σ := Nat) (fun s => [(2, 0, .pointer (some ⟨b1, 0, none⟩)), (3, 0, .pointer (some ⟨b2, 0, none⟩)), (5, 0, .int .i64 (s : Nat))]) (fun _ => [Item.cells b1 (tkv t (.slice a1 n1 c1)) 34, Item.cells b2 (tkv t (.slice a2 n2 c2)) 34]) (fun s => s ≤ t.taxes.l.length) (fun s => t.taxes.l.length - s) 2 (0) (Nat.zero_le _) ⟨rfl, rfl, rfl, rfl, rfl, rfl, trivial⟩ rfl ?_
    rintro k hk
    refine WC.seq ?_
    refine WC.seq ?_
    refine WC.region ?_
    refine SL.pure rfl rfl rfl (PureOp.move rfl) ?_
    refine SL.pure rfl rfl rfl (PureOp.fieldAddrT 7 Tryd.underlying34 rfl sz32 rfl rfl) ?_
    refine SL.pure rfl rfl rfl (PureOp.load Tryd.underlying32 rfl rfl (fun _ => (CellIs.cells 0 rfl rfl))) ?_
    refine SL.pure rfl rfl rfl (PureOp.len rfl Tryd.underlying32) ?_
    refine SL.pure rfl rfl rfl (PureOp.lss rfl rfl) ?_
    refine SL.nil_then ?_
    refine WC.cond rfl (fun h2 => ?_) (fun h2 => ?_)
    · try simp only [Bool.and_eq_true, Bool.or_eq_true, Bool.not_eq_true', Bool.not_eq_false', Bool.and_eq_false_iff, Bool.or_eq_false_iff, decide_eq_true_eq, decide_eq_false_iff_not, Int.not_lt, Int.not_le, ne_eq, Decidable.not_not] at h2
      refine WC.skip ?_
      refine QX.then_ ?_
      refine WC.seq ?_
      refine WC.block ?_
      refine WC.seq ?_
      refine WC.quiet rfl (by kernel_rfl) ?_
      refine SQ.pure rfl rfl rfl (PureOp.fieldAddrT 7 Tryd.underlying34 rfl sz32 rfl rfl) ?_
      refine SQ.pure rfl rfl rfl (PureOp.load Tryd.underlying32 rfl rfl (fun _ => (CellIs.cells 0 rfl rfl))) ?_
      refine SQ.pure rfl rfl rfl (PureOp.move rfl) ?_
      refine SQ.pure rfl rfl rfl (PureOp.indexAddrN Tryd.underlying32 sz54 rfl rfl (AoOk.in_ ht) (fun _ => by omega)) ?_
      refine SQ.pure rfl rfl rfl (PureOp.loads Tryd.underlying54 rfl rfl (fun _ => (RowIs.in_ ht _ 0 2 (by omega) (by omega))) sz54) ?_
      refine SQ.pure rfl rfl rfl (PureOp.fieldAddrT 7 Tryd.underlying34 rfl sz32 rfl rfl) ?_
      refine SQ.pure rfl rfl rfl (PureOp.load Tryd.underlying32 rfl rfl (fun _ => (CellIs.cells 1 rfl rfl))) ?_
      refine SQ.pure rfl rfl rfl (PureOp.move rfl) ?_
      refine SQ.pure rfl rfl rfl (PureOp.indexAddrN Tryd.underlying32 sz54 rfl rfl (AoOk.in_ ht) (fun _ => by omega)) ?_
      refine SQ.pure rfl rfl rfl (PureOp.loads Tryd.underlying54 rfl rfl (fun _ => (RowIs.in_ ht _ 0 2 (by omega) (by omega))) sz54) ?_
      refine SQ.pure rfl rfl rfl (PureOp.neqa rfl rfl flat54 rfl) ?_
      refine SQ.nil_then ?_
      refine WC.cond rfl (fun h3 => ?_) (fun h3 => ?_)
      · try simp only [Bool.and_eq_true, Bool.or_eq_true, Bool.not_eq_true', Bool.not_eq_false', Bool.and_eq_false_iff, Bool.or_eq_false_iff, decide_eq_true_eq, decide_eq_false_iff_not, Int.not_lt, Int.not_le, ne_eq, Decidable.not_not] at h3
        exact absurd h3 (by rw [eqB_refl (ks := [1, 0]) rfl]; simp)
      · try simp only [Bool.and_eq_true, Bool.or_eq_true, Bool.not_eq_true', Bool.not_eq_false', Bool.and_eq_false_iff, Bool.or_eq_false_iff, decide_eq_true_eq, decide_eq_false_iff_not, Int.not_lt, Int.not_le, ne_eq, Decidable.not_not] at h3
        refine WC.skip ?_
        refine QX.normal_in ?_
        refine QX.then_ ?_
        refine WC.region ?_
        refine SL.pure rfl rfl rfl (PureOp.move rfl) ?_
        refine SL.pure rfl rfl rfl (PureOp.add rfl rfl (fun _ => by omega)) ?_
        refine SL.pure rfl rfl rfl (PureOp.assign rfl) ?_
        refine SL.nil ?_
        refine QX.round 2 (k + 1) ⟨by omega, by omega⟩ ⟨rfl, rfl, rfl, rfl, rfl, rfl, trivial⟩ rfl
    · try simp only [Bool.and_eq_true, Bool.or_eq_true, Bool.not_eq_true', Bool.not_eq_false', Bool.and_eq_false_iff, Bool.or_eq_false_iff, decide_eq_true_eq, decide_eq_false_iff_not, Int.not_lt, Int.not_le, ne_eq, Decidable.not_not] at h2
      refine WC.exit ?_
      refine QX.exit_then ?_
      refine QX.exit_then ?_
      refine QX.exit_hit ?_
      refine QX.then_ ?_
      refine WC.seq ?_
      refine WC.region ?_
      refine SL.pure rfl rfl rfl (PureOp.fieldAddrT 5 Tryd.underlying34 rfl sz31 rfl rfl) ?_
      refine SL.pure rfl rfl rfl (PureOp.load Tryd.underlying31 rfl rfl (fun _ => (CellIs.cells 0 rfl rfl))) ?_
      refine SL.pure rfl rfl rfl (PureOp.fieldAddrT 5 Tryd.underlying34 rfl sz31 rfl rfl) ?_
      refine SL.pure rfl rfl rfl (PureOp.load Tryd.underlying31 rfl rfl (fun _ => (CellIs.cells 1 rfl rfl))) ?_
      refine SL.calle rfl rfl rfl rfl rfl rfl callable20 (fun w hw => same_coupons_ok l a1 a2 n1 n2 c1 c2 hn1 hn2 w (hz1.below hw.below) (hz2.below hw.below) hnb) ?_
      refine SL.pure rfl rfl rfl (PureOp.assign rfl) ?_
      refine SL.nil_then ?_
      refine WC.ret ?_
      refine QX.ret1 rfl rfl ?_
      intro w hw
      rfl

end Go.Proofs.YtipmdakhmpaemaaDoor
