/- The walks of zone: what each function returns. -/
import Derived.Test.YtocegpfmoiokeaaZoneB
namespace Go.Proofs.Ytocegpfmoiokeaa
open Go Go.RowKit Eng
set_option linter.unusedVariables false
set_option linter.unusedSimpArgs false
theorem knb1 : ∀ k, In64 (nth ([(10000, 120)] : List Sh) k).1 := by intro k; rcases k with _ | k <;> (first | (show _ ≤ _ ∧ _ ≤ _; decide) | (rw [nth_out (by simp)]; show _ ≤ _ ∧ _ ≤ _; decide))
theorem knb3 : ∀ k, In64 (nth ([(1000, 60), (3000, 0)] : List Sh) k).1 := by intro k; rcases k with _ | _ | k <;> (first | (show _ ≤ _ ∧ _ ≤ _; decide) | (rw [nth_out (by simp)]; show _ ≤ _ ∧ _ ≤ _; decide))
theorem knv1 : Vd none [(10000, 120)] := by simp [Vd]
theorem knv2 : Vd none [(10000, 0)] := by simp [Vd]
set_option maxHeartbeats 4000000 in
set_option maxRecDepth 100000 in
theorem far_ok (o : Int) (l : List Sh) (ao : Option Addr) (n cap : Nat) (hn : n = l.length) (w0 : World) (hz : SliceIn w0 2 ao n cap (rowsF encS l)) (hb : ∀ k, In64 (nth l k).1) (u : Int) : FnC Try.prog 8 [.agg #[.int .i64 o, .slice ao n cap], .int .i64 u] w0 fun v _ => v = .bool (decide (u < -549755813888) || decide (549755813888 < u) || decide (40 < (n : Int)) || decide (checkZ o l ≠ 0)) := by
  refine fnc (N := 22) Try.func8 rfl rfl rfl ?_
  refine WC.seq ?_
  refine WC.region ?_
  refine SL.box rfl rfl rfl (fun b1 hb1 => ?_)
  refine SL.pure rfl rfl rfl (PureOp.assign rfl) ?_
  refine SL.nil_then ?_
  refine WC.seq ?_
  refine WC.region ?_
  refine SL.pure rfl rfl rfl (PureOp.move rfl) ?_
  refine SL.pure rfl rfl rfl (PureOp.lss rfl rfl) ?_
  refine SL.pure rfl rfl rfl (PureOp.move rfl) ?_
  refine SL.newg 7 false rfl ?_
  refine SL.gpure (c := 1) rfl rfl rfl rfl rfl rfl rfl (PureOp.move rfl) ?_
  refine SL.gpure (c := 1) rfl rfl rfl rfl rfl rfl rfl (PureOp.gtr rfl rfl) ?_
  refine SL.pure rfl rfl rfl (PureOp.or_ rfl rfl rfl rfl) ?_
  refine SL.pure rfl rfl rfl (PureOp.move rfl) ?_
  refine SL.newg 11 false rfl ?_
  refine SL.gpure (c := 2) rfl rfl rfl rfl rfl rfl rfl (PureOp.fieldAddrT 1 Try.underlying24 rfl sz22 rfl rfl) ?_
  refine SL.gpure (c := 2) rfl rfl rfl rfl rfl rfl rfl (PureOp.load Try.underlying22 rfl rfl (fun _ => (CellIs.cells 0 rfl rfl))) ?_
  refine SL.gpure (c := 2) rfl rfl rfl rfl rfl rfl rfl (PureOp.len rfl Try.underlying22) ?_
  refine SL.gpure (c := 2) rfl rfl rfl rfl rfl rfl rfl (PureOp.gtr rfl rfl) ?_
  refine SL.pure rfl rfl rfl (PureOp.or_ rfl rfl rfl rfl) ?_
  refine SL.pure rfl rfl rfl (PureOp.move rfl) ?_
  refine SL.newg 17 false rfl ?_
  refine SL.gpure (c := 3) rfl rfl rfl rfl rfl rfl rfl (PureOp.loads Try.underlying24 rfl rfl (fun _ => (RowIs.cells 0 0 2 rfl rfl)) sz24) ?_
  refine SL.gcalle (c := 3) rfl rfl rfl rfl rfl rfl rfl rfl rfl rfl callable6 (by intro hg; simp [gval] at hg; exact (fun w hw => rcheck_ok o l ao n cap hn w (hz.below hw.below) hb)) ?_
  refine SL.gpure (c := 3) rfl rfl rfl rfl rfl rfl rfl (PureOp.neq rfl rfl) ?_
  refine SL.pure rfl rfl rfl (PureOp.or_ rfl rfl rfl rfl) ?_
  refine SL.pure rfl rfl rfl (PureOp.assign rfl) ?_
  refine SL.nil_then ?_
  refine WC.ret ?_
  refine QX.ret1 rfl rfl ?_
  intro w hw
  rfl

set_option maxHeartbeats 4000000 in
set_option maxRecDepth 100000 in
theorem knows_ok (w0 : World) : FnC Try.prog 7 [] w0 fun v _ => v = .bool true := by
  refine fnc (N := 65) Try.func7 rfl rfl rfl ?_
  refine WC.seq ?_
  refine WC.region ?_
  refine SL.pure rfl rfl rfl (PureOp.assign rfl) ?_
  refine SL.nil_then ?_
  refine WC.seq ?_
  refine WC.region ?_
  refine SL.pure rfl rfl rfl (PureOp.build bld34 rfl rfl) ?_
  refine SL.buildSlice rfl rfl Try.underlying22 elem34 rfl rfl rfl rfl (fun b1 hb1 => ?_)
  refine SL.pure rfl rfl rfl (PureOp.build bld24 rfl rfl) ?_
  refine SL.alloc rfl rfl zero24 (fun b2 hb2 => ?_)
  refine SL.store 1 rfl rfl rfl rfl sz24 rfl rfl ?_
  refine SL.nil_then ?_
  refine WC.seq ?_
  refine WC.region ?_
  refine SL.pure rfl rfl rfl (PureOp.build bld34 rfl rfl) ?_
  refine SL.buildSlice rfl rfl Try.underlying22 elem34 rfl rfl rfl rfl (fun b3 hb3 => ?_)
  refine SL.pure rfl rfl rfl (PureOp.build bld24 rfl rfl) ?_
  refine SL.alloc rfl rfl zero24 (fun b4 hb4 => ?_)
  refine SL.store 3 rfl rfl rfl rfl sz24 rfl rfl ?_
  refine SL.nil_then ?_
  refine WC.seq ?_
  refine WC.region ?_
  refine SL.pure rfl rfl rfl (PureOp.build bld34 rfl rfl) ?_
  refine SL.pure rfl rfl rfl (PureOp.build bld34 rfl rfl) ?_
  refine SL.buildSlice rfl rfl Try.underlying22 elem34 rfl rfl rfl rfl (fun b5 hb5 => ?_)
  refine SL.pure rfl rfl rfl (PureOp.build bld24 rfl rfl) ?_
  refine SL.alloc rfl rfl zero24 (fun b6 hb6 => ?_)
  refine SL.store 5 rfl rfl rfl rfl sz24 rfl rfl ?_
  refine SL.nil_then ?_
  refine WC.seq ?_
  refine WC.region ?_
  refine SL.pure rfl rfl rfl (PureOp.loads Try.underlying24 rfl rfl (fun _ => (RowIs.cells 1 0 2 rfl rfl)) sz24) ?_
  refine SL.calle rfl rfl rfl rfl rfl rfl callable5 (fun w hw => check_ok 60 [(10000, 120)] _ _ _ rfl w (SliceIn.rows (enc := encS) (l := [(10000, 120)]) (hw.mem (i := 0) rfl) encS_len (by decide)) knb1) ?_
  refine SL.pure rfl rfl rfl (PureOp.eql rfl rfl) ?_
  refine SL.pure rfl rfl rfl (PureOp.move rfl) ?_
  refine SL.newg 17 true rfl ?_
  refine SL.gpure (c := 1) rfl rfl rfl rfl rfl rfl rfl (PureOp.loads Try.underlying24 rfl rfl (fun _ => (RowIs.cells 5 0 2 rfl rfl)) sz24) ?_
  refine SL.gcalle (c := 1) rfl rfl rfl rfl rfl rfl rfl rfl rfl rfl callable5 (by intro hg; simp [gval] at hg; exact (fun w hw => check_ok 0 [(1000, 60), (3000, 0)] _ _ _ rfl w (SliceIn.rows (enc := encS) (l := [(1000, 60), (3000, 0)]) (hw.mem (i := 4) rfl) encS_len (by decide)) knb3)) ?_
  refine SL.gpure (c := 1) rfl rfl rfl rfl rfl rfl rfl (PureOp.eql rfl rfl) ?_
  refine SL.pure rfl rfl rfl (PureOp.and_ rfl rfl rfl rfl) ?_
  refine SL.pure rfl rfl rfl (PureOp.move rfl) ?_
  refine SL.newg 22 true rfl ?_
  refine SL.gpure (c := 2) rfl rfl rfl rfl rfl rfl rfl (PureOp.loads Try.underlying24 rfl rfl (fun _ => (RowIs.cells 1 0 2 rfl rfl)) sz24) ?_
  refine SL.gcalle (c := 2) rfl rfl rfl rfl rfl rfl rfl rfl rfl rfl callable11 (by intro hg; simp [gval] at hg; exact (fun w hw => locZ_ok 60 [(10000, 120)] _ _ _ rfl w (SliceIn.rows (enc := encS) (l := [(10000, 120)]) (hw.mem (i := 0) rfl) encS_len (by decide)) 9999 knv1 (by decide) (by decide) (by decide))) ?_
  refine SL.gpure (c := 2) rfl rfl rfl rfl rfl rfl rfl (PureOp.eql rfl rfl) ?_
  refine SL.pure rfl rfl rfl (PureOp.and_ rfl rfl rfl rfl) ?_
  refine SL.pure rfl rfl rfl (PureOp.move rfl) ?_
  refine SL.newg 27 true rfl ?_
  refine SL.gpure (c := 3) rfl rfl rfl rfl rfl rfl rfl (PureOp.loads Try.underlying24 rfl rfl (fun _ => (RowIs.cells 1 0 2 rfl rfl)) sz24) ?_
  refine SL.gcalle (c := 3) rfl rfl rfl rfl rfl rfl rfl rfl rfl rfl callable11 (by intro hg; simp [gval] at hg; exact (fun w hw => locZ_ok 60 [(10000, 120)] _ _ _ rfl w (SliceIn.rows (enc := encS) (l := [(10000, 120)]) (hw.mem (i := 0) rfl) encS_len (by decide)) 10000 knv1 (by decide) (by decide) (by decide))) ?_
  refine SL.gpure (c := 3) rfl rfl rfl rfl rfl rfl rfl (PureOp.eql rfl rfl) ?_
  refine SL.pure rfl rfl rfl (PureOp.and_ rfl rfl rfl rfl) ?_
  refine SL.pure rfl rfl rfl (PureOp.move rfl) ?_
  refine SL.newg 32 true rfl ?_
  refine SL.gpure (c := 4) rfl rfl rfl rfl rfl rfl rfl (PureOp.loads Try.underlying24 rfl rfl (fun _ => (RowIs.cells 1 0 2 rfl rfl)) sz24) ?_
  refine SL.gcalle (c := 4) rfl rfl rfl rfl rfl rfl rfl rfl rfl rfl callable13 (by intro hg; simp [gval] at hg; exact (fun w hw => utcZ_ok 60 [(10000, 120)] _ _ _ rfl w (SliceIn.rows (enc := encS) (l := [(10000, 120)]) (hw.mem (i := 0) rfl) encS_len (by decide)) 10059 knv1 (by decide) (by decide) (by decide))) ?_
  refine SL.gpure (c := 4) rfl rfl rfl rfl rfl rfl rfl (PureOp.eql rfl rfl) ?_
  refine SL.pure rfl rfl rfl (PureOp.and_ rfl rfl rfl rfl) ?_
  refine SL.pure rfl rfl rfl (PureOp.move rfl) ?_
  refine SL.newg 37 true rfl ?_
  refine SL.gpure (c := 5) rfl rfl rfl rfl rfl rfl rfl (PureOp.loads Try.underlying24 rfl rfl (fun _ => (RowIs.cells 1 0 2 rfl rfl)) sz24) ?_
  refine SL.gcalle (c := 5) rfl rfl rfl rfl rfl rfl rfl rfl rfl rfl callable13 (by intro hg; simp [gval] at hg; exact (fun w hw => utcZ_ok 60 [(10000, 120)] _ _ _ rfl w (SliceIn.rows (enc := encS) (l := [(10000, 120)]) (hw.mem (i := 0) rfl) encS_len (by decide)) 10100 knv1 (by decide) (by decide) (by decide))) ?_
  refine SL.gpure (c := 5) rfl rfl rfl rfl rfl rfl rfl (PureOp.eql rfl rfl) ?_
  refine SL.pure rfl rfl rfl (PureOp.and_ rfl rfl rfl rfl) ?_
  refine SL.pure rfl rfl rfl (PureOp.move rfl) ?_
  refine SL.newg 42 true rfl ?_
  refine SL.gpure (c := 6) rfl rfl rfl rfl rfl rfl rfl (PureOp.loads Try.underlying24 rfl rfl (fun _ => (RowIs.cells 1 0 2 rfl rfl)) sz24) ?_
  refine SL.gcalle (c := 6) rfl rfl rfl rfl rfl rfl rfl rfl rfl rfl callable15 (by intro hg; simp [gval] at hg; exact (fun w hw => exZ_ok 60 [(10000, 120)] _ _ _ rfl w (SliceIn.rows (enc := encS) (l := [(10000, 120)]) (hw.mem (i := 0) rfl) encS_len (by decide)) 10060 knv1 (by decide) (by decide) (by decide))) ?_
  refine SL.gpure (c := 6) rfl rfl rfl rfl rfl rfl rfl (PureOp.not rfl) ?_
  refine SL.pure rfl rfl rfl (PureOp.and_ rfl rfl rfl rfl) ?_
  refine SL.pure rfl rfl rfl (PureOp.move rfl) ?_
  refine SL.newg 47 true rfl ?_
  refine SL.gpure (c := 7) rfl rfl rfl rfl rfl rfl rfl (PureOp.loads Try.underlying24 rfl rfl (fun _ => (RowIs.cells 1 0 2 rfl rfl)) sz24) ?_
  refine SL.gcalle (c := 7) rfl rfl rfl rfl rfl rfl rfl rfl rfl rfl callable15 (by intro hg; simp [gval] at hg; exact (fun w hw => exZ_ok 60 [(10000, 120)] _ _ _ rfl w (SliceIn.rows (enc := encS) (l := [(10000, 120)]) (hw.mem (i := 0) rfl) encS_len (by decide)) 10120 knv1 (by decide) (by decide) (by decide))) ?_
  refine SL.pure rfl rfl rfl (PureOp.and_ rfl rfl rfl rfl) ?_
  refine SL.pure rfl rfl rfl (PureOp.move rfl) ?_
  refine SL.newg 51 true rfl ?_
  refine SL.gpure (c := 8) rfl rfl rfl rfl rfl rfl rfl (PureOp.loads Try.underlying24 rfl rfl (fun _ => (RowIs.cells 3 0 2 rfl rfl)) sz24) ?_
  refine SL.gcalle (c := 8) rfl rfl rfl rfl rfl rfl rfl rfl rfl rfl callable17 (by intro hg; simp [gval] at hg; exact (fun w hw => twZ_ok 60 [(10000, 0)] _ _ _ rfl w (SliceIn.rows (enc := encS) (l := [(10000, 0)]) (hw.mem (i := 2) rfl) encS_len (by decide)) 10000 knv2 (by decide) (by decide) (by decide))) ?_
  refine SL.pure rfl rfl rfl (PureOp.and_ rfl rfl rfl rfl) ?_
  refine SL.pure rfl rfl rfl (PureOp.move rfl) ?_
  refine SL.newg 55 true rfl ?_
  refine SL.gpure (c := 9) rfl rfl rfl rfl rfl rfl rfl (PureOp.loads Try.underlying24 rfl rfl (fun _ => (RowIs.cells 1 0 2 rfl rfl)) sz24) ?_
  refine SL.gcalle (c := 9) rfl rfl rfl rfl rfl rfl rfl rfl rfl rfl callable17 (by intro hg; simp [gval] at hg; exact (fun w hw => twZ_ok 60 [(10000, 120)] _ _ _ rfl w (SliceIn.rows (enc := encS) (l := [(10000, 120)]) (hw.mem (i := 0) rfl) encS_len (by decide)) 10000 knv1 (by decide) (by decide) (by decide))) ?_
  refine SL.gpure (c := 9) rfl rfl rfl rfl rfl rfl rfl (PureOp.not rfl) ?_
  refine SL.pure rfl rfl rfl (PureOp.and_ rfl rfl rfl rfl) ?_
  refine SL.pure rfl rfl rfl (PureOp.move rfl) ?_
  refine SL.newg 60 true rfl ?_
  refine SL.gpure (c := 10) rfl rfl rfl rfl rfl rfl rfl (PureOp.loads Try.underlying24 rfl rfl (fun _ => (RowIs.cells 3 0 2 rfl rfl)) sz24) ?_
  refine SL.gcalle (c := 10) rfl rfl rfl rfl rfl rfl rfl rfl rfl rfl callable9 (by intro hg; simp [gval] at hg; exact (fun w hw => offZ_ok 60 [(10000, 0)] _ _ _ rfl w (SliceIn.rows (enc := encS) (l := [(10000, 0)]) (hw.mem (i := 2) rfl) encS_len (by decide)) 20000 (by decide))) ?_
  refine SL.gpure (c := 10) rfl rfl rfl rfl rfl rfl rfl (PureOp.eql rfl rfl) ?_
  refine SL.pure rfl rfl rfl (PureOp.and_ rfl rfl rfl rfl) ?_
  refine SL.pure rfl rfl rfl (PureOp.assign rfl) ?_
  refine SL.nil_then ?_
  refine WC.ret ?_
  refine QX.ret1 rfl rfl ?_
  intro w hw
  rfl

end Go.Proofs.Ytocegpfmoiokeaa
