/- The walks of zone: what each function returns. -/
import Derived.Test.YtocegpfmoiokeaaZoneC
namespace Go.Proofs.Ytocegpfmoiokeaa
open Go Go.RowKit Eng
set_option linter.unusedVariables false
set_option linter.unusedSimpArgs false
theorem Vd_of_checkZ {o : Int} {l : List Sh} (h : checkZ o l = 0) : Vd none l := by
  unfold checkZ at h
  split at h
  · omega
  · split at h
    · exact Vd_of_chk l none h
    · omega
theorem ho_of_checkZ {o : Int} {l : List Sh} (h : checkZ o l = 0) : -840 ≤ o ∧ o ≤ 840 := by
  unfold checkZ at h
  split at h
  · omega
  · split at h
    · rename_i h2; simpa [okOff] using h2
    · omega
set_option maxHeartbeats 4000000 in
set_option maxRecDepth 100000 in
theorem checks_law (o : Int) (l : List Sh) (ao : Option Addr) (n cap : Nat) (hn : n = l.length) (w0 : World) (hz : SliceIn w0 2 ao n cap (rowsF encS l)) (hb : ∀ k, In64 (nth l k).1) : FnC Try.prog 3 [.agg #[.int .i64 o, .slice ao n cap]] w0 fun v _ => v = .bool true := by
  refine fnc (N := 17) Try.func3 rfl rfl rfl ?_
  refine WC.seq ?_
  refine WC.region ?_
  refine SL.box rfl rfl rfl (fun b1 hb1 => ?_)
  refine SL.pure rfl rfl rfl (PureOp.assign rfl) ?_
  refine SL.nil_then ?_
  refine WC.seq ?_
  refine WC.quiet rfl (by kernel_rfl) ?_
  refine SQ.pure rfl rfl rfl (PureOp.fieldAddrT 1 Try.underlying24 rfl sz22 rfl rfl) ?_
  refine SQ.pure rfl rfl rfl (PureOp.load Try.underlying22 rfl rfl (fun _ => (CellIs.cells 0 rfl rfl))) ?_
  refine SQ.pure rfl rfl rfl (PureOp.len rfl Try.underlying22) ?_
  refine SQ.pure rfl rfl rfl (PureOp.gtr rfl rfl) ?_
  refine SQ.pure rfl rfl rfl (PureOp.move rfl) ?_
  refine SQ.newg 7 false rfl ?_
  refine SQ.gpure (c := 1) rfl rfl rfl rfl rfl rfl rfl (PureOp.loads Try.underlying24 rfl rfl (fun _ => (RowIs.cells 0 0 2 rfl rfl)) sz24) ?_
  refine SQ.gcalle (c := 1) rfl rfl rfl rfl rfl rfl rfl rfl rfl rfl callable5 (by intro hg; simp [gval] at hg; exact (fun w hw => check_ok o l ao n cap hn w (hz.below hw.below) hb)) ?_
  refine SQ.gpure (c := 1) rfl rfl rfl rfl rfl rfl rfl (PureOp.loads Try.underlying24 rfl rfl (fun _ => (RowIs.cells 0 0 2 rfl rfl)) sz24) ?_
  refine SQ.gcalle (c := 1) rfl rfl rfl rfl rfl rfl rfl rfl rfl rfl callable6 (by intro hg; simp [gval] at hg; exact (fun w hw => rcheck_ok o l ao n cap hn w (hz.below hw.below) hb)) ?_
  refine SQ.gpure (c := 1) rfl rfl rfl rfl rfl rfl rfl (PureOp.eql rfl rfl) ?_
  refine SQ.pure rfl rfl rfl (PureOp.or_ rfl rfl rfl rfl) ?_
  refine SQ.pure rfl rfl rfl (PureOp.move rfl) ?_
  refine SQ.newg 14 true rfl ?_
  refine SQ.gcalle (c := 2) rfl rfl rfl rfl rfl rfl rfl rfl rfl rfl callable7 (by intro hg; simp [gval] at hg; exact (fun w hw => knows_ok w)) ?_
  refine SQ.pure rfl rfl rfl (PureOp.and_ rfl rfl rfl rfl) ?_
  refine SQ.pure rfl rfl rfl (PureOp.assign rfl) ?_
  refine SQ.nil_then ?_
  refine WC.ret ?_
  refine QX.ret1 rfl rfl ?_
  intro w hw
  simp

set_option maxHeartbeats 4000000 in
set_option maxRecDepth 100000 in
theorem tells_law (o : Int) (l : List Sh) (ao : Option Addr) (n cap : Nat) (hn : n = l.length) (w0 : World) (hz : SliceIn w0 2 ao n cap (rowsF encS l)) (hb : ∀ k, In64 (nth l k).1) (u x : Int) : FnC Try.prog 4 [.agg #[.int .i64 o, .slice ao n cap], .int .i64 u, .int .i64 x] w0 fun v _ => v = .bool true := by
  refine fnc (N := 62) Try.func4 rfl rfl rfl ?_
  refine WC.seq ?_
  refine WC.region ?_
  refine SL.box rfl rfl rfl (fun b1 hb1 => ?_)
  refine SL.pure rfl rfl rfl (PureOp.assign rfl) ?_
  refine SL.nil_then ?_
  refine WC.seq ?_
  refine WC.seq ?_
  refine WC.region ?_
  refine SL.pure rfl rfl rfl (PureOp.loads Try.underlying24 rfl rfl (fun _ => (RowIs.cells 0 0 2 rfl rfl)) sz24) ?_
  refine SL.pure rfl rfl rfl (PureOp.move rfl) ?_
  refine SL.calle rfl rfl rfl rfl rfl rfl callable8 (fun w hw => far_ok o l ao n cap hn w (hz.below hw.below) hb u) ?_
  refine SL.pure rfl rfl rfl (PureOp.move rfl) ?_
  refine SL.newg 10 false rfl ?_
  refine SL.gpure (c := 1) rfl rfl rfl rfl rfl rfl rfl (PureOp.loads Try.underlying24 rfl rfl (fun _ => (RowIs.cells 0 0 2 rfl rfl)) sz24) ?_
  refine SL.gpure (c := 1) rfl rfl rfl rfl rfl rfl rfl (PureOp.move rfl) ?_
  refine SL.gcalle (c := 1) rfl rfl rfl rfl rfl rfl rfl rfl rfl rfl callable8 (by intro hg; simp [gval] at hg; exact (fun w hw => far_ok o l ao n cap hn w (hz.below hw.below) hb x)) ?_
  refine SL.pure rfl rfl rfl (PureOp.or_ rfl rfl rfl rfl) ?_
  refine SL.nil_then ?_
  refine WC.cond rfl (fun h1 => ?_) (fun h1 => ?_)
  · simp only [Bool.and_eq_true, Bool.or_eq_true, Bool.not_eq_true', Bool.not_eq_false', Bool.and_eq_false_iff, Bool.or_eq_false_iff, decide_eq_true_eq, decide_eq_false_iff_not, Int.not_lt, Int.not_le, ne_eq, Decidable.not_not] at h1
    refine WC.seq ?_
    refine WC.region ?_
    refine SL.calle rfl rfl rfl rfl rfl rfl callable7 (fun w hw => knows_ok w) ?_
    refine SL.pure rfl rfl rfl (PureOp.assign rfl) ?_
    refine SL.nil_then ?_
    refine WC.ret ?_
    refine QX.ret_then ?_
    refine QX.ret1 rfl rfl ?_
    intro w hw
    rfl
  · simp only [Bool.and_eq_true, Bool.or_eq_true, Bool.not_eq_true', Bool.not_eq_false', Bool.and_eq_false_iff, Bool.or_eq_false_iff, decide_eq_true_eq, decide_eq_false_iff_not, Int.not_lt, Int.not_le, ne_eq, Decidable.not_not] at h1
    have hc : checkZ o l = 0 := by omega
    have hv := Vd_of_checkZ hc
    have ho := ho_of_checkZ hc
    refine WC.skip ?_
    refine QX.then_ ?_
    refine WC.seq ?_
    refine WC.quiet rfl (by kernel_rfl) ?_
    refine SQ.pure rfl rfl rfl (PureOp.loads Try.underlying24 rfl rfl (fun _ => (RowIs.cells 0 0 2 rfl rfl)) sz24) ?_
    refine SQ.pure rfl rfl rfl (PureOp.move rfl) ?_
    refine SQ.calle rfl rfl rfl rfl rfl rfl callable9 (fun w hw => offZ_ok o l ao n cap hn w (hz.below hw.below) u (by omega)) ?_
    refine SQ.pure rfl rfl rfl (PureOp.loads Try.underlying24 rfl rfl (fun _ => (RowIs.cells 0 0 2 rfl rfl)) sz24) ?_
    refine SQ.pure rfl rfl rfl (PureOp.move rfl) ?_
    refine SQ.calle rfl rfl rfl rfl rfl rfl callable10 (fun w hw => offR_ok o l ao n cap hn w (hz.below hw.below) u (by omega)) ?_
    refine SQ.pure rfl rfl rfl (PureOp.eql rfl rfl) ?_
    refine SQ.pure rfl rfl rfl (PureOp.move rfl) ?_
    refine SQ.newg 23 true rfl ?_
    refine SQ.gpure (c := 2) rfl rfl rfl rfl rfl rfl rfl (PureOp.loads Try.underlying24 rfl rfl (fun _ => (RowIs.cells 0 0 2 rfl rfl)) sz24) ?_
    refine SQ.gpure (c := 2) rfl rfl rfl rfl rfl rfl rfl (PureOp.move rfl) ?_
    refine SQ.gcalle (c := 2) rfl rfl rfl rfl rfl rfl rfl rfl rfl rfl callable11 (by intro hg; simp [gval] at hg; exact (fun w hw => locZ_ok o l ao n cap hn w (hz.below hw.below) u hv ho (by omega) (by omega))) ?_
    refine SQ.gpure (c := 2) rfl rfl rfl rfl rfl rfl rfl (PureOp.loads Try.underlying24 rfl rfl (fun _ => (RowIs.cells 0 0 2 rfl rfl)) sz24) ?_
    refine SQ.gpure (c := 2) rfl rfl rfl rfl rfl rfl rfl (PureOp.move rfl) ?_
    refine SQ.gcalle (c := 2) rfl rfl rfl rfl rfl rfl rfl rfl rfl rfl callable12 (by intro hg; simp [gval] at hg; exact (fun w hw => locR_ok o l ao n cap hn w (hz.below hw.below) u hv ho (by omega) (by omega))) ?_
    refine SQ.gpure (c := 2) rfl rfl rfl rfl rfl rfl rfl (PureOp.eql rfl rfl) ?_
    refine SQ.pure rfl rfl rfl (PureOp.and_ rfl rfl rfl rfl) ?_
    refine SQ.pure rfl rfl rfl (PureOp.move rfl) ?_
    refine SQ.newg 32 true rfl ?_
    refine SQ.gpure (c := 3) rfl rfl rfl rfl rfl rfl rfl (PureOp.loads Try.underlying24 rfl rfl (fun _ => (RowIs.cells 0 0 2 rfl rfl)) sz24) ?_
    refine SQ.gpure (c := 3) rfl rfl rfl rfl rfl rfl rfl (PureOp.move rfl) ?_
    refine SQ.gcalle (c := 3) rfl rfl rfl rfl rfl rfl rfl rfl rfl rfl callable13 (by intro hg; simp [gval] at hg; exact (fun w hw => utcZ_ok o l ao n cap hn w (hz.below hw.below) x hv ho (by omega) (by omega))) ?_
    refine SQ.gpure (c := 3) rfl rfl rfl rfl rfl rfl rfl (PureOp.loads Try.underlying24 rfl rfl (fun _ => (RowIs.cells 0 0 2 rfl rfl)) sz24) ?_
    refine SQ.gpure (c := 3) rfl rfl rfl rfl rfl rfl rfl (PureOp.move rfl) ?_
    refine SQ.gcalle (c := 3) rfl rfl rfl rfl rfl rfl rfl rfl rfl rfl callable14 (by intro hg; simp [gval] at hg; exact (fun w hw => utcR_ok o l ao n cap hn w (hz.below hw.below) x hv ho (by omega) (by omega))) ?_
    refine SQ.gpure (c := 3) rfl rfl rfl rfl rfl rfl rfl (PureOp.eql rfl rfl) ?_
    refine SQ.pure rfl rfl rfl (PureOp.and_ rfl rfl rfl rfl) ?_
    refine SQ.pure rfl rfl rfl (PureOp.move rfl) ?_
    refine SQ.newg 41 true rfl ?_
    refine SQ.gpure (c := 4) rfl rfl rfl rfl rfl rfl rfl (PureOp.loads Try.underlying24 rfl rfl (fun _ => (RowIs.cells 0 0 2 rfl rfl)) sz24) ?_
    refine SQ.gpure (c := 4) rfl rfl rfl rfl rfl rfl rfl (PureOp.move rfl) ?_
    refine SQ.gcalle (c := 4) rfl rfl rfl rfl rfl rfl rfl rfl rfl rfl callable15 (by intro hg; simp [gval] at hg; exact (fun w hw => exZ_ok o l ao n cap hn w (hz.below hw.below) x hv ho (by omega) (by omega))) ?_
    refine SQ.gpure (c := 4) rfl rfl rfl rfl rfl rfl rfl (PureOp.loads Try.underlying24 rfl rfl (fun _ => (RowIs.cells 0 0 2 rfl rfl)) sz24) ?_
    refine SQ.gpure (c := 4) rfl rfl rfl rfl rfl rfl rfl (PureOp.move rfl) ?_
    refine SQ.gcalle (c := 4) rfl rfl rfl rfl rfl rfl rfl rfl rfl rfl callable16 (by intro hg; simp [gval] at hg; exact (fun w hw => exR_ok o l ao n cap hn w (hz.below hw.below) x hv ho (by omega) (by omega))) ?_
    refine SQ.gpure (c := 4) rfl rfl rfl rfl rfl rfl rfl (PureOp.eqlb rfl rfl Try.underlying4) ?_
    refine SQ.pure rfl rfl rfl (PureOp.and_ rfl rfl rfl rfl) ?_
    refine SQ.pure rfl rfl rfl (PureOp.move rfl) ?_
    refine SQ.newg 50 true rfl ?_
    refine SQ.gpure (c := 5) rfl rfl rfl rfl rfl rfl rfl (PureOp.loads Try.underlying24 rfl rfl (fun _ => (RowIs.cells 0 0 2 rfl rfl)) sz24) ?_
    refine SQ.gpure (c := 5) rfl rfl rfl rfl rfl rfl rfl (PureOp.move rfl) ?_
    refine SQ.gcalle (c := 5) rfl rfl rfl rfl rfl rfl rfl rfl rfl rfl callable17 (by intro hg; simp [gval] at hg; exact (fun w hw => twZ_ok o l ao n cap hn w (hz.below hw.below) x hv ho (by omega) (by omega))) ?_
    refine SQ.gpure (c := 5) rfl rfl rfl rfl rfl rfl rfl (PureOp.loads Try.underlying24 rfl rfl (fun _ => (RowIs.cells 0 0 2 rfl rfl)) sz24) ?_
    refine SQ.gpure (c := 5) rfl rfl rfl rfl rfl rfl rfl (PureOp.move rfl) ?_
    refine SQ.gcalle (c := 5) rfl rfl rfl rfl rfl rfl rfl rfl rfl rfl callable18 (by intro hg; simp [gval] at hg; exact (fun w hw => twR_ok o l ao n cap hn w (hz.below hw.below) x hv ho (by omega) (by omega))) ?_
    refine SQ.gpure (c := 5) rfl rfl rfl rfl rfl rfl rfl (PureOp.eqlb rfl rfl Try.underlying4) ?_
    refine SQ.pure rfl rfl rfl (PureOp.and_ rfl rfl rfl rfl) ?_
    refine SQ.pure rfl rfl rfl (PureOp.move rfl) ?_
    refine SQ.newg 59 true rfl ?_
    refine SQ.gcalle (c := 6) rfl rfl rfl rfl rfl rfl rfl rfl rfl rfl callable7 (by intro hg; simp [gval] at hg; exact (fun w hw => knows_ok w)) ?_
    refine SQ.pure rfl rfl rfl (PureOp.and_ rfl rfl rfl rfl) ?_
    refine SQ.pure rfl rfl rfl (PureOp.assign rfl) ?_
    refine SQ.nil_then ?_
    refine WC.ret ?_
    refine QX.ret1 rfl rfl ?_
    intro w hw
    rw [off_eq l o u none hv]
    simp

end Go.Proofs.Ytocegpfmoiokeaa
