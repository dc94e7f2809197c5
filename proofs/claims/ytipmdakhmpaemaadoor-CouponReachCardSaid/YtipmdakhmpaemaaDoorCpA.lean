import Derived.Test.YtipmdakhmpaemaaDoorPlain
import Derived.Test.YtipmdakhmpaemaaDoorFacts
namespace Go.Proofs.YtipmdakhmpaemaaDoor
open Go Go.RowKit Eng
set_option linter.unusedVariables false
set_option linter.unusedSimpArgs false

set_option maxHeartbeats 4000000 in
set_option maxRecDepth 100000 in
theorem next_ok (s e : Int) (w0 : World) : FnC Tryd.prog 25 [.int .i64 s, .int .i64 e] w0 fun v w' => v = .int .i64 (nextC s e) := by
  refine fnc (N := 38) Tryd.func25 rfl rfl rfl ?_
  refine WC.seq ?_
  refine WC.region ?_
  refine SL.pure rfl rfl rfl (PureOp.assign rfl) ?_
  refine SL.nil_then ?_
  refine WC.seq ?_
  refine WC.seq ?_
  refine WC.region ?_
  refine SL.pure rfl rfl rfl (PureOp.move rfl) ?_
  refine SL.pure rfl rfl rfl (PureOp.move rfl) ?_
  refine SL.pure rfl rfl rfl (PureOp.build bld58 rfl rfl) ?_
  refine SL.nil_then ?_
  refine WC.block ?_
  refine WC.seq ?_
  refine WC.region ?_
  refine SL.pure rfl rfl rfl (PureOp.build bld58 rfl rfl) ?_
  refine SL.pure rfl rfl rfl (PureOp.eqla rfl rfl flat58 rfl) ?_
  refine SL.pure rfl rfl rfl (PureOp.assign rfl) ?_
  refine SL.nil_then ?_
  refine WC.cond rfl (fun h1 => ?_) (fun h1 => ?_)
  · try simp only [setAll, vcells, List.set_cons_zero, List.set_cons_succ, eqB, eqV, Bool.and_eq_true, Bool.and_eq_false_iff, decide_eq_true_eq, decide_eq_false_iff_not, Bool.true_eq_false, Bool.and_true, or_false] at h1
    refine WC.seq ?_
    refine WC.region ?_
    refine SL.pure rfl rfl rfl (PureOp.assign rfl) ?_
    refine SL.nil_then ?_
    refine WC.ret ?_
    refine QX.ret_in ?_
    refine QX.ret_then ?_
    refine QX.ret1 rfl rfl ?_
    intro w hw
    unfold nextC; (repeat' split) <;> first | rfl | (exfalso; omega)
  · try simp only [setAll, vcells, List.set_cons_zero, List.set_cons_succ, eqB, eqV, Bool.and_eq_true, Bool.and_eq_false_iff, decide_eq_true_eq, decide_eq_false_iff_not, Bool.true_eq_false, Bool.and_true, or_false] at h1
    refine WC.seq ?_
    refine WC.seq ?_
    refine WC.region ?_
    refine SL.pure rfl rfl rfl (PureOp.build bld58 rfl rfl) ?_
    refine SL.pure rfl rfl rfl (PureOp.eqla rfl rfl flat58 rfl) ?_
    refine SL.pure rfl rfl rfl (PureOp.assign rfl) ?_
    refine SL.nil_then ?_
    refine WC.cond rfl (fun h2 => ?_) (fun h2 => ?_)
    · try simp only [setAll, vcells, List.set_cons_zero, List.set_cons_succ, eqB, eqV, Bool.and_eq_true, Bool.and_eq_false_iff, decide_eq_true_eq, decide_eq_false_iff_not, Bool.true_eq_false, Bool.and_true, or_false] at h2
      refine WC.skip ?_
      refine QX.then_ ?_
      refine WC.cond rfl (fun h3 => ?_) (fun h3 => ?_)
      · try simp only [setAll, vcells, List.set_cons_zero, List.set_cons_succ, eqB, eqV, Bool.and_eq_true, Bool.and_eq_false_iff, decide_eq_true_eq, decide_eq_false_iff_not, Bool.true_eq_false, Bool.and_true, or_false] at h3
        refine WC.seq ?_
        refine WC.region ?_
        refine SL.pure rfl rfl rfl (PureOp.assign rfl) ?_
        refine SL.nil_then ?_
        refine WC.ret ?_
        refine QX.ret_in ?_
        refine QX.ret_then ?_
        refine QX.ret1 rfl rfl ?_
        intro w hw
        unfold nextC; (repeat' split) <;> first | rfl | (exfalso; omega)
      · try simp only [setAll, vcells, List.set_cons_zero, List.set_cons_succ, eqB, eqV, Bool.and_eq_true, Bool.and_eq_false_iff, decide_eq_true_eq, decide_eq_false_iff_not, Bool.true_eq_false, Bool.and_true, or_false] at h3
        refine WC.seq ?_
        refine WC.region ?_
        refine SL.pure rfl rfl rfl (PureOp.build bld58 rfl rfl) ?_
        refine SL.pure rfl rfl rfl (PureOp.eqla rfl rfl flat58 rfl) ?_
        refine SL.pure rfl rfl rfl (PureOp.assign rfl) ?_
        refine SL.nil_then ?_
        refine WC.cond rfl (fun h4 => ?_) (fun h4 => ?_)
        · try simp only [setAll, vcells, List.set_cons_zero, List.set_cons_succ, eqB, eqV, Bool.and_eq_true, Bool.and_eq_false_iff, decide_eq_true_eq, decide_eq_false_iff_not, Bool.true_eq_false, Bool.and_true, or_false] at h4
          refine WC.seq ?_
          refine WC.region ?_
          refine SL.pure rfl rfl rfl (PureOp.assign rfl) ?_
          refine SL.nil_then ?_
          refine WC.ret ?_
          refine QX.ret_in ?_
          refine QX.ret_then ?_
          refine QX.ret1 rfl rfl ?_
          intro w hw
          unfold nextC; (repeat' split) <;> first | rfl | (exfalso; omega)
        · try simp only [setAll, vcells, List.set_cons_zero, List.set_cons_succ, eqB, eqV, Bool.and_eq_true, Bool.and_eq_false_iff, decide_eq_true_eq, decide_eq_false_iff_not, Bool.true_eq_false, Bool.and_true, or_false] at h4
          refine WC.seq ?_
          refine WC.region ?_
          refine SL.pure rfl rfl rfl (PureOp.build bld58 rfl rfl) ?_
          refine SL.pure rfl rfl rfl (PureOp.eqla rfl rfl flat58 rfl) ?_
          refine SL.pure rfl rfl rfl (PureOp.assign rfl) ?_
          refine SL.nil_then ?_
          refine WC.cond rfl (fun h5 => ?_) (fun h5 => ?_)
          · try simp only [setAll, vcells, List.set_cons_zero, List.set_cons_succ, eqB, eqV, Bool.and_eq_true, Bool.and_eq_false_iff, decide_eq_true_eq, decide_eq_false_iff_not, Bool.true_eq_false, Bool.and_true, or_false] at h5
            refine WC.seq ?_
            refine WC.region ?_
            refine SL.pure rfl rfl rfl (PureOp.assign rfl) ?_
            refine SL.nil_then ?_
            refine WC.ret ?_
            refine QX.ret_in ?_
            refine QX.ret_then ?_
            refine QX.ret1 rfl rfl ?_
            intro w hw
            unfold nextC; (repeat' split) <;> first | rfl | (exfalso; omega)
          · try simp only [setAll, vcells, List.set_cons_zero, List.set_cons_succ, eqB, eqV, Bool.and_eq_true, Bool.and_eq_false_iff, decide_eq_true_eq, decide_eq_false_iff_not, Bool.true_eq_false, Bool.and_true, or_false] at h5
            refine WC.seq ?_
            refine WC.region ?_
            refine SL.pure rfl rfl rfl (PureOp.build bld58 rfl rfl) ?_
            refine SL.pure rfl rfl rfl (PureOp.eqla rfl rfl flat58 rfl) ?_
            refine SL.pure rfl rfl rfl (PureOp.assign rfl) ?_
            refine SL.nil_then ?_
            refine WC.cond rfl (fun h6 => ?_) (fun h6 => ?_)
            · try simp only [setAll, vcells, List.set_cons_zero, List.set_cons_succ, eqB, eqV, Bool.and_eq_true, Bool.and_eq_false_iff, decide_eq_true_eq, decide_eq_false_iff_not, Bool.true_eq_false, Bool.and_true, or_false] at h6
              refine WC.seq ?_
              refine WC.region ?_
              refine SL.pure rfl rfl rfl (PureOp.assign rfl) ?_
              refine SL.nil_then ?_
              refine WC.ret ?_
              refine QX.ret_in ?_
              refine QX.ret_then ?_
              refine QX.ret1 rfl rfl ?_
              intro w hw
              unfold nextC; (repeat' split) <;> first | rfl | (exfalso; omega)
            · try simp only [setAll, vcells, List.set_cons_zero, List.set_cons_succ, eqB, eqV, Bool.and_eq_true, Bool.and_eq_false_iff, decide_eq_true_eq, decide_eq_false_iff_not, Bool.true_eq_false, Bool.and_true, or_false] at h6
              refine WC.seq ?_
              refine WC.seq ?_
              refine WC.region ?_
              refine SL.pure rfl rfl rfl (PureOp.build bld58 rfl rfl) ?_
              refine SL.pure rfl rfl rfl (PureOp.eqla rfl rfl flat58 rfl) ?_
              refine SL.pure rfl rfl rfl (PureOp.assign rfl) ?_
              refine SL.nil_then ?_
              refine WC.cond rfl (fun h7 => ?_) (fun h7 => ?_)
              · try simp only [setAll, vcells, List.set_cons_zero, List.set_cons_succ, eqB, eqV, Bool.and_eq_true, Bool.and_eq_false_iff, decide_eq_true_eq, decide_eq_false_iff_not, Bool.true_eq_false, Bool.and_true, or_false] at h7
                refine WC.skip ?_
                refine QX.then_ ?_
                refine WC.cond rfl (fun h8 => ?_) (fun h8 => ?_)
                · try simp only [setAll, vcells, List.set_cons_zero, List.set_cons_succ, eqB, eqV, Bool.and_eq_true, Bool.and_eq_false_iff, decide_eq_true_eq, decide_eq_false_iff_not, Bool.true_eq_false, Bool.and_true, or_false] at h8
                  refine WC.seq ?_
                  refine WC.region ?_
                  refine SL.pure rfl rfl rfl (PureOp.assign rfl) ?_
                  refine SL.nil_then ?_
                  refine WC.ret ?_
                  refine QX.ret_in ?_
                  refine QX.ret_then ?_
                  refine QX.ret1 rfl rfl ?_
                  intro w hw
                  unfold nextC; (repeat' split) <;> first | rfl | (exfalso; omega)
                · try simp only [setAll, vcells, List.set_cons_zero, List.set_cons_succ, eqB, eqV, Bool.and_eq_true, Bool.and_eq_false_iff, decide_eq_true_eq, decide_eq_false_iff_not, Bool.true_eq_false, Bool.and_true, or_false] at h8
                  refine WC.seq ?_
                  refine WC.region ?_
                  refine SL.pure rfl rfl rfl (PureOp.build bld58 rfl rfl) ?_
                  refine SL.pure rfl rfl rfl (PureOp.eqla rfl rfl flat58 rfl) ?_
                  refine SL.pure rfl rfl rfl (PureOp.assign rfl) ?_
                  refine SL.nil_then ?_
                  refine WC.cond rfl (fun h9 => ?_) (fun h9 => ?_)
                  · try simp only [setAll, vcells, List.set_cons_zero, List.set_cons_succ, eqB, eqV, Bool.and_eq_true, Bool.and_eq_false_iff, decide_eq_true_eq, decide_eq_false_iff_not, Bool.true_eq_false, Bool.and_true, or_false] at h9
                    refine WC.seq ?_
                    refine WC.region ?_
                    refine SL.pure rfl rfl rfl (PureOp.assign rfl) ?_
                    refine SL.nil_then ?_
                    refine WC.ret ?_
                    refine QX.ret_in ?_
                    refine QX.ret_then ?_
                    refine QX.ret1 rfl rfl ?_
                    intro w hw
                    unfold nextC; (repeat' split) <;> first | rfl | (exfalso; omega)
                  · try simp only [setAll, vcells, List.set_cons_zero, List.set_cons_succ, eqB, eqV, Bool.and_eq_true, Bool.and_eq_false_iff, decide_eq_true_eq, decide_eq_false_iff_not, Bool.true_eq_false, Bool.and_true, or_false] at h9
                    refine WC.seq ?_
                    refine WC.region ?_
                    refine SL.pure rfl rfl rfl (PureOp.build bld58 rfl rfl) ?_
                    refine SL.pure rfl rfl rfl (PureOp.eqla rfl rfl flat58 rfl) ?_
                    refine SL.pure rfl rfl rfl (PureOp.assign rfl) ?_
                    refine SL.nil_then ?_
                    refine WC.cond rfl (fun h10 => ?_) (fun h10 => ?_)
                    · try simp only [setAll, vcells, List.set_cons_zero, List.set_cons_succ, eqB, eqV, Bool.and_eq_true, Bool.and_eq_false_iff, decide_eq_true_eq, decide_eq_false_iff_not, Bool.true_eq_false, Bool.and_true, or_false] at h10
                      refine WC.seq ?_
                      refine WC.region ?_
                      refine SL.pure rfl rfl rfl (PureOp.assign rfl) ?_
                      refine SL.nil_then ?_
                      refine WC.ret ?_
                      refine QX.ret_in ?_
                      refine QX.ret_then ?_
                      refine QX.ret1 rfl rfl ?_
                      intro w hw
                      unfold nextC; (repeat' split) <;> first | rfl | (exfalso; omega)
                    · try simp only [setAll, vcells, List.set_cons_zero, List.set_cons_succ, eqB, eqV, Bool.and_eq_true, Bool.and_eq_false_iff, decide_eq_true_eq, decide_eq_false_iff_not, Bool.true_eq_false, Bool.and_true, or_false] at h10
                      refine WC.skip ?_
                      refine QX.normal_in ?_
                      refine QX.then_ ?_
                      refine WC.seq ?_
                      refine WC.region ?_
                      refine SL.pure rfl rfl rfl (PureOp.assign rfl) ?_
                      refine SL.nil_then ?_
                      refine WC.ret ?_
                      refine QX.ret1 rfl rfl ?_
                      intro w hw
                      unfold nextC; (repeat' split) <;> first | rfl | (exfalso; omega)
              · try simp only [setAll, vcells, List.set_cons_zero, List.set_cons_succ, eqB, eqV, Bool.and_eq_true, Bool.and_eq_false_iff, decide_eq_true_eq, decide_eq_false_iff_not, Bool.true_eq_false, Bool.and_true, or_false] at h7
                refine WC.region ?_
                refine SL.pure rfl rfl rfl (PureOp.build bld58 rfl rfl) ?_
                refine SL.pure rfl rfl rfl (PureOp.eqla rfl rfl flat58 rfl) ?_
                refine SL.pure rfl rfl rfl (PureOp.assign rfl) ?_
                refine SL.nil_then ?_
                refine WC.cond rfl (fun h11 => ?_) (fun h11 => ?_)
                · try simp only [setAll, vcells, List.set_cons_zero, List.set_cons_succ, eqB, eqV, Bool.and_eq_true, Bool.and_eq_false_iff, decide_eq_true_eq, decide_eq_false_iff_not, Bool.true_eq_false, Bool.and_true, or_false] at h11
                  refine WC.seq ?_
                  refine WC.region ?_
                  refine SL.pure rfl rfl rfl (PureOp.assign rfl) ?_
                  refine SL.nil_then ?_
                  refine WC.ret ?_
                  refine QX.ret_in ?_
                  refine QX.ret_then ?_
                  refine QX.ret1 rfl rfl ?_
                  intro w hw
                  unfold nextC; (repeat' split) <;> first | rfl | (exfalso; omega)
                · try simp only [setAll, vcells, List.set_cons_zero, List.set_cons_succ, eqB, eqV, Bool.and_eq_true, Bool.and_eq_false_iff, decide_eq_true_eq, decide_eq_false_iff_not, Bool.true_eq_false, Bool.and_true, or_false] at h11
                  refine WC.seq ?_
                  refine WC.region ?_
                  refine SL.pure rfl rfl rfl (PureOp.build bld58 rfl rfl) ?_
                  refine SL.pure rfl rfl rfl (PureOp.eqla rfl rfl flat58 rfl) ?_
                  refine SL.pure rfl rfl rfl (PureOp.assign rfl) ?_
                  refine SL.nil_then ?_
                  refine WC.cond rfl (fun h12 => ?_) (fun h12 => ?_)
                  · try simp only [setAll, vcells, List.set_cons_zero, List.set_cons_succ, eqB, eqV, Bool.and_eq_true, Bool.and_eq_false_iff, decide_eq_true_eq, decide_eq_false_iff_not, Bool.true_eq_false, Bool.and_true, or_false] at h12
                    refine WC.seq ?_
                    refine WC.region ?_
                    refine SL.pure rfl rfl rfl (PureOp.assign rfl) ?_
                    refine SL.nil_then ?_
                    refine WC.ret ?_
                    refine QX.ret_in ?_
                    refine QX.ret_then ?_
                    refine QX.ret1 rfl rfl ?_
                    intro w hw
                    unfold nextC; (repeat' split) <;> first | rfl | (exfalso; omega)
                  · try simp only [setAll, vcells, List.set_cons_zero, List.set_cons_succ, eqB, eqV, Bool.and_eq_true, Bool.and_eq_false_iff, decide_eq_true_eq, decide_eq_false_iff_not, Bool.true_eq_false, Bool.and_true, or_false] at h12
                    refine WC.seq ?_
                    refine WC.region ?_
                    refine SL.pure rfl rfl rfl (PureOp.build bld58 rfl rfl) ?_
                    refine SL.pure rfl rfl rfl (PureOp.eqla rfl rfl flat58 rfl) ?_
                    refine SL.pure rfl rfl rfl (PureOp.assign rfl) ?_
                    refine SL.nil_then ?_
                    refine WC.cond rfl (fun h13 => ?_) (fun h13 => ?_)
                    · try simp only [setAll, vcells, List.set_cons_zero, List.set_cons_succ, eqB, eqV, Bool.and_eq_true, Bool.and_eq_false_iff, decide_eq_true_eq, decide_eq_false_iff_not, Bool.true_eq_false, Bool.and_true, or_false] at h13
                      refine WC.seq ?_
                      refine WC.region ?_
                      refine SL.pure rfl rfl rfl (PureOp.assign rfl) ?_
                      refine SL.nil_then ?_
                      refine WC.ret ?_
                      refine QX.ret_in ?_
                      refine QX.ret_then ?_
                      refine QX.ret1 rfl rfl ?_
                      intro w hw
                      unfold nextC; (repeat' split) <;> first | rfl | (exfalso; omega)
                    · try simp only [setAll, vcells, List.set_cons_zero, List.set_cons_succ, eqB, eqV, Bool.and_eq_true, Bool.and_eq_false_iff, decide_eq_true_eq, decide_eq_false_iff_not, Bool.true_eq_false, Bool.and_true, or_false] at h13
                      refine WC.skip ?_
                      refine QX.normal_in ?_
                      refine QX.then_ ?_
                      refine WC.seq ?_
                      refine WC.region ?_
                      refine SL.pure rfl rfl rfl (PureOp.assign rfl) ?_
                      refine SL.nil_then ?_
                      refine WC.ret ?_
                      refine QX.ret1 rfl rfl ?_
                      intro w hw
                      unfold nextC; (repeat' split) <;> first | rfl | (exfalso; omega)
    · try simp only [setAll, vcells, List.set_cons_zero, List.set_cons_succ, eqB, eqV, Bool.and_eq_true, Bool.and_eq_false_iff, decide_eq_true_eq, decide_eq_false_iff_not, Bool.true_eq_false, Bool.and_true, or_false] at h2
      refine WC.seq ?_
      refine WC.region ?_
      refine SL.pure rfl rfl rfl (PureOp.build bld58 rfl rfl) ?_
      refine SL.pure rfl rfl rfl (PureOp.eqla rfl rfl flat58 rfl) ?_
      refine SL.pure rfl rfl rfl (PureOp.assign rfl) ?_
      refine SL.nil_then ?_
      refine WC.cond rfl (fun h14 => ?_) (fun h14 => ?_)
      · try simp only [setAll, vcells, List.set_cons_zero, List.set_cons_succ, eqB, eqV, Bool.and_eq_true, Bool.and_eq_false_iff, decide_eq_true_eq, decide_eq_false_iff_not, Bool.true_eq_false, Bool.and_true, or_false] at h14
        refine WC.skip ?_
        refine QX.then_ ?_
        refine WC.cond rfl (fun h15 => ?_) (fun h15 => ?_)
        · try simp only [setAll, vcells, List.set_cons_zero, List.set_cons_succ, eqB, eqV, Bool.and_eq_true, Bool.and_eq_false_iff, decide_eq_true_eq, decide_eq_false_iff_not, Bool.true_eq_false, Bool.and_true, or_false] at h15
          refine WC.seq ?_
          refine WC.region ?_
          refine SL.pure rfl rfl rfl (PureOp.assign rfl) ?_
          refine SL.nil_then ?_
          refine WC.ret ?_
          refine QX.ret_in ?_
          refine QX.ret_then ?_
          refine QX.ret1 rfl rfl ?_
          intro w hw
          unfold nextC; (repeat' split) <;> first | rfl | (exfalso; omega)
        · try simp only [setAll, vcells, List.set_cons_zero, List.set_cons_succ, eqB, eqV, Bool.and_eq_true, Bool.and_eq_false_iff, decide_eq_true_eq, decide_eq_false_iff_not, Bool.true_eq_false, Bool.and_true, or_false] at h15
          refine WC.seq ?_
          refine WC.region ?_
          refine SL.pure rfl rfl rfl (PureOp.build bld58 rfl rfl) ?_
          refine SL.pure rfl rfl rfl (PureOp.eqla rfl rfl flat58 rfl) ?_
          refine SL.pure rfl rfl rfl (PureOp.assign rfl) ?_
          refine SL.nil_then ?_
          refine WC.cond rfl (fun h16 => ?_) (fun h16 => ?_)
          · try simp only [setAll, vcells, List.set_cons_zero, List.set_cons_succ, eqB, eqV, Bool.and_eq_true, Bool.and_eq_false_iff, decide_eq_true_eq, decide_eq_false_iff_not, Bool.true_eq_false, Bool.and_true, or_false] at h16
            refine WC.seq ?_
            refine WC.region ?_
            refine SL.pure rfl rfl rfl (PureOp.assign rfl) ?_
            refine SL.nil_then ?_
            refine WC.ret ?_
            refine QX.ret_in ?_
            refine QX.ret_then ?_
            refine QX.ret1 rfl rfl ?_
            intro w hw
            unfold nextC; (repeat' split) <;> first | rfl | (exfalso; omega)
          · try simp only [setAll, vcells, List.set_cons_zero, List.set_cons_succ, eqB, eqV, Bool.and_eq_true, Bool.and_eq_false_iff, decide_eq_true_eq, decide_eq_false_iff_not, Bool.true_eq_false, Bool.and_true, or_false] at h16
            refine WC.seq ?_
            refine WC.region ?_
            refine SL.pure rfl rfl rfl (PureOp.build bld58 rfl rfl) ?_
            refine SL.pure rfl rfl rfl (PureOp.eqla rfl rfl flat58 rfl) ?_
            refine SL.pure rfl rfl rfl (PureOp.assign rfl) ?_
            refine SL.nil_then ?_
            refine WC.cond rfl (fun h17 => ?_) (fun h17 => ?_)
            · try simp only [setAll, vcells, List.set_cons_zero, List.set_cons_succ, eqB, eqV, Bool.and_eq_true, Bool.and_eq_false_iff, decide_eq_true_eq, decide_eq_false_iff_not, Bool.true_eq_false, Bool.and_true, or_false] at h17
              refine WC.seq ?_
              refine WC.region ?_
              refine SL.pure rfl rfl rfl (PureOp.assign rfl) ?_
              refine SL.nil_then ?_
              refine WC.ret ?_
              refine QX.ret_in ?_
              refine QX.ret_then ?_
              refine QX.ret1 rfl rfl ?_
              intro w hw
              unfold nextC; (repeat' split) <;> first | rfl | (exfalso; omega)
            · try simp only [setAll, vcells, List.set_cons_zero, List.set_cons_succ, eqB, eqV, Bool.and_eq_true, Bool.and_eq_false_iff, decide_eq_true_eq, decide_eq_false_iff_not, Bool.true_eq_false, Bool.and_true, or_false] at h17
              refine WC.seq ?_
              refine WC.region ?_
              refine SL.pure rfl rfl rfl (PureOp.build bld58 rfl rfl) ?_
              refine SL.pure rfl rfl rfl (PureOp.eqla rfl rfl flat58 rfl) ?_
              refine SL.pure rfl rfl rfl (PureOp.assign rfl) ?_
              refine SL.nil_then ?_
              refine WC.cond rfl (fun h18 => ?_) (fun h18 => ?_)
              · try simp only [setAll, vcells, List.set_cons_zero, List.set_cons_succ, eqB, eqV, Bool.and_eq_true, Bool.and_eq_false_iff, decide_eq_true_eq, decide_eq_false_iff_not, Bool.true_eq_false, Bool.and_true, or_false] at h18
                refine WC.seq ?_
                refine WC.region ?_
                refine SL.pure rfl rfl rfl (PureOp.assign rfl) ?_
                refine SL.nil_then ?_
                refine WC.ret ?_
                refine QX.ret_in ?_
                refine QX.ret_then ?_
                refine QX.ret1 rfl rfl ?_
                intro w hw
                unfold nextC; (repeat' split) <;> first | rfl | (exfalso; omega)
              · try simp only [setAll, vcells, List.set_cons_zero, List.set_cons_succ, eqB, eqV, Bool.and_eq_true, Bool.and_eq_false_iff, decide_eq_true_eq, decide_eq_false_iff_not, Bool.true_eq_false, Bool.and_true, or_false] at h18
                refine WC.seq ?_
                refine WC.seq ?_
                refine WC.region ?_
                refine SL.pure rfl rfl rfl (PureOp.build bld58 rfl rfl) ?_
                refine SL.pure rfl rfl rfl (PureOp.eqla rfl rfl flat58 rfl) ?_
                refine SL.pure rfl rfl rfl (PureOp.assign rfl) ?_
                refine SL.nil_then ?_
                refine WC.cond rfl (fun h19 => ?_) (fun h19 => ?_)
                · try simp only [setAll, vcells, List.set_cons_zero, List.set_cons_succ, eqB, eqV, Bool.and_eq_true, Bool.and_eq_false_iff, decide_eq_true_eq, decide_eq_false_iff_not, Bool.true_eq_false, Bool.and_true, or_false] at h19
                  refine WC.skip ?_
                  refine QX.then_ ?_
                  refine WC.cond rfl (fun h20 => ?_) (fun h20 => ?_)
                  · try simp only [setAll, vcells, List.set_cons_zero, List.set_cons_succ, eqB, eqV, Bool.and_eq_true, Bool.and_eq_false_iff, decide_eq_true_eq, decide_eq_false_iff_not, Bool.true_eq_false, Bool.and_true, or_false] at h20
                    refine WC.seq ?_
                    refine WC.region ?_
                    refine SL.pure rfl rfl rfl (PureOp.assign rfl) ?_
                    refine SL.nil_then ?_
                    refine WC.ret ?_
                    refine QX.ret_in ?_
                    refine QX.ret_then ?_
                    refine QX.ret1 rfl rfl ?_
                    intro w hw
                    unfold nextC; (repeat' split) <;> first | rfl | (exfalso; omega)
                  · try simp only [setAll, vcells, List.set_cons_zero, List.set_cons_succ, eqB, eqV, Bool.and_eq_true, Bool.and_eq_false_iff, decide_eq_true_eq, decide_eq_false_iff_not, Bool.true_eq_false, Bool.and_true, or_false] at h20
                    refine WC.seq ?_
                    refine WC.region ?_
                    refine SL.pure rfl rfl rfl (PureOp.build bld58 rfl rfl) ?_
                    refine SL.pure rfl rfl rfl (PureOp.eqla rfl rfl flat58 rfl) ?_
                    refine SL.pure rfl rfl rfl (PureOp.assign rfl) ?_
                    refine SL.nil_then ?_
                    refine WC.cond rfl (fun h21 => ?_) (fun h21 => ?_)
                    · try simp only [setAll, vcells, List.set_cons_zero, List.set_cons_succ, eqB, eqV, Bool.and_eq_true, Bool.and_eq_false_iff, decide_eq_true_eq, decide_eq_false_iff_not, Bool.true_eq_false, Bool.and_true, or_false] at h21
                      refine WC.seq ?_
                      refine WC.region ?_
                      refine SL.pure rfl rfl rfl (PureOp.assign rfl) ?_
                      refine SL.nil_then ?_
                      refine WC.ret ?_
                      refine QX.ret_in ?_
                      refine QX.ret_then ?_
                      refine QX.ret1 rfl rfl ?_
                      intro w hw
                      unfold nextC; (repeat' split) <;> first | rfl | (exfalso; omega)
                    · try simp only [setAll, vcells, List.set_cons_zero, List.set_cons_succ, eqB, eqV, Bool.and_eq_true, Bool.and_eq_false_iff, decide_eq_true_eq, decide_eq_false_iff_not, Bool.true_eq_false, Bool.and_true, or_false] at h21
                      refine WC.seq ?_
                      refine WC.region ?_
                      refine SL.pure rfl rfl rfl (PureOp.build bld58 rfl rfl) ?_
                      refine SL.pure rfl rfl rfl (PureOp.eqla rfl rfl flat58 rfl) ?_
                      refine SL.pure rfl rfl rfl (PureOp.assign rfl) ?_
                      refine SL.nil_then ?_
                      refine WC.cond rfl (fun h22 => ?_) (fun h22 => ?_)
                      · try simp only [setAll, vcells, List.set_cons_zero, List.set_cons_succ, eqB, eqV, Bool.and_eq_true, Bool.and_eq_false_iff, decide_eq_true_eq, decide_eq_false_iff_not, Bool.true_eq_false, Bool.and_true, or_false] at h22
                        refine WC.seq ?_
                        refine WC.region ?_
                        refine SL.pure rfl rfl rfl (PureOp.assign rfl) ?_
                        refine SL.nil_then ?_
                        refine WC.ret ?_
                        refine QX.ret_in ?_
                        refine QX.ret_then ?_
                        refine QX.ret1 rfl rfl ?_
                        intro w hw
                        unfold nextC; (repeat' split) <;> first | rfl | (exfalso; omega)
                      · try simp only [setAll, vcells, List.set_cons_zero, List.set_cons_succ, eqB, eqV, Bool.and_eq_true, Bool.and_eq_false_iff, decide_eq_true_eq, decide_eq_false_iff_not, Bool.true_eq_false, Bool.and_true, or_false] at h22
                        refine WC.skip ?_
                        refine QX.normal_in ?_
                        refine QX.then_ ?_
                        refine WC.seq ?_
                        refine WC.region ?_
                        refine SL.pure rfl rfl rfl (PureOp.assign rfl) ?_
                        refine SL.nil_then ?_
                        refine WC.ret ?_
                        refine QX.ret1 rfl rfl ?_
                        intro w hw
                        unfold nextC; (repeat' split) <;> first | rfl | (exfalso; omega)
                · try simp only [setAll, vcells, List.set_cons_zero, List.set_cons_succ, eqB, eqV, Bool.and_eq_true, Bool.and_eq_false_iff, decide_eq_true_eq, decide_eq_false_iff_not, Bool.true_eq_false, Bool.and_true, or_false] at h19
                  refine WC.region ?_
                  refine SL.pure rfl rfl rfl (PureOp.build bld58 rfl rfl) ?_
                  refine SL.pure rfl rfl rfl (PureOp.eqla rfl rfl flat58 rfl) ?_
                  refine SL.pure rfl rfl rfl (PureOp.assign rfl) ?_
                  refine SL.nil_then ?_
                  refine WC.cond rfl (fun h23 => ?_) (fun h23 => ?_)
                  · try simp only [setAll, vcells, List.set_cons_zero, List.set_cons_succ, eqB, eqV, Bool.and_eq_true, Bool.and_eq_false_iff, decide_eq_true_eq, decide_eq_false_iff_not, Bool.true_eq_false, Bool.and_true, or_false] at h23
                    refine WC.seq ?_
                    refine WC.region ?_
                    refine SL.pure rfl rfl rfl (PureOp.assign rfl) ?_
                    refine SL.nil_then ?_
                    refine WC.ret ?_
                    refine QX.ret_in ?_
                    refine QX.ret_then ?_
                    refine QX.ret1 rfl rfl ?_
                    intro w hw
                    unfold nextC; (repeat' split) <;> first | rfl | (exfalso; omega)
                  · try simp only [setAll, vcells, List.set_cons_zero, List.set_cons_succ, eqB, eqV, Bool.and_eq_true, Bool.and_eq_false_iff, decide_eq_true_eq, decide_eq_false_iff_not, Bool.true_eq_false, Bool.and_true, or_false] at h23
                    refine WC.seq ?_
                    refine WC.region ?_
                    refine SL.pure rfl rfl rfl (PureOp.build bld58 rfl rfl) ?_
                    refine SL.pure rfl rfl rfl (PureOp.eqla rfl rfl flat58 rfl) ?_
                    refine SL.pure rfl rfl rfl (PureOp.assign rfl) ?_
                    refine SL.nil_then ?_
                    refine WC.cond rfl (fun h24 => ?_) (fun h24 => ?_)
                    · try simp only [setAll, vcells, List.set_cons_zero, List.set_cons_succ, eqB, eqV, Bool.and_eq_true, Bool.and_eq_false_iff, decide_eq_true_eq, decide_eq_false_iff_not, Bool.true_eq_false, Bool.and_true, or_false] at h24
                      refine WC.seq ?_
                      refine WC.region ?_
                      refine SL.pure rfl rfl rfl (PureOp.assign rfl) ?_
                      refine SL.nil_then ?_
                      refine WC.ret ?_
                      refine QX.ret_in ?_
                      refine QX.ret_then ?_
                      refine QX.ret1 rfl rfl ?_
                      intro w hw
                      unfold nextC; (repeat' split) <;> first | rfl | (exfalso; omega)
                    · try simp only [setAll, vcells, List.set_cons_zero, List.set_cons_succ, eqB, eqV, Bool.and_eq_true, Bool.and_eq_false_iff, decide_eq_true_eq, decide_eq_false_iff_not, Bool.true_eq_false, Bool.and_true, or_false] at h24
                      refine WC.seq ?_
                      refine WC.region ?_
                      refine SL.pure rfl rfl rfl (PureOp.build bld58 rfl rfl) ?_
                      refine SL.pure rfl rfl rfl (PureOp.eqla rfl rfl flat58 rfl) ?_
                      refine SL.pure rfl rfl rfl (PureOp.assign rfl) ?_
                      refine SL.nil_then ?_
                      refine WC.cond rfl (fun h25 => ?_) (fun h25 => ?_)
                      · try simp only [setAll, vcells, List.set_cons_zero, List.set_cons_succ, eqB, eqV, Bool.and_eq_true, Bool.and_eq_false_iff, decide_eq_true_eq, decide_eq_false_iff_not, Bool.true_eq_false, Bool.and_true, or_false] at h25
                        refine WC.seq ?_
                        refine WC.region ?_
                        refine SL.pure rfl rfl rfl (PureOp.assign rfl) ?_
                        refine SL.nil_then ?_
                        refine WC.ret ?_
                        refine QX.ret_in ?_
                        refine QX.ret_then ?_
                        refine QX.ret1 rfl rfl ?_
                        intro w hw
                        unfold nextC; (repeat' split) <;> first | rfl | (exfalso; omega)
                      · try simp only [setAll, vcells, List.set_cons_zero, List.set_cons_succ, eqB, eqV, Bool.and_eq_true, Bool.and_eq_false_iff, decide_eq_true_eq, decide_eq_false_iff_not, Bool.true_eq_false, Bool.and_true, or_false] at h25
                        refine WC.skip ?_
                        refine QX.normal_in ?_
                        refine QX.then_ ?_
                        refine WC.seq ?_
                        refine WC.region ?_
                        refine SL.pure rfl rfl rfl (PureOp.assign rfl) ?_
                        refine SL.nil_then ?_
                        refine WC.ret ?_
                        refine QX.ret1 rfl rfl ?_
                        intro w hw
                        unfold nextC; (repeat' split) <;> first | rfl | (exfalso; omega)
      · try simp only [setAll, vcells, List.set_cons_zero, List.set_cons_succ, eqB, eqV, Bool.and_eq_true, Bool.and_eq_false_iff, decide_eq_true_eq, decide_eq_false_iff_not, Bool.true_eq_false, Bool.and_true, or_false] at h14
        refine WC.region ?_
        refine SL.pure rfl rfl rfl (PureOp.build bld58 rfl rfl) ?_
        refine SL.pure rfl rfl rfl (PureOp.eqla rfl rfl flat58 rfl) ?_
        refine SL.pure rfl rfl rfl (PureOp.assign rfl) ?_
        refine SL.nil_then ?_
        refine WC.cond rfl (fun h26 => ?_) (fun h26 => ?_)
        · try simp only [setAll, vcells, List.set_cons_zero, List.set_cons_succ, eqB, eqV, Bool.and_eq_true, Bool.and_eq_false_iff, decide_eq_true_eq, decide_eq_false_iff_not, Bool.true_eq_false, Bool.and_true, or_false] at h26
          refine WC.seq ?_
          refine WC.region ?_
          refine SL.pure rfl rfl rfl (PureOp.assign rfl) ?_
          refine SL.nil_then ?_
          refine WC.ret ?_
          refine QX.ret_in ?_
          refine QX.ret_then ?_
          refine QX.ret1 rfl rfl ?_
          intro w hw
          unfold nextC; (repeat' split) <;> first | rfl | (exfalso; omega)
        · try simp only [setAll, vcells, List.set_cons_zero, List.set_cons_succ, eqB, eqV, Bool.and_eq_true, Bool.and_eq_false_iff, decide_eq_true_eq, decide_eq_false_iff_not, Bool.true_eq_false, Bool.and_true, or_false] at h26
          refine WC.seq ?_
          refine WC.region ?_
          refine SL.pure rfl rfl rfl (PureOp.build bld58 rfl rfl) ?_
          refine SL.pure rfl rfl rfl (PureOp.eqla rfl rfl flat58 rfl) ?_
          refine SL.pure rfl rfl rfl (PureOp.assign rfl) ?_
          refine SL.nil_then ?_
          refine WC.cond rfl (fun h27 => ?_) (fun h27 => ?_)
          · try simp only [setAll, vcells, List.set_cons_zero, List.set_cons_succ, eqB, eqV, Bool.and_eq_true, Bool.and_eq_false_iff, decide_eq_true_eq, decide_eq_false_iff_not, Bool.true_eq_false, Bool.and_true, or_false] at h27
            refine WC.seq ?_
            refine WC.region ?_
            refine SL.pure rfl rfl rfl (PureOp.assign rfl) ?_
            refine SL.nil_then ?_
            refine WC.ret ?_
            refine QX.ret_in ?_
            refine QX.ret_then ?_
            refine QX.ret1 rfl rfl ?_
            intro w hw
            unfold nextC; (repeat' split) <;> first | rfl | (exfalso; omega)
          · try simp only [setAll, vcells, List.set_cons_zero, List.set_cons_succ, eqB, eqV, Bool.and_eq_true, Bool.and_eq_false_iff, decide_eq_true_eq, decide_eq_false_iff_not, Bool.true_eq_false, Bool.and_true, or_false] at h27
            refine WC.seq ?_
            refine WC.region ?_
            refine SL.pure rfl rfl rfl (PureOp.build bld58 rfl rfl) ?_
            refine SL.pure rfl rfl rfl (PureOp.eqla rfl rfl flat58 rfl) ?_
            refine SL.pure rfl rfl rfl (PureOp.assign rfl) ?_
            refine SL.nil_then ?_
            refine WC.cond rfl (fun h28 => ?_) (fun h28 => ?_)
            · try simp only [setAll, vcells, List.set_cons_zero, List.set_cons_succ, eqB, eqV, Bool.and_eq_true, Bool.and_eq_false_iff, decide_eq_true_eq, decide_eq_false_iff_not, Bool.true_eq_false, Bool.and_true, or_false] at h28
              refine WC.seq ?_
              refine WC.region ?_
              refine SL.pure rfl rfl rfl (PureOp.assign rfl) ?_
              refine SL.nil_then ?_
              refine WC.ret ?_
              refine QX.ret_in ?_
              refine QX.ret_then ?_
              refine QX.ret1 rfl rfl ?_
              intro w hw
              unfold nextC; (repeat' split) <;> first | rfl | (exfalso; omega)
            · try simp only [setAll, vcells, List.set_cons_zero, List.set_cons_succ, eqB, eqV, Bool.and_eq_true, Bool.and_eq_false_iff, decide_eq_true_eq, decide_eq_false_iff_not, Bool.true_eq_false, Bool.and_true, or_false] at h28
              refine WC.seq ?_
              refine WC.region ?_
              refine SL.pure rfl rfl rfl (PureOp.build bld58 rfl rfl) ?_
              refine SL.pure rfl rfl rfl (PureOp.eqla rfl rfl flat58 rfl) ?_
              refine SL.pure rfl rfl rfl (PureOp.assign rfl) ?_
              refine SL.nil_then ?_
              refine WC.cond rfl (fun h29 => ?_) (fun h29 => ?_)
              · try simp only [setAll, vcells, List.set_cons_zero, List.set_cons_succ, eqB, eqV, Bool.and_eq_true, Bool.and_eq_false_iff, decide_eq_true_eq, decide_eq_false_iff_not, Bool.true_eq_false, Bool.and_true, or_false] at h29
                refine WC.seq ?_
                refine WC.region ?_
                refine SL.pure rfl rfl rfl (PureOp.assign rfl) ?_
                refine SL.nil_then ?_
                refine WC.ret ?_
                refine QX.ret_in ?_
                refine QX.ret_then ?_
                refine QX.ret1 rfl rfl ?_
                intro w hw
                unfold nextC; (repeat' split) <;> first | rfl | (exfalso; omega)
              · try simp only [setAll, vcells, List.set_cons_zero, List.set_cons_succ, eqB, eqV, Bool.and_eq_true, Bool.and_eq_false_iff, decide_eq_true_eq, decide_eq_false_iff_not, Bool.true_eq_false, Bool.and_true, or_false] at h29
                refine WC.seq ?_
                refine WC.seq ?_
                refine WC.region ?_
                refine SL.pure rfl rfl rfl (PureOp.build bld58 rfl rfl) ?_
                refine SL.pure rfl rfl rfl (PureOp.eqla rfl rfl flat58 rfl) ?_
                refine SL.pure rfl rfl rfl (PureOp.assign rfl) ?_
                refine SL.nil_then ?_
                refine WC.cond rfl (fun h30 => ?_) (fun h30 => ?_)
                · try simp only [setAll, vcells, List.set_cons_zero, List.set_cons_succ, eqB, eqV, Bool.and_eq_true, Bool.and_eq_false_iff, decide_eq_true_eq, decide_eq_false_iff_not, Bool.true_eq_false, Bool.and_true, or_false] at h30
                  refine WC.skip ?_
                  refine QX.then_ ?_
                  refine WC.cond rfl (fun h31 => ?_) (fun h31 => ?_)
                  · try simp only [setAll, vcells, List.set_cons_zero, List.set_cons_succ, eqB, eqV, Bool.and_eq_true, Bool.and_eq_false_iff, decide_eq_true_eq, decide_eq_false_iff_not, Bool.true_eq_false, Bool.and_true, or_false] at h31
                    refine WC.seq ?_
                    refine WC.region ?_
                    refine SL.pure rfl rfl rfl (PureOp.assign rfl) ?_
                    refine SL.nil_then ?_
                    refine WC.ret ?_
                    refine QX.ret_in ?_
                    refine QX.ret_then ?_
                    refine QX.ret1 rfl rfl ?_
                    intro w hw
                    unfold nextC; (repeat' split) <;> first | rfl | (exfalso; omega)
                  · try simp only [setAll, vcells, List.set_cons_zero, List.set_cons_succ, eqB, eqV, Bool.and_eq_true, Bool.and_eq_false_iff, decide_eq_true_eq, decide_eq_false_iff_not, Bool.true_eq_false, Bool.and_true, or_false] at h31
                    refine WC.seq ?_
                    refine WC.region ?_
                    refine SL.pure rfl rfl rfl (PureOp.build bld58 rfl rfl) ?_
                    refine SL.pure rfl rfl rfl (PureOp.eqla rfl rfl flat58 rfl) ?_
                    refine SL.pure rfl rfl rfl (PureOp.assign rfl) ?_
                    refine SL.nil_then ?_
                    refine WC.cond rfl (fun h32 => ?_) (fun h32 => ?_)
                    · try simp only [setAll, vcells, List.set_cons_zero, List.set_cons_succ, eqB, eqV, Bool.and_eq_true, Bool.and_eq_false_iff, decide_eq_true_eq, decide_eq_false_iff_not, Bool.true_eq_false, Bool.and_true, or_false] at h32
                      refine WC.seq ?_
                      refine WC.region ?_
                      refine SL.pure rfl rfl rfl (PureOp.assign rfl) ?_
                      refine SL.nil_then ?_
                      refine WC.ret ?_
                      refine QX.ret_in ?_
                      refine QX.ret_then ?_
                      refine QX.ret1 rfl rfl ?_
                      intro w hw
                      unfold nextC; (repeat' split) <;> first | rfl | (exfalso; omega)
                    · try simp only [setAll, vcells, List.set_cons_zero, List.set_cons_succ, eqB, eqV, Bool.and_eq_true, Bool.and_eq_false_iff, decide_eq_true_eq, decide_eq_false_iff_not, Bool.true_eq_false, Bool.and_true, or_false] at h32
                      refine WC.seq ?_
                      refine WC.region ?_
                      refine SL.pure rfl rfl rfl (PureOp.build bld58 rfl rfl) ?_
                      refine SL.pure rfl rfl rfl (PureOp.eqla rfl rfl flat58 rfl) ?_
                      refine SL.pure rfl rfl rfl (PureOp.assign rfl) ?_
                      refine SL.nil_then ?_
                      refine WC.cond rfl (fun h33 => ?_) (fun h33 => ?_)
                      · try simp only [setAll, vcells, List.set_cons_zero, List.set_cons_succ, eqB, eqV, Bool.and_eq_true, Bool.and_eq_false_iff, decide_eq_true_eq, decide_eq_false_iff_not, Bool.true_eq_false, Bool.and_true, or_false] at h33
                        refine WC.seq ?_
                        refine WC.region ?_
                        refine SL.pure rfl rfl rfl (PureOp.assign rfl) ?_
                        refine SL.nil_then ?_
                        refine WC.ret ?_
                        refine QX.ret_in ?_
                        refine QX.ret_then ?_
                        refine QX.ret1 rfl rfl ?_
                        intro w hw
                        unfold nextC; (repeat' split) <;> first | rfl | (exfalso; omega)
                      · try simp only [setAll, vcells, List.set_cons_zero, List.set_cons_succ, eqB, eqV, Bool.and_eq_true, Bool.and_eq_false_iff, decide_eq_true_eq, decide_eq_false_iff_not, Bool.true_eq_false, Bool.and_true, or_false] at h33
                        refine WC.skip ?_
                        refine QX.normal_in ?_
                        refine QX.then_ ?_
                        refine WC.seq ?_
                        refine WC.region ?_
                        refine SL.pure rfl rfl rfl (PureOp.assign rfl) ?_
                        refine SL.nil_then ?_
                        refine WC.ret ?_
                        refine QX.ret1 rfl rfl ?_
                        intro w hw
                        unfold nextC; (repeat' split) <;> first | rfl | (exfalso; omega)
                · try simp only [setAll, vcells, List.set_cons_zero, List.set_cons_succ, eqB, eqV, Bool.and_eq_true, Bool.and_eq_false_iff, decide_eq_true_eq, decide_eq_false_iff_not, Bool.true_eq_false, Bool.and_true, or_false] at h30
                  refine WC.region ?_
                  refine SL.pure rfl rfl rfl (PureOp.build bld58 rfl rfl) ?_
                  refine SL.pure rfl rfl rfl (PureOp.eqla rfl rfl flat58 rfl) ?_
                  refine SL.pure rfl rfl rfl (PureOp.assign rfl) ?_
                  refine SL.nil_then ?_
                  refine WC.cond rfl (fun h34 => ?_) (fun h34 => ?_)
                  · try simp only [setAll, vcells, List.set_cons_zero, List.set_cons_succ, eqB, eqV, Bool.and_eq_true, Bool.and_eq_false_iff, decide_eq_true_eq, decide_eq_false_iff_not, Bool.true_eq_false, Bool.and_true, or_false] at h34
                    refine WC.seq ?_
                    refine WC.region ?_
                    refine SL.pure rfl rfl rfl (PureOp.assign rfl) ?_
                    refine SL.nil_then ?_
                    refine WC.ret ?_
                    refine QX.ret_in ?_
                    refine QX.ret_then ?_
                    refine QX.ret1 rfl rfl ?_
                    intro w hw
                    unfold nextC; (repeat' split) <;> first | rfl | (exfalso; omega)
                  · try simp only [setAll, vcells, List.set_cons_zero, List.set_cons_succ, eqB, eqV, Bool.and_eq_true, Bool.and_eq_false_iff, decide_eq_true_eq, decide_eq_false_iff_not, Bool.true_eq_false, Bool.and_true, or_false] at h34
                    refine WC.seq ?_
                    refine WC.region ?_
                    refine SL.pure rfl rfl rfl (PureOp.build bld58 rfl rfl) ?_
                    refine SL.pure rfl rfl rfl (PureOp.eqla rfl rfl flat58 rfl) ?_
                    refine SL.pure rfl rfl rfl (PureOp.assign rfl) ?_
                    refine SL.nil_then ?_
                    refine WC.cond rfl (fun h35 => ?_) (fun h35 => ?_)
                    · try simp only [setAll, vcells, List.set_cons_zero, List.set_cons_succ, eqB, eqV, Bool.and_eq_true, Bool.and_eq_false_iff, decide_eq_true_eq, decide_eq_false_iff_not, Bool.true_eq_false, Bool.and_true, or_false] at h35
                      refine WC.seq ?_
                      refine WC.region ?_
                      refine SL.pure rfl rfl rfl (PureOp.assign rfl) ?_
                      refine SL.nil_then ?_
                      refine WC.ret ?_
                      refine QX.ret_in ?_
                      refine QX.ret_then ?_
                      refine QX.ret1 rfl rfl ?_
                      intro w hw
                      unfold nextC; (repeat' split) <;> first | rfl | (exfalso; omega)
                    · try simp only [setAll, vcells, List.set_cons_zero, List.set_cons_succ, eqB, eqV, Bool.and_eq_true, Bool.and_eq_false_iff, decide_eq_true_eq, decide_eq_false_iff_not, Bool.true_eq_false, Bool.and_true, or_false] at h35
                      refine WC.seq ?_
                      refine WC.region ?_
                      refine SL.pure rfl rfl rfl (PureOp.build bld58 rfl rfl) ?_
                      refine SL.pure rfl rfl rfl (PureOp.eqla rfl rfl flat58 rfl) ?_
                      refine SL.pure rfl rfl rfl (PureOp.assign rfl) ?_
                      refine SL.nil_then ?_
                      refine WC.cond rfl (fun h36 => ?_) (fun h36 => ?_)
                      · try simp only [setAll, vcells, List.set_cons_zero, List.set_cons_succ, eqB, eqV, Bool.and_eq_true, Bool.and_eq_false_iff, decide_eq_true_eq, decide_eq_false_iff_not, Bool.true_eq_false, Bool.and_true, or_false] at h36
                        refine WC.seq ?_
                        refine WC.region ?_
                        refine SL.pure rfl rfl rfl (PureOp.assign rfl) ?_
                        refine SL.nil_then ?_
                        refine WC.ret ?_
                        refine QX.ret_in ?_
                        refine QX.ret_then ?_
                        refine QX.ret1 rfl rfl ?_
                        intro w hw
                        unfold nextC; (repeat' split) <;> first | rfl | (exfalso; omega)
                      · try simp only [setAll, vcells, List.set_cons_zero, List.set_cons_succ, eqB, eqV, Bool.and_eq_true, Bool.and_eq_false_iff, decide_eq_true_eq, decide_eq_false_iff_not, Bool.true_eq_false, Bool.and_true, or_false] at h36
                        refine WC.skip ?_
                        refine QX.normal_in ?_
                        refine QX.then_ ?_
                        refine WC.seq ?_
                        refine WC.region ?_
                        refine SL.pure rfl rfl rfl (PureOp.assign rfl) ?_
                        refine SL.nil_then ?_
                        refine WC.ret ?_
                        refine QX.ret1 rfl rfl ?_
                        intro w hw
                        unfold nextC; (repeat' split) <;> first | rfl | (exfalso; omega)

end Go.Proofs.YtipmdakhmpaemaaDoor
