/- FlowSolves returns true at every network and limit: the flow is feasible, and its amount and cost are those of the reference. No conditions. -/
import Derived.Test.YtngkbnaehkailaaRows
import Derived.Test.YtngkbnaehkailaaFlR
import Derived.Test.YtngkbnaehkailaaTypes
import Derived.ChangeOld
import Derived.ProofKit
import Derived.JoinedOf
import Derived.JoinedAt
import Derived.OpenShut
namespace Go.Proofs.Ytngkbnaehkailaa.FlowSolves
open Go.Proofs.Ytngkbnaehkailaa
open Go.ChangeShapes Go.WideShapes Go.ChangeAt Go.RowKit Eng
open Go.ChangeMaps (open_string shut_string)
set_option linter.unusedVariables false
set_option linter.unusedSimpArgs false
theorem own : ownKnob Try.prog.godebug = none := by kernel_rfl
theorem laidOut : laidOutB Try.prog = true := by kernel_rfl
set_option maxHeartbeats 1000000 in
set_option maxRecDepth 100000 in
theorem lifted (os : Os) (started : os.Started) (H : Type) (enc : TypeId × Value → H) :
    ReturnsInHanded {} Try.checked os 5 .any (Rows.flowSolvesSpec.pre6 enc Try.prog Try.f5 Rows.flowSolvesRow.domain false) (Rows.flowSolvesSpec.post enc Try.prog Try.f5 false true false false) := by
  refine returnsInHanded_of_change (C := Try.checked) own started (by kernel_rfl) Try.func5
    (ChangeSpec.witness6 (enc := enc) (C := Try.checked) false ⟨#[], #[.agg #[.int .i64 0, .slice none 0 0, .int .i64 0, .int .i64 0], .int .i64 0], []⟩ 8 (by kernel_rfl) (by kernel_rfl) (by kernel_rfl) (by kernel_rfl)) ?_
  intro W base args ds gs before hval0 hW hcnd _
  have hval : ∀ (j : Nat) t v, Try.f5.params[j]? = some t → args[j]? = some v → Value.okWide Try.prog W .any base t v := hval0
  have hW' := hW
  obtain ⟨p, q, hA0, hV, rfl, hfz, hnd⟩ := hW
  have hA : DataW.TrodAll enc Try.prog W 0 (fun _ => true) true Try.f5.params.toList args.toList ds p := hA0
  rw [Try.params5] at hA hval
  obtain ⟨v0, vs0, d0, ds0, p0, q0, hargs, rfl, rfl, k0, r0⟩ := trodAll_cons hA
  obtain ⟨v1, vs1, d1, ds1, p1, q1, rfl, rfl, rfl, k1, r1⟩ := trodAll_cons r0
  obtain ⟨rfl, rfl, rfl⟩ := trodAll_nil r1
  obtain rfl : args = #[v0, v1] := by cases args; simp_all
  obtain ⟨rfl, rfl⟩ := trodVars_none hV
  obtain ⟨x0, rfl, g0⟩ := Reads.agg rd24 Try.underlying24 (hval 0 24 v0 rfl rfl) k0
  obtain ⟨x1, rfl, rfl, rfl, wf1⟩ := open_int Try.underlying3 (hval 1 3 v1 rfl rfl) k1
  have g1 := in64_of_wf wf1
  clear hA0 hval0
  have main : FnC Try.prog 5 [.agg (enc24 x0).toArray, .int .i64 x1] W (fun v _ => v = .bool true) := by
    by_cases hck : checkE x0.1 x0.2.1.l x0.2.2.1 x0.2.2.2 = 0
    · by_cases hmo : 0 ≤ x1
      · by_cases hs : x0.1 ≤ 16 ∧ (x0.2.1.l.length : Int) ≤ 40
        · obtain ⟨R, hR, hB⟩ := solve_small hck hs.1 hs.2 hmo
          exact solves_ok x0.1 x0.2.1.l x0.2.1.ao x0.2.1.l.length x0.2.1.cap rfl x0.2.2.1 x0.2.2.2 x1 hck hs ⟨hmo, by unfold In64 at g1; omega⟩ _ R hR hB (by rw [solveR_small hck hs.1 hs.2 hmo]; exact hR) W g0.2.1.1
        · exact solves_big x0.1 x0.2.1.l x0.2.1.ao x0.2.1.l.length x0.2.1.cap rfl x0.2.2.1 x0.2.2.2 x1 hs hck hmo W g0.2.1.1
      · exact solves_bad x0.1 x0.2.1.l x0.2.1.ao x0.2.1.l.length x0.2.1.cap rfl x0.2.2.1 x0.2.2.2 x1 (.inr (by omega)) W g0.2.1.1
    · exact solves_bad x0.1 x0.2.1.l x0.2.1.ao x0.2.1.l.length x0.2.1.cap rfl x0.2.2.1 x0.2.2.2 x1 (.inl hck) W g0.2.1.1
  refine Calls.mono main fun e W' ⟨v, he, bel, hv⟩ => ?_
  subst he
  subst hv
  exact ⟨_, rfl, _, _, _, [], _, [], hW', trodAll_mk1 (shut_bool Try.underlying4 _), (trodAll_cons_mk (Below.trod laidOut (by kernel_rfl) (of_decide_eq_true (by kernel_rfl)) k0 bel (trod_lt k0)) (trodAll_cons_mk (Below.trod laidOut (by kernel_rfl) (of_decide_eq_true (by kernel_rfl)) k1 bel (trod_lt k1)) trodAll_mk0)), rfl, bel.frame _, fun h => by cases h⟩
theorem proved : Rows.FlowSolvesSaid :=
  OpenClaim.holds_of_wide 5 Try.f5 rfl rfl rfl rfl rfl rfl rfl ⟨rfl, rfl, rfl, rfl, rfl⟩ rfl rfl rfl rfl rfl (by kernel_rfl) Try.func5 (by kernel_rfl)
    (of_decide_eq_true (by kernel_rfl)) (by unfold Func.isWrapper; first | (rw [if_pos (by decide +kernel)]; kernel_rfl) | (rw [if_neg (by decide +kernel)]; exact ⟨rfl, rfl⟩))
    (fun os started H enc _ => lifted os started H enc)
end Go.Proofs.Ytngkbnaehkailaa.FlowSolves
