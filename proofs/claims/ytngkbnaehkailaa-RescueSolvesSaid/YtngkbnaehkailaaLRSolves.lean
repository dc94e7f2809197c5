/- RescueSolves returns true at every list of parties and capacities: the plan is valid, carries as many at the same cost as the reference, and Left is the reference's. No conditions. -/
import Derived.Test.YtngkbnaehkailaaRows
import Derived.Test.YtngkbnaehkailaaRsI
import Derived.Test.YtngkbnaehkailaaSvW
import Derived.Test.YtngkbnaehkailaaRTypes
import Derived.SizedLaws
import Derived.ChangeOld
import Derived.ProofKit
import Derived.JoinedOf
import Derived.JoinedAt
import Derived.OpenShut
namespace Go.Proofs.Ytngkbnaehkailaa.RescueSolves
open Go.Proofs.Ytngkbnaehkailaa
open Go.ChangeShapes Go.WideShapes Go.ChangeAt Go.RowKit Eng
open Go.ChangeMaps (open_string shut_string)
set_option linter.unusedVariables false
set_option linter.unusedSimpArgs false
theorem own : ownKnob Try.prog.godebug = none := by kernel_rfl
theorem laidOut : laidOutB Try.prog = true := by kernel_rfl
set_option maxHeartbeats 1000000 in
set_option maxRecDepth 100000 in
theorem lifted (os : Os) (started : os.Started) (H : Type) (enc : TypeId × Value → H) :
    ReturnsInHanded {} Try.checked os 11 .any (Rows.rescueSolvesSpec.pre6 enc Try.prog Try.f11 Rows.rescueSolvesRow.domain false) (Rows.rescueSolvesSpec.post enc Try.prog Try.f11 false true false false) := by
  refine returnsInHanded_of_change_sized (C := Try.checked) own started (by kernel_rfl) Try.func11
    (ChangeSpec.witness6 (enc := enc) (C := Try.checked) false ⟨#[], #[.slice none 0 0, .slice none 0 0], []⟩ 8 (by kernel_rfl) (by kernel_rfl) (by kernel_rfl) (by kernel_rfl)) ?_
  intro W base args ds gs before hval0 hW hcnd hwt _
  have hval : ∀ (j : Nat) t v, Try.f11.params[j]? = some t → args[j]? = some v → Value.okWide Try.prog W .any base t v := hval0
  have hW' := hW
  obtain ⟨p, q, hA0, hV, rfl, hfz, hnd⟩ := hW
  have hA : DataW.TrodAll enc Try.prog W 0 (fun _ => true) true Try.f11.params.toList args.toList ds p := hA0
  rw [Try.params11] at hA hval
  obtain ⟨v0, vs0, d0, ds0, p0, q0, hargs, rfl, rfl, k0, r0⟩ := trodAll_cons hA
  obtain ⟨v1, vs1, d1, ds1, p1, q1, rfl, rfl, rfl, k1, r1⟩ := trodAll_cons r0
  obtain ⟨rfl, rfl, rfl⟩ := trodAll_nil r1
  obtain rfl : args = #[v0, v1] := by cases args; simp_all
  obtain ⟨rfl, rfl⟩ := trodVars_none hV
  obtain ⟨x0, rfl, g0⟩ := Reads.slicev (Reads.slice Try.underlying43 co55 (by decide) rd55 enc55_len) Try.underlying43 (hval 0 43 v0 rfl rfl) k0
  obtain ⟨x1, rfl, g1⟩ := Reads.slicev (Reads.slice Try.underlying29 co3 (by decide) (Reads.int Try.underlying3) encI_len) Try.underlying29 (hval 1 29 v1 rfl rfl) k1
  have hwt0 : ∀ n ∈ d0.weights Try.prog 43, n ≤ reachBytes := fun n hn => by
    have := List.all_eq_true.1 hwt n (DataW.weights_mem_each (j := 0) (t := 43) (by rw [Try.params11]; rfl) rfl n hn)
    simpa using this
  have hwt1 : ∀ n ∈ d1.weights Try.prog 29, n ≤ reachBytes := fun n hn => by
    have := List.all_eq_true.1 hwt n (DataW.weights_mem_each (j := 1) (t := 29) (by rw [Try.params11]; rfl) rfl n hn)
    simpa using this
  clear hA0 hval0
  have main : FnC Try.prog 11 [x0.val, x1.val] W (fun v _ => v = .bool true) := by
    by_cases hck : rchk x0.l x1.l = 0
    · have hS := small52 k0 g0.1 hwt0 hck
      obtain ⟨R, hR, hB⟩ := plan_best hck rfl rfl hS
      exact solves_ok52 W x0.l x0.ao x0.l.length x0.cap rfl (fun i hi => (g0.2 _ (nth_mem hi)).2.2.1) g0.1 x1.l x1.ao x1.l.length x1.cap rfl g1.1 hck hS _ R hR hB
    · exact solves_bad W x0.l x0.ao x0.l.length x0.cap rfl (fun i hi => (g0.2 _ (nth_mem hi)).2.2.1) g0.1 x1.l x1.ao x1.l.length x1.cap rfl g1.1 hck
  refine Calls.mono main fun e W' ⟨v, he, bel, hv⟩ => ?_
  subst he
  subst hv
  exact ⟨_, rfl, _, _, _, [], _, [], hW', trodAll_mk1 (shut_bool Try.underlying4 _), (trodAll_cons_mk (Below.trod laidOut (by kernel_rfl) (of_decide_eq_true (by kernel_rfl)) k0 bel (trod_lt k0)) (trodAll_cons_mk (Below.trod laidOut (by kernel_rfl) (of_decide_eq_true (by kernel_rfl)) k1 bel (trod_lt k1)) trodAll_mk0)), rfl, bel.frame _, fun h => by cases h⟩
theorem proved : Rows.RescueSolvesSaid :=
  OpenClaim.holds_of_wide 11 Try.f11 rfl rfl rfl rfl rfl rfl rfl ⟨rfl, rfl, rfl, rfl, rfl⟩ rfl rfl rfl rfl rfl (by kernel_rfl) Try.func11 (by kernel_rfl)
    (of_decide_eq_true (by kernel_rfl)) (by unfold Func.isWrapper; first | (rw [if_pos (by decide +kernel)]; kernel_rfl) | (rw [if_neg (by decide +kernel)]; exact ⟨rfl, rfl⟩))
    (fun os started H enc _ => lifted os started H enc)
end Go.Proofs.Ytngkbnaehkailaa.RescueSolves
