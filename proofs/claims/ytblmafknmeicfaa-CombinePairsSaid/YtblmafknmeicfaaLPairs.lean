/- CombinePairs returns true at every tariff and list of components: Pairs returns what the reference returns. No conditions. -/
import Derived.Test.YtblmafknmeicfaaRows
import Derived.Test.YtblmafknmeicfaaPrE
import Derived.Test.YtblmafknmeicfaaTypes
import Derived.ChangeOld
import Derived.ProofKit
import Derived.JoinedOf
import Derived.JoinedAt
import Derived.OpenShut
namespace Go.Proofs.Ytblmafknmeicfaa.CombinePairs
open Go.Proofs.Ytblmafknmeicfaa
open Go.ChangeShapes Go.WideShapes Go.ChangeAt Go.RowKit Eng
open Go.ChangeMaps (open_string shut_string)
set_option linter.unusedVariables false
set_option linter.unusedSimpArgs false
theorem own : ownKnob Try.prog.godebug = none := by kernel_rfl
theorem laidOut : laidOutB Try.prog = true := by kernel_rfl
set_option maxHeartbeats 1000000 in
set_option maxRecDepth 100000 in
theorem lifted (os : Os) (started : os.Started) (H : Type) (enc : TypeId × Value → H) :
    ReturnsInHanded {} Try.checked os 3 .any (Rows.combinePairsSpec.pre6 enc Try.prog Try.f3 Rows.combinePairsRow.domain false) (Rows.combinePairsSpec.post enc Try.prog Try.f3 false true false false) := by
  refine returnsInHanded_of_change (C := Try.checked) own started (by kernel_rfl) Try.func3
    (ChangeSpec.witness6 (enc := enc) (C := Try.checked) false ⟨#[], #[.agg #[.slice none 0 0, .slice none 0 0, .slice none 0 0, .slice none 0 0], .slice none 0 0], []⟩ 8 (by kernel_rfl) (by kernel_rfl) (by kernel_rfl) (by kernel_rfl)) ?_
  intro W base args ds gs before hval0 hW hcnd _
  have hval : ∀ (j : Nat) t v, Try.f3.params[j]? = some t → args[j]? = some v → Value.okWide Try.prog W .any base t v := hval0
  have hW' := hW
  obtain ⟨p, q, hA0, hV, rfl, hfz, hnd⟩ := hW
  have hA : DataW.TrodAll enc Try.prog W 0 (fun _ => true) true Try.f3.params.toList args.toList ds p := hA0
  rw [Try.params3] at hA hval
  obtain ⟨v0, vs0, d0, ds0, p0, q0, hargs, rfl, rfl, k0, r0⟩ := trodAll_cons hA
  obtain ⟨v1, vs1, d1, ds1, p1, q1, rfl, rfl, rfl, k1, r1⟩ := trodAll_cons r0
  obtain ⟨rfl, rfl, rfl⟩ := trodAll_nil r1
  obtain rfl : args = #[v0, v1] := by cases args; simp_all
  obtain ⟨rfl, rfl⟩ := trodVars_none hV
  obtain ⟨x0, rfl, g0⟩ := Reads.agg rd27 Try.underlying27 (hval 0 27 v0 rfl rfl) k0
  obtain ⟨x1, rfl, g1⟩ := Reads.slicev (Reads.slice Try.underlying28 co42 (by decide) rd42 enc42_len) Try.underlying28 (hval 1 28 v1 rfl rfl) k1
  clear hA0 hval0
  have main : FnC Try.prog 3 [.agg (enc27 x0).toArray, x1.val] W (fun v _ => v = .bool true) := by
    exact pairs_law x0.2.2.1 x0.2.2.2 x0.1.l x0.2.1.ao x0.2.1.l.length x0.2.1.cap x0.1.ao x0.1.l.length x0.1.cap rfl W g0.1.1 x1.l x1.ao x1.l.length x1.cap rfl g1.1
  refine Calls.mono main fun e W' ⟨v, he, bel, hv⟩ => ?_
  subst he
  subst hv
  exact ⟨_, rfl, _, _, _, [], _, [], hW', trodAll_mk1 (shut_bool Try.underlying4 _), (trodAll_cons_mk (Below.trod laidOut (by kernel_rfl) (of_decide_eq_true (by kernel_rfl)) k0 bel (trod_lt k0)) (trodAll_cons_mk (Below.trod laidOut (by kernel_rfl) (of_decide_eq_true (by kernel_rfl)) k1 bel (trod_lt k1)) trodAll_mk0)), rfl, bel.frame _, fun h => by cases h⟩
theorem proved : Rows.CombinePairsSaid :=
  OpenClaim.holds_of_wide 3 Try.f3 rfl rfl rfl rfl rfl rfl rfl ⟨rfl, rfl, rfl, rfl, rfl⟩ rfl rfl rfl rfl rfl (by kernel_rfl) Try.func3 (by kernel_rfl)
    (of_decide_eq_true (by kernel_rfl)) (by unfold Func.isWrapper; first | (rw [if_pos (by decide +kernel)]; kernel_rfl) | (rw [if_neg (by decide +kernel)]; exact ⟨rfl, rfl⟩))
    (fun os started H enc _ => lifted os started H enc)
end Go.Proofs.Ytblmafknmeicfaa.CombinePairs
