/- FlowBest returns true at every network, limit and other flow: no other flow is better. No conditions. -/
import Derived.Test.YtngkbnaehkailaaRows
import Derived.Test.YtngkbnaehkailaaFlO
import Derived.Test.YtngkbnaehkailaaTypes
import Derived.ChangeOld
import Derived.ProofKit
import Derived.JoinedOf
import Derived.JoinedAt
import Derived.OpenShut
namespace Go.Proofs.Ytngkbnaehkailaa.FlowBest
open Go.Proofs.Ytngkbnaehkailaa
open Go.ChangeShapes Go.WideShapes Go.ChangeAt Go.RowKit Eng
open Go.ChangeMaps (open_string shut_string)
set_option linter.unusedVariables false
set_option linter.unusedSimpArgs false
theorem own : ownKnob Try.prog.godebug = none := by kernel_rfl
theorem laidOut : laidOutB Try.prog = true := by kernel_rfl
set_option maxHeartbeats 1000000 in
set_option maxRecDepth 100000 in
theorem lifted (os : Os) (started : os.Started) (H : Type) (enc : TypeId × Value → H) :
    ReturnsInHanded {} Try.checked os 6 .any (Rows.flowBestSpec.pre6 enc Try.prog Try.f6 Rows.flowBestRow.domain false) (Rows.flowBestSpec.post enc Try.prog Try.f6 false true false false) := by
  refine returnsInHanded_of_change (C := Try.checked) own started (by kernel_rfl) Try.func6
    (ChangeSpec.witness6 (enc := enc) (C := Try.checked) false ⟨#[], #[.agg #[.int .i64 0, .slice none 0 0, .int .i64 0, .int .i64 0], .int .i64 0, .slice none 0 0], []⟩ 8 (by kernel_rfl) (by kernel_rfl) (by kernel_rfl) (by kernel_rfl)) ?_
  intro W base args ds gs before hval0 hW hcnd _
  have hval : ∀ (j : Nat) t v, Try.f6.params[j]? = some t → args[j]? = some v → Value.okWide Try.prog W .any base t v := hval0
  have hW' := hW
  obtain ⟨p, q, hA0, hV, rfl, hfz, hnd⟩ := hW
  have hA : DataW.TrodAll enc Try.prog W 0 (fun _ => true) true Try.f6.params.toList args.toList ds p := hA0
  rw [Try.params6] at hA hval
  obtain ⟨v0, vs0, d0, ds0, p0, q0, hargs, rfl, rfl, k0, r0⟩ := trodAll_cons hA
  obtain ⟨v1, vs1, d1, ds1, p1, q1, rfl, rfl, rfl, k1, r1⟩ := trodAll_cons r0
  obtain ⟨v2, vs2, d2, ds2, p2, q2, rfl, rfl, rfl, k2, r2⟩ := trodAll_cons r1
  obtain ⟨rfl, rfl, rfl⟩ := trodAll_nil r2
  obtain rfl : args = #[v0, v1, v2] := by cases args; simp_all
  obtain ⟨rfl, rfl⟩ := trodVars_none hV
  obtain ⟨x0, rfl, g0⟩ := Reads.agg rd24 Try.underlying24 (hval 0 24 v0 rfl rfl) k0
  obtain ⟨x1, rfl, rfl, rfl, wf1⟩ := open_int Try.underlying3 (hval 1 3 v1 rfl rfl) k1
  have g1 := in64_of_wf wf1
  obtain ⟨x2, rfl, g2⟩ := Reads.slicev (Reads.slice Try.underlying29 co3 (by decide) (Reads.int Try.underlying3) encI_len) Try.underlying29 (hval 2 29 v2 rfl rfl) k2
  clear hA0 hval0
  have main : FnC Try.prog 6 [.agg (enc24 x0).toArray, .int .i64 x1, x2.val] W (fun v _ => v = .bool true) := by
    by_cases hs : x0.1 ≤ 16 ∧ (x0.2.1.l.length : Int) ≤ 40
    · by_cases hck : checkE x0.1 x0.2.1.l x0.2.2.1 x0.2.2.2 = 0
      · by_cases hmo : 0 ≤ x1
        · obtain ⟨R, hR, hB⟩ := solve_small hck hs.1 hs.2 hmo
          exact best_ok x0.1 x0.2.1.l x0.2.1.ao x0.2.1.l.length x0.2.1.cap rfl x0.2.2.1 x0.2.2.2 x1 x2.l x2.ao x2.l.length x2.cap rfl hck hs ⟨hmo, by unfold In64 at g1; omega⟩ _ R hR hB W g0.2.1.1 g2.1
        · exact best_bad x0.1 x0.2.1.l x0.2.1.ao x0.2.1.l.length x0.2.1.cap rfl x0.2.2.1 x0.2.2.2 x1 x2.l x2.ao x2.l.length x2.cap rfl (.inr (by omega)) W g0.2.1.1 g2.1
      · exact best_bad x0.1 x0.2.1.l x0.2.1.ao x0.2.1.l.length x0.2.1.cap rfl x0.2.2.1 x0.2.2.2 x1 x2.l x2.ao x2.l.length x2.cap rfl (.inl hck) W g0.2.1.1 g2.1
    · exact best_big x0.1 x0.2.1.l x0.2.1.ao x0.2.1.l.length x0.2.1.cap rfl x0.2.2.1 x0.2.2.2 x1 x2.l x2.ao x2.l.length x2.cap rfl hs W g0.2.1.1 g2.1
  refine Calls.mono main fun e W' ⟨v, he, bel, hv⟩ => ?_
  subst he
  subst hv
  exact ⟨_, rfl, _, _, _, [], _, [], hW', trodAll_mk1 (shut_bool Try.underlying4 _), (trodAll_cons_mk (Below.trod laidOut (by kernel_rfl) (of_decide_eq_true (by kernel_rfl)) k0 bel (trod_lt k0)) (trodAll_cons_mk (Below.trod laidOut (by kernel_rfl) (of_decide_eq_true (by kernel_rfl)) k1 bel (trod_lt k1)) (trodAll_cons_mk (Below.trod laidOut (by kernel_rfl) (of_decide_eq_true (by kernel_rfl)) k2 bel (trod_lt k2)) trodAll_mk0))), rfl, bel.frame _, fun h => by cases h⟩
theorem proved : Rows.FlowBestSaid :=
  OpenClaim.holds_of_wide 6 Try.f6 rfl rfl rfl rfl rfl rfl rfl ⟨rfl, rfl, rfl, rfl, rfl⟩ rfl rfl rfl rfl rfl (by kernel_rfl) Try.func6 (by kernel_rfl)
    (of_decide_eq_true (by kernel_rfl)) (by unfold Func.isWrapper; first | (rw [if_pos (by decide +kernel)]; kernel_rfl) | (rw [if_neg (by decide +kernel)]; exact ⟨rfl, rfl⟩))
    (fun os started H enc _ => lifted os started H enc)
end Go.Proofs.Ytngkbnaehkailaa.FlowBest
