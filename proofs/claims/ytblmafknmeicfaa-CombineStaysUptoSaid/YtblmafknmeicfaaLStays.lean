/- CombineStays returns true at every input of bulk at most 1048576: combine.Stays and combine.Check return what the reference returns. -/
import Derived.Test.YtblmafknmeicfaaRows
import Derived.Test.YtblmafknmeicfaaMtL
import Derived.Test.YtblmafknmeicfaaMtN
import Derived.Test.YtblmafknmeicfaaMTypes
import Derived.JoinedCond
import Derived.ChangeOld
import Derived.ProofKit
import Derived.JoinedOf
import Derived.JoinedAt
import Derived.OpenShut
namespace Go.Proofs.Ytblmafknmeicfaa.CombineStays
open Go.Proofs.Ytblmafknmeicfaa
open Go.ChangeShapes Go.WideShapes Go.ChangeAt Go.RowKit Eng
open Go.ChangeMaps (open_string shut_string)
set_option linter.unusedVariables false
set_option linter.unusedSimpArgs false
theorem own : ownKnob Try.prog.godebug = none := by kernel_rfl
theorem laidOut : laidOutB Try.prog = true := by kernel_rfl
set_option maxHeartbeats 1000000 in
set_option maxRecDepth 100000 in
theorem contract (H : Type) (enc : TypeId × Value → H) (W : World) (base : Nat) (args : Array Value) (ds gs : List (DataW H)) (before : List MemPlace)
    (hval0 : ∀ (j : Nat) t v, Try.f5.params[j]? = some t → args[j]? = some v → Value.okWide Try.prog W .any base t v)
    (hW : DataW.Whole enc Try.prog Try.f5.params.toList Rows.combineStaysSpec.vars false W args.toList ds gs before) (hsm : Rows.uptoSmall H (ds ++ gs) = true) :
    Calls Try.prog 5 args W fun e W2 => ∃ v, e = .returned v ∧ Rows.combineStaysSpec.post enc Try.prog Try.f5 false true false false W args v W2 := by
  have hval : ∀ (j : Nat) t v, Try.f5.params[j]? = some t → args[j]? = some v → Value.okWide Try.prog W .any base t v := hval0
  have hW' := hW
  obtain ⟨p, q, hA0, hV, rfl, hfz, hnd⟩ := hW
  have hA : DataW.TrodAll enc Try.prog W 0 (fun _ => true) true Try.f5.params.toList args.toList ds p := hA0
  rw [Try.params5] at hA hval
  obtain ⟨v0, vs0, d0, ds0, p0, q0, hargs, rfl, rfl, k0, r0⟩ := trodAll_cons hA
  obtain ⟨v1, vs1, d1, ds1, p1, q1, rfl, rfl, rfl, k1, r1⟩ := trodAll_cons r0
  obtain ⟨v2, vs2, d2, ds2, p2, q2, rfl, rfl, rfl, k2, r2⟩ := trodAll_cons r1
  obtain ⟨rfl, rfl, rfl⟩ := trodAll_nil r2
  obtain rfl : args = #[v0, v1, v2] := by cases args; simp_all
  obtain ⟨rfl, rfl⟩ := trodVars_none hV
  have hbk : Rows.uptoBulkAll [d0, d1, d2] ≤ 1048576 := of_decide_eq_true hsm
  have hb0 : Rows.uptoBulk d0 ≤ 1048576 := Nat.le_trans (bulk_part (by simp)) hbk
  have hb1 : Rows.uptoBulk d1 ≤ 1048576 := Nat.le_trans (bulk_part (by simp)) hbk
  have hb2 : Rows.uptoBulk d2 ≤ 1048576 := Nat.le_trans (bulk_part (by simp)) hbk
  obtain ⟨x0, rfl, g0⟩ := Reads.agg rh39 Try.underlying39 (hval 0 39 v0 rfl rfl) k0
  obtain ⟨x1, rfl, g1⟩ := Reads.agg rh27 Try.underlying27 (hval 1 27 v1 rfl rfl) k1
  obtain ⟨x2, rfl, g2⟩ := Reads.agg rh47 Try.underlying47 (hval 2 47 v2 rfl rfl) k2
  clear hA0 hval0
  have main : FnC Try.prog 5 [.agg (enc39 x0).toArray, .agg (enc27 x1).toArray, .agg (enc47 x2).toArray] W (fun v _ => v = .bool true) := by
    have hbl := tariff_bulk k1 hb1 g1.2.1.1
    obtain ⟨dl, hdl, sD, _⟩ := g0.2
    obtain ⟨tl, htl, sR, hG⟩ := g1.2.2.1
    exact stays_law x0.2 x0.1.l x0.1.ao x0.1.l.length x0.1.cap rfl dl hdl x1.2.2.1 x1.2.2.2 x1.1.l x1.2.1.l x1.2.1.ao x1.2.1.l.length x1.2.1.cap x1.1.ao x1.1.l.length x1.1.cap rfl rfl tl htl x2.1.l x2.1.ao x2.1.l.length x2.1.cap rfl W g0.1.1 sD g1.1.1 g1.2.1.1 sR g2.1.1
      (fun j hj => (by
        obtain ⟨q1, q2, q3, q4⟩ := g0.1.2 _ (nth_mem hj)
        exact ⟨Nat.le_trans q1 (by decide), Nat.le_trans q2 (by decide), Nat.le_trans q3 (by decide), q4.2.1⟩))
      (fun i hi => (by
        obtain ⟨q1, q2, q3, q4⟩ := g1.2.1.2 _ (nth_mem hi)
        exact ⟨q2.2.1, q2.2.2.2.2.2, q3.1, (hbl i hi).1, Half.imp q4.2.2.2.2 (fun y hy => hy.1), (hbl i hi).2⟩))
      (fun i hi => (by
        have q := hG _ (nth_mem (l := tl) (i := i) (by omega))
        exact ⟨q.2.1.1, q.2.1.2⟩))
      (fun i hi => (by
        have q := g1.1.2 _ (nth_mem hi)
        exact ⟨Nat.le_trans q.1 (by decide), Nat.le_trans q.2.2.2.1 (by decide), Nat.le_trans q.2.2.2.2.1 (by decide)⟩))
      x2.2.l x2.2.ao x2.2.l.length x2.2.cap rfl g2.2.1
  refine Calls.mono main fun e W' ⟨v, he, bel, hv⟩ => ?_
  subst he
  subst hv
  exact ⟨_, rfl, _, _, _, [], _, [], hW', trodAll_mk1 (shut_bool Try.underlying4 _), (trodAll_cons_mk (Below.trod laidOut (by kernel_rfl) (of_decide_eq_true (by kernel_rfl)) k0 bel (trod_lt k0)) (trodAll_cons_mk (Below.trod laidOut (by kernel_rfl) (of_decide_eq_true (by kernel_rfl)) k1 bel (trod_lt k1)) (trodAll_cons_mk (Below.trod laidOut (by kernel_rfl) (of_decide_eq_true (by kernel_rfl)) k2 bel (trod_lt k2)) trodAll_mk0))), rfl, bel.frame _, fun h => by cases h⟩
set_option maxRecDepth 100000 in
theorem lifted (os : Os) (started : os.Started) (H : Type) (enc : TypeId × Value → H) (F : Stop.Interp) :
    ReturnsInHanded {} Try.checked os 5 .any ((Rows.OpenSpec.upto Rows.combineStaysSpec).pre6 enc Try.prog Try.f5 Rows.combineStaysUptoRow.domain false) (((Rows.OpenSpec.upto Rows.combineStaysSpec).at F).post enc Try.prog Try.f5 false true false false) := by
  refine returnsInHanded_of_cond (C := Try.checked) (s := Rows.OpenSpec.upto Rows.combineStaysSpec) (k := Rows.uptoSmall) rfl own started (by kernel_rfl) Try.func5
    (OpenSpec.witness (enc := enc) (C := Try.checked) (s := Rows.OpenSpec.upto Rows.combineStaysSpec) (k := Rows.uptoSmall) rfl false ⟨#[], #[.agg #[.slice none 0 0, .slice none 0 0], .agg #[.slice none 0 0, .slice none 0 0, .slice none 0 0, .slice none 0 0], .agg #[.slice none 0 0, .slice none 0 0]], []⟩ 8 (by kernel_rfl) (by kernel_rfl) (by kernel_rfl)
      (x := ([.agg [.nil, .nil], .agg [.nil, .nil, .nil, .nil], .agg [.nil, .nil]], [], [])) (by kernel_rfl) rfl (by kernel_rfl)) ?_
  intro W base args ds gs before hval hW _ hk _
  exact contract H enc W base args ds gs before hval hW hk
theorem proved : Rows.CombineStaysUptoSaid :=
  OpenClaim.holds_of_cond 5 Try.f5 rfl rfl rfl rfl rfl rfl rfl ⟨rfl, rfl, rfl, rfl, rfl⟩ rfl rfl rfl rfl rfl (by kernel_rfl) Try.func5 (by kernel_rfl)
    (of_decide_eq_true (by kernel_rfl)) (by unfold Func.isWrapper; first | (rw [if_pos (by decide +kernel)]; kernel_rfl) | (rw [if_neg (by decide +kernel)]; exact ⟨rfl, rfl⟩))
    (fun os started H enc _ F => lifted os started H enc F)
end Go.Proofs.Ytblmafknmeicfaa.CombineStays
