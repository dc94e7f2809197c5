/-
  How arrays among the arguments read. Of no program.
-/
import Derived.Test.YtblmafknmeicfaaRead
namespace Go.Proofs.Ytblmafknmeicfaa.Eng
open Go Go.RowKit Go.WideShapes
set_option linter.unusedVariables false
variable {P : Program}
theorem trod_arr {t e : TypeId} {m : Nat} {H : Type} {en : TypeId × Value → H} {w : World} {sp : Nat → Bool} {hd : Bool} {fuel : Nat} {cs : List Value} {y : DataW H × List MemPlace} (hu : P.underlying t = some (.array m e)) (h : DataW.trod en P w 0 sp hd fuel t cs = some y) :
    cs.length = P.cellsOf t ∧ ∃ n, ∀ i, i < m → ∃ z, DataW.trod en P w 0 sp hd n e ((cs.drop (i * P.cellsOf e)).take (P.cellsOf e)) = some z := by
  cases fuel with
  | zero => simp [DataW.trod] at h
  | succ fuel =>
    simp only [DataW.trod, hu] at h
    split at h
    · rename_i hl
      obtain ⟨xs, hm, hx⟩ := Option.map_eq_some_iff.1 h
      refine ⟨by omega, fuel, fun i hi => ?_⟩
      obtain ⟨b, hb, hf⟩ := Go.Lib.mapM_at hm i i (by simp [hi])
      exact ⟨b, hf⟩
    · cases h
theorem Reads.aggA {α : Type} {t e : TypeId} {m : Nat} {enc : α → List Value} {G : World → α → Prop} (hr : Reads P t enc G) (hu : P.underlying t = some (.array m e)) {H : Type} {en : TypeId × Value → H} {w : World} {r : Reach} {b0 : Nat} {v : Value} {d : DataW H} {p : List MemPlace} {sp : Nat → Bool} {hd : Bool}
    (hv : Value.okWide P w r b0 t v) (h : DataW.Trod en P w 0 sp hd t v d p) : ∃ x, v = .agg (enc x).toArray ∧ G w x := by
  have : ∃ cs, v = .agg cs := by
    simp only [Value.okWide, hu] at hv
    obtain ⟨cs, h1, _⟩ := hv
    exact ⟨cs, h1⟩
  obtain ⟨cs, rfl⟩ := this
  obtain ⟨fuel, hf⟩ := h
  obtain ⟨x, hx, hg⟩ := hr H en w sp hd fuel _ _ hf
  refine ⟨x, ?_, hg⟩
  rw [← hx]
  simp [Value.cells]
end Go.Proofs.Ytblmafknmeicfaa.Eng
