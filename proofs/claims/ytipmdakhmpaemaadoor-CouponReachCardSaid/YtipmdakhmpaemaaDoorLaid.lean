/- What the listed variable holds when the call begins. -/
import Derived.Test.YtipmdakhmpaemaaDoorRows
import Derived.Test.YtipmdakhmpaemaaDoorPlain
import Derived.Lib.LaidTab
namespace Go.Proofs.YtipmdakhmpaemaaDoor
open Go Go.RowKit Eng
theorem gWords : Tryd.prog.globalNamed "airline/coupon.words" = some 0 := by kernel_rfl
theorem gWordsType : (Tryd.prog.globals[0]?).map (·.type) = some 55 := by kernel_rfl
theorem words_of {W : World} (h : laidMetH Tryd.prog [("airline/coupon.words", Rows.laid_airline_coupon_words)] W) : Words W := by
  obtain ⟨ps, ⟨g', t', cs, fuel, p, q, hg', ht', hvar, hd, _, _⟩, _⟩ := h
  obtain rfl := Option.some.inj (gWords.symm.trans hg')
  obtain rfl := Option.some.inj (gWordsType.symm.trans ht')
  have hcs : cs.toList = wordsL.map Value.string := by
    refine arr_strings Tryd.underlying55 Tryd.underlying9 (by kernel_rfl) (by kernel_rfl) hd ?_
    rfl
  refine ⟨Nat.le_refl _, by decide, .inr ⟨_, rfl, rfl⟩, fun i hi j hj => ?_⟩
  have hc := World.var?_cell gWords hvar i
  obtain rfl : j = 0 := by omega
  have he : (⟨blk (some ⟨0, 0, none⟩), off (some ⟨0, 0, none⟩) + i * 1 + 0, none⟩ : Addr) = ⟨0, i, none⟩ := by simp [blk, off]
  rw [he, hc, ← Array.getElem?_toList, hcs]

  rw [List.getElem?_map, nth_get (l := wordsL) (by simpa [wordsL, wordsR] using hi)]
  rfl
end Go.Proofs.YtipmdakhmpaemaaDoor
