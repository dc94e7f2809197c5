/- What the listed variable holds when the call begins. -/
import Derived.Test.YtngkbnaehkailaaDoorRows
import Derived.Test.YtngkbnaehkailaaDoorAwZ
import Derived.Test.YtngkbnaehkailaaDoorRead
import Derived.Lib.LaidTab
namespace Go.Proofs.YtngkbnaehkailaaDoor
open Go Go.RowKit Eng
theorem arr_ints {P : Program} {H : Type} {enc : TypeId × Value → H} {w : World} {base : Nat} {sp : Nat → Bool} {held : Bool} {fuel : Nat} {t e : TypeId} {n : Nat} {cs : List Value} {zs : List Int} {p : List MemPlace} {d : DataW H}
    (ht : P.underlying t = some (.array n e)) (he : P.underlying e = some (.int .i64)) (hce : P.cellsOf e = 1) (hct : P.cellsOf t = n)
    (h : DataW.trod enc P w base sp held fuel t cs = some (d, p)) (hd : d = .agg (zs.map fun z => .lit (.int .i64 z))) : cs = zs.map (Value.int .i64) := by
  subst hd
  cases fuel with
  | zero => simp [DataW.trod] at h
  | succ fuel =>
    simp only [DataW.trod, ht, hce, hct, Nat.mul_one] at h
    split at h
    · rename_i hl
      obtain ⟨xs, hm, hx⟩ := Option.map_eq_some_iff.1 h
      have hxs : xs.map (·.1) = zs.map fun z => (DataW.lit (.int .i64 z) : DataW H) := by
        have := congrArg Prod.fst hx
        simpa using this
      have hxl : xs.length = n := by simpa using Go.Lib.mapM_length hm
      have hzl : zs.length = n := by
        have := congrArg List.length hxs
        simp at this
        omega
      apply List.ext_getElem?
      intro i
      by_cases hi : i < n
      · obtain ⟨b, hb, hf⟩ := Go.Lib.mapM_at hm i i (by simp [hi])
        obtain ⟨z, hc, hbd, _⟩ := DataW.trod_int he hf
        have h1 : cs[i]? = some (.int .i64 z) := by
          have := congrArg (·[0]?) hc
          simpa [List.getElem?_take, List.getElem?_drop] using this
        have h2 : (xs.map (·.1))[i]? = some b.1 := by simp [hb]
        rw [hxs, hbd] at h2
        simp only [List.getElem?_map, Option.map_eq_some_iff, DataW.lit.injEq, Lit.int.injEq] at h2
        obtain ⟨z', hz', _, h3⟩ := h2
        simp [h1, hz', h3]
      · rw [List.getElem?_eq_none (by omega), List.getElem?_eq_none (by simp; omega)]
    · cases h
theorem gLens : Tryd.prog.globalNamed "airline/calendar.lengths" = some 0 := by kernel_rfl
theorem gLensType : (Tryd.prog.globals[0]?).map (·.type) = some 79 := by kernel_rfl
theorem lens_of {W : World} (h : laidMetH Tryd.prog [("airline/calendar.lengths", Rows.laid_airline_calendar_lengths)] W) : LenIn W := by
  obtain ⟨ps, ⟨g', t', cs, fuel, p, q, hg', ht', hvar, hd, _, _⟩, _⟩ := h
  obtain rfl := Option.some.inj (gLens.symm.trans hg')
  obtain rfl := Option.some.inj (gLensType.symm.trans ht')
  have hcs : cs.toList = lengthsL.map (Value.int .i64) := by
    refine arr_ints Tryd.underlying79 Tryd.underlying3 (by kernel_rfl) (by kernel_rfl) hd ?_
    rfl
  intro j hj
  rw [World.var?_cell gLens hvar j, ← Array.getElem?_toList, hcs, List.getElem?_map, nth_get (l := lengthsL) (by simpa [lengthsL] using hj)]
  rfl
end Go.Proofs.YtngkbnaehkailaaDoor
