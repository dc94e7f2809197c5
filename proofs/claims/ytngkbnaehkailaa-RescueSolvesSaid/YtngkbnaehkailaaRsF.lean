import Derived.Test.YtngkbnaehkailaaRsE
import Derived.Test.YtngkbnaehkailaaPlan
namespace Go.Proofs.Ytngkbnaehkailaa
open Go Go.RowKit Eng
set_option linter.unusedVariables false
set_option linter.unusedSimpArgs false

/-- a family holds the rows of a plan -/
structure FamP (P : List (SliceV Int)) (k : Nat) (rs : List FRow) : Prop where
  len : rs.length = k
  row : ∀ i, i < k → (nth rs i).n = (nth P i).l.length ∧ (nth rs i).xs = cellsOf encI (nth P i).l
theorem FamP.nil {P : List (SliceV Int)} : FamP P 0 [] := ⟨rfl, fun i hi => by omega⟩
theorem FamP.snoc {P : List (SliceV Int)} {k n cap : Nat} {rs : List FRow} {ao : Option Addr} {xs : List Value} (h : FamP P k rs) (hn : n = (nth P k).l.length) (hx : xs = cellsOf encI (nth P k).l) : FamP P (k + 1) (rs ++ [⟨ao, n, cap, xs⟩]) := by
  refine ⟨by rw [List.length_append, h.len]; rfl, fun i hi => ?_⟩
  rw [nth_snoc, h.len]
  split
  · rename_i e; subst e; exact ⟨hn, hx⟩
  · exact h.row i (by omega)
theorem vals_get52 {rs : List FRow} {i : Nat} (h : i < rs.length) : (rs.map FRow.val)[i * 1 + 0]? = some (FRow.val (nth rs i)) := by
  rw [Nat.mul_one, Nat.add_zero, List.getElem?_map, List.getElem?_eq_getElem h]
  unfold nth
  rw [List.getD_eq_getElem?_getD, List.getElem?_eq_getElem h]; rfl
def chgP (P : List (SliceV Int)) (i kk : Nat) (y : Int) (t : Nat) : List Int := if t = i then (nth P i).l.set kk (nth (nth P i).l kk + y) else (nth P t).l
structure FamC (P : List (SliceV Int)) (i kk : Nat) (y : Int) (rs : List FRow) : Prop where
  len : rs.length = P.length
  row : ∀ t, t < P.length → (nth rs t).n = (nth P t).l.length ∧ (nth rs t).xs = cellsOf encI (chgP P i kk y t)
theorem nth_setF {rs : List FRow} {i j : Nat} {r : FRow} (h : i < rs.length) : nth (rs.set i r) j = if i = j then r else nth rs j := nth_set h
theorem FamP.put {P : List (SliceV Int)} {k i kk : Nat} {y : Int} {rs : List FRow} {r : FRow} (h : FamP P k rs) (hk : k = P.length) (hi : i < k) (hn : r.n = (nth P i).l.length) (hx : r.xs = cellsOf encI ((nth P i).l.set kk (nth (nth P i).l kk + y))) : FamC P i kk y (rs.set i r) := by
  refine ⟨by rw [List.length_set, h.len, hk], fun t ht => ?_⟩
  rw [nth_setF (by rw [h.len]; exact hi)]
  by_cases e : i = t
  · subst e; rw [if_pos rfl, chgP, if_pos rfl]; exact ⟨hn, hx⟩
  · rw [if_neg e, chgP, if_neg (fun h => e h.symm)]; exact h.row t (by omega)
theorem vals_set {rs : List FRow} {i : Nat} {r : FRow} (h : i < rs.length) (hv : r.val = (nth rs i).val) : (rs.set i r).map FRow.val = rs.map FRow.val := by
  rw [List.map_set, hv]
  apply List.ext_getElem?
  intro j
  rw [List.getElem?_set]
  split
  · rename_i e
    subst e
    have := vals_get52 h
    rw [Nat.mul_one, Nat.add_zero] at this
    rw [if_pos (by simpa using h), this]
  · rfl
end Go.Proofs.Ytngkbnaehkailaa
