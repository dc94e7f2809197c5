import Derived.Test.YtngkbnaehkailaaRsG
namespace Go.Proofs.Ytngkbnaehkailaa
open Go Go.RowKit Eng
set_option linter.unusedVariables false
set_option linter.unusedSimpArgs false

theorem u64w {m : Nat} (h : m ≤ 1000000) : IntKind.u64.wrap (m : Int) = (m : Int) := by
  have : (m : Int) % 18446744073709551616 = (m : Int) := Int.emod_eq_of_lt (by omega) (by omega)
  simpa [IntKind.wrap, IntKind.signed, IntKind.bits] using this
abbrev rix (o : Int) (m : Nat) : Int := IntKind.i64.wrap ((IntKind.u64.wrap o).tmod (IntKind.u64.wrap (m : Int)))
theorem rix_bd {o : Int} {m : Nat} (h0 : 0 < m) (h1 : m ≤ 1000000) : 0 ≤ rix o m ∧ rix o m < m := by
  have hu : IntKind.u64.wrap (m : Int) = (m : Int) := by
    have : (m : Int) % 18446744073709551616 = (m : Int) := Int.emod_eq_of_lt (by omega) (by omega)
    simpa [IntKind.wrap, IntKind.signed, IntKind.bits] using this
  have hn : 0 ≤ IntKind.u64.wrap o := by
    have : 0 ≤ o % 18446744073709551616 := Int.emod_nonneg _ (by decide)
    simpa [IntKind.wrap, IntKind.signed, IntKind.bits] using this
  have h2 : 0 ≤ (IntKind.u64.wrap o).tmod (m : Int) ∧ (IntKind.u64.wrap o).tmod (m : Int) < m := by
    rw [Int.tmod_eq_emod_of_nonneg hn]
    exact ⟨Int.emod_nonneg _ (by omega), Int.emod_lt_of_pos _ (by omega)⟩
  have h3 : IntKind.i64.wrap ((IntKind.u64.wrap o).tmod (m : Int)) = (IntKind.u64.wrap o).tmod (m : Int) := by
    have h4 := IntWalk.wrap64_in ((IntKind.u64.wrap o).tmod (m : Int)) (by omega)
    rw [← IntWalk.i64_left] at h4
    exact h4
  unfold rix
  rw [hu, h3]
  exact h2
theorem plan_num {l : List Pa} {c : List Int} {P : List (SliceV Int)} (hp : PlanOk l c P) (hok : PaOk l c) {i j : Nat} (hi : i < l.length) (hj : j < (nth l i).2.2.l.length) : 0 ≤ nth (nth P i).l j ∧ nth (nth P i).l j ≤ 99 := by
  have hc := hok.cnt i hi
  have h0 := hp.pos i hi j hj
  have h1 := (sumIn_ge (x := nth l i) (p := (nth P i).l) (nth l i).2.2.l.length (fun j hj => (pn_bd hc (hp.pos i hi j hj)).1)).2 j hj
  have h2 := hp.sum i hi
  unfold pn at h1
  omega
theorem planC_rlen {P : List (SliceV Int)} {i kk : Nat} {y : Int} {rs : List FRow} {t : Nat} (h : t < P.length) : (nth (planC P i kk y rs) t).l.length = (nth P t).l.length := by
  rw [planC_nth h]; exact chgP_len
theorem planC_num {P : List (SliceV Int)} {i kk : Nat} {y : Int} {rs : List FRow} {t j : Nat} (ht : t < P.length) (hy : -1 ≤ y ∧ y ≤ 1) (hkk : kk < (nth P i).l.length) (h : 0 ≤ nth (nth P t).l j ∧ nth (nth P t).l j ≤ 99) : -1000000 ≤ nth (nth (planC P i kk y rs) t).l j ∧ nth (nth (planC P i kk y rs) t).l j ≤ 1000000 := by
  rw [planC_nth ht]
  dsimp only
  unfold chgP
  split
  · rename_i e
    subst e
    rw [nth_set hkk]
    split
    · rename_i e; subst e; omega
    · omega
  · omega
end Go.Proofs.Ytngkbnaehkailaa
