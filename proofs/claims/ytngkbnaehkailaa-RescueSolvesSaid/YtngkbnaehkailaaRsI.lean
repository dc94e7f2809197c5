import Derived.Test.YtngkbnaehkailaaRsH
import Derived.Test.YtngkbnaehkailaaRTypes
import Derived.Test.YtngkbnaehkailaaSized
namespace Go.Proofs.Ytngkbnaehkailaa
open Go Go.RowKit Eng
set_option linter.unusedVariables false
set_option linter.unusedSimpArgs false

theorem way_wt : Wt Try.prog 55 (fun cs => ∀ ao n cap, (cs.drop 2).take 1 = [.slice ao n cap] → n * 16 ≤ reachBytes) := by
  have h : Wt Try.prog 55 (fun cs => ∀ ao n cap, (cs.drop 2).take (Try.prog.cellsOf 53) = [.slice ao n cap] → n * 16 ≤ reachBytes) := Wt.field (P := Try.prog) Try.underlying55 2 _ rfl (Wt.slice Try.underlying53 (b := 16) (by kernel_rfl))
  rw [co53] at h
  exact h
theorem wayS_lin {l : List Pa} {b : Nat} : ∀ i, (∀ k, k < i → (nth l k).2.2.l.length ≤ b) → wayS l i ≤ i * b
  | 0, _ => by simp [wayS]
  | i + 1, h => by
    have h1 := wayS_lin i (fun k hk => h k (by omega))
    have h2 := h i (by omega)
    rw [wayS, Nat.succ_mul]; omega
theorem small52 {H : Type} {en : TypeId × Value → H} {w : World} {sp : Nat → Bool} {hd : Bool} {x : SliceV Pa} {d : DataW H} {p : List MemPlace} {c : List Int} (h : DataW.Trod en Try.prog w 0 sp hd 43 x.val d p) (hin : SliceV.In 3 enc55 w x) (hw : ∀ n ∈ d.weights Try.prog 43, n ≤ reachBytes) (hck : rchk x.l c = 0) : wayS x.l x.l.length ≤ 1024 := by
  refine wayS_le hck ?_
  have h1 := (PaOk.of hck).nl
  have h2 : wayS x.l x.l.length ≤ x.l.length * 8796093022208 := wayS_lin _ fun k hk => by
    have := Wt.rows Try.underlying43 co55 (by decide) enc55_len way_wt h hin hw k hk _ _ _ rfl
    have e : reachBytes = 140737488351232 := rfl
    omega
  have h3 : x.l.length * 8796093022208 ≤ 60 * 8796093022208 := Nat.mul_le_mul_right _ h1
  omega
end Go.Proofs.Ytngkbnaehkailaa
