/-
  A slice among the arguments of which nothing but its head is read. Of no program.
-/
import Derived.Test.YtblmafknmeicfaaReadA
namespace Go.Proofs.Ytblmafknmeicfaa.Eng
open Go Go.RowKit Go.ChangeShapes Go.WideShapes Go.Deep
variable {P : Program}
theorem Reads.sealed {t e : TypeId} (hu : P.underlying t = some (.slice e)) : Reads P t (encSl (α := Unit)) (fun _ _ => True) := by
  intro H en w sp hd fuel cs y h
  rcases open_slice hu h with ⟨rfl, _⟩ | ⟨a, len, cap, m, n, D, Pl, rfl, _⟩
  · exact ⟨⟨none, 0, []⟩, rfl, trivial⟩
  · exact ⟨⟨some a, cap, List.replicate len ()⟩, by simp [encSl], trivial⟩
theorem AoOk.any {w0 : World} {H : Heap} {sz : Nat} {ao : Option Addr} {n cap : Nat} {F : Nat → Nat → Value} (h : ∀ w, HeapOk w0 H w → SliceIn w sz ao n cap F) : AoOk w0 H ao n := fun w hw => (h w hw).there
theorem CellIs.any {w0 : World} {H : Heap} {sz : Nat} {ao : Option Addr} {n cap : Nat} {F : Nat → Nat → Value} (h : ∀ w, HeapOk w0 H w → SliceIn w sz ao n cap F) (i j : Nat) (hi : i < n) (hj : j < sz) : CellIs w0 H ⟨blk ao, off ao + i * sz + j, none⟩ (F i j) := fun w hw => (h w hw).cell i hi j hj
end Go.Proofs.Ytblmafknmeicfaa.Eng
