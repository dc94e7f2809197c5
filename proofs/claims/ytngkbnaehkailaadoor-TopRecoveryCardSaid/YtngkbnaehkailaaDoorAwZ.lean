import Derived.Test.YtngkbnaehkailaaDoorRFacts
import Derived.Test.YtngkbnaehkailaaDoorAny
import Derived.Test.YtngkbnaehkailaaDoorStr
import Derived.Test.YtngkbnaehkailaaDoorAwC
namespace Go.Proofs.YtngkbnaehkailaaDoor
open Go Go.RowKit Eng
set_option linter.unusedVariables false
set_option linter.unusedSimpArgs false

def lengthsL : List Int := [31, 28, 31, 30, 31, 30, 31, 31, 30, 31, 30, 31]
def LenIn (w : World) : Prop := ∀ j, j < 12 → w.cell? ⟨0, j, none⟩ = some (.int .i64 (nth lengthsL j))
theorem LenIn.below {w w' : World} (h : LenIn w) (hb : Below w.heap.size w w') : LenIn w' := fun j hj => by
  have hc := h j hj
  rw [hb.cell (World.block_lt_of_cell? w _ hc)]; exact hc
theorem awake_ok (w0 : World) (hT : LenIn w0) : FnC Tryd.prog 4 [] w0 fun v w' => v = .bool true :=
  (awake_calls w0 (hT 0 (by decide))).mono fun e w' ⟨h1, h2⟩ => ⟨_, h1, h2, rfl⟩
end Go.Proofs.YtngkbnaehkailaaDoor
