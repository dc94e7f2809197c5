/- How the arguments read. -/
import Derived.Test.YtdiegelbpdknaaaRead
import Derived.Test.YtdiegelbpdknaaaProg
namespace Go.Proofs.Ytdiegelbpdknaaa
open Go Go.RowKit Eng
theorem co3 : Try.prog.cellsOf 3 = 1 := by kernel_rfl
end Go.Proofs.Ytdiegelbpdknaaa
