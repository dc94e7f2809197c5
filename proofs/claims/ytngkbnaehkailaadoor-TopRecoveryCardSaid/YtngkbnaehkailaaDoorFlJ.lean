import Derived.Test.YtngkbnaehkailaaDoorFlI
namespace Go.Proofs.YtngkbnaehkailaaDoor
open Go Go.RowKit Eng
set_option linter.unusedVariables false
set_option linter.unusedSimpArgs false

abbrev dia : List Ed := [(0, 1, 2, 1), (1, 3, 2, 1), (0, 2, 2, 5), (2, 3, 1, 5)]
theorem dia_solve : slv dia 4 0 3 9 5 (List.replicate 4 0) 0 0 = some ([2, 2, 1, 1], 3, 14) := by kernel_rfl
theorem dia_v1 : validR 4 dia 0 3 [2, 2, 1, 1] = (3, 14, 0) := by kernel_rfl
theorem dia_v2 : validR 4 dia 0 3 [2, 1, 1, 1] = (0, 0, 35) := by kernel_rfl
theorem dia_p : pricesF 4 dia [2, 2, 1, 1] = ([-10, -1, -5, 0], true) := by kernel_rfl
theorem dia_pr : provesB 4 dia [2, 2, 1, 1] [-10, -1, -5, 0] = true := by kernel_rfl
theorem dia_c : checkE 4 dia 0 3 = 0 := by kernel_rfl
theorem dia_c0 : checkE 4 dia 0 0 = 2 := by kernel_rfl
end Go.Proofs.YtngkbnaehkailaaDoor
