import Derived.Test.YtngkbnaehkailaaDoorProg
import Derived.Test.YtngkbnaehkailaaDoorObj
import Derived.KernelRfl
namespace Go.Proofs.YtngkbnaehkailaaDoor
open Go Eng
theorem sz3 : (Tryd.prog.info? 3).map (·.size) = some 1 := by kernel_rfl
theorem sz23 : (Tryd.prog.info? 23).map (·.size) = some 1 := by kernel_rfl
theorem sz35 : (Tryd.prog.info? 35).map (·.size) = some 1 := by kernel_rfl
theorem sz37 : (Tryd.prog.info? 37).map (·.size) = some 4 := by kernel_rfl
theorem sz58 : (Tryd.prog.info? 58).map (·.size) = some 4 := by kernel_rfl
theorem sz69 : (Tryd.prog.info? 69).map (·.size) = some 1 := by kernel_rfl
theorem sz70 : (Tryd.prog.info? 70).map (·.size) = some 2 := by kernel_rfl
theorem zero37 : (Tryd.prog.info? 37).map (·.zero) = some (some (.agg #[.int .i64 0, .int .i64 0, .int .i64 0, .int .i64 0])) := by kernel_rfl
theorem zero58 : (Tryd.prog.info? 58).map (·.zero) = some (some (.agg #[.slice none 0 0, .slice none 0 0, .slice none 0 0, .slice none 0 0])) := by kernel_rfl
theorem zero70 : (Tryd.prog.info? 70).map (·.zero) = some (some (.agg #[.nilFunc, .nilFunc])) := by kernel_rfl
theorem bld58 : builder Tryd.prog 58 = some ([.slice none 0 0, .slice none 0 0, .slice none 0 0, .slice none 0 0], [(0, 1), (1, 1), (2, 1), (3, 1)]) := by kernel_rfl
theorem bld70 : builder Tryd.prog 70 = some ([.nilFunc, .nilFunc], [(0, 1), (1, 1)]) := by kernel_rfl
theorem elem3 : elemI Tryd.prog 3 = some (1, [.int .i64 0], 8) := by kernel_rfl
theorem callable16 : callable Tryd.prog 16 = true := by kernel_rfl
theorem callable17 : callable Tryd.prog 17 = true := by kernel_rfl
theorem callable18 : callable Tryd.prog 18 = true := by kernel_rfl
theorem callable19 : callable Tryd.prog 19 = true := by kernel_rfl
theorem callable24 : callable Tryd.prog 24 = true := by kernel_rfl
theorem callable25 : callable Tryd.prog 25 = true := by kernel_rfl
theorem callable26 : callable Tryd.prog 26 = true := by kernel_rfl
theorem callable27 : callable Tryd.prog 27 = true := by kernel_rfl

end Go.Proofs.YtngkbnaehkailaaDoor
