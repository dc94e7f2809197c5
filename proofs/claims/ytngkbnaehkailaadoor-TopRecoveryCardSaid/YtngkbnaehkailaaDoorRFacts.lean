import Derived.Test.YtngkbnaehkailaaDoorFacts
namespace Go.Proofs.YtngkbnaehkailaaDoor
open Go Eng
theorem sz25 : (Tryd.prog.info? 25).map (·.size) = some 1 := by kernel_rfl
theorem sz27 : (Tryd.prog.info? 27).map (·.size) = some 3 := by kernel_rfl
theorem sz39 : (Tryd.prog.info? 39).map (·.size) = some 2 := by kernel_rfl
theorem zero27 : (Tryd.prog.info? 27).map (·.zero) = some (some (.agg #[.int .i64 0, .int .i64 0, .slice none 0 0])) := by kernel_rfl
theorem zero39 : (Tryd.prog.info? 39).map (·.zero) = some (some (.agg #[.int .i64 0, .int .i64 0])) := by kernel_rfl
theorem bld37 : builder Tryd.prog 37 = some ([.int .i64 0, .int .i64 0, .int .i64 0, .int .i64 0], [(0, 1), (1, 1), (2, 1), (3, 1)]) := by kernel_rfl
theorem elem23 : elemI Tryd.prog 23 = some (1, [.slice none 0 0], 24) := by kernel_rfl
theorem elem37 : elemI Tryd.prog 37 = some (4, [.int .i64 0, .int .i64 0, .int .i64 0, .int .i64 0], 32) := by kernel_rfl
theorem callable4 : callable Tryd.prog 4 = true := by kernel_rfl
theorem callable5 : callable Tryd.prog 5 = true := by kernel_rfl
theorem callable6 : callable Tryd.prog 6 = true := by kernel_rfl
theorem callable7 : callable Tryd.prog 7 = true := by kernel_rfl
theorem callable8 : callable Tryd.prog 8 = true := by kernel_rfl
theorem callable9 : callable Tryd.prog 9 = true := by kernel_rfl
theorem callable10 : callable Tryd.prog 10 = true := by kernel_rfl
theorem callable14 : callable Tryd.prog 14 = true := by kernel_rfl
theorem callable15 : callable Tryd.prog 15 = true := by kernel_rfl
end Go.Proofs.YtngkbnaehkailaaDoor
