import Derived.Test.YtngkbnaehkailaaFacts
namespace Go.Proofs.Ytngkbnaehkailaa
open Go Eng
theorem sz44 : (Try.prog.info? 44).map (·.size) = some 1 := by kernel_rfl
theorem sz53 : (Try.prog.info? 53).map (·.size) = some 1 := by kernel_rfl
theorem sz55 : (Try.prog.info? 55).map (·.size) = some 3 := by kernel_rfl
theorem sz77 : (Try.prog.info? 77).map (·.size) = some 2 := by kernel_rfl
theorem zero55 : (Try.prog.info? 55).map (·.zero) = some (some (.agg #[.int .i64 0, .int .i64 0, .slice none 0 0])) := by kernel_rfl
theorem zero77 : (Try.prog.info? 77).map (·.zero) = some (some (.agg #[.int .i64 0, .int .i64 0])) := by kernel_rfl
theorem bld55 : builder Try.prog 55 = some ([.int .i64 0, .int .i64 0, .slice none 0 0], [(0, 1), (1, 1), (2, 1)]) := by kernel_rfl
theorem bld77 : builder Try.prog 77 = some ([.int .i64 0, .int .i64 0], [(0, 1), (1, 1)]) := by kernel_rfl
theorem elem29 : elemI Try.prog 29 = some (1, [.slice none 0 0], 24) := by kernel_rfl
theorem elem44 : elemI Try.prog 44 = some (1, [.slice none 0 0], 24) := by kernel_rfl
theorem elem55 : elemI Try.prog 55 = some (3, [.int .i64 0, .int .i64 0, .slice none 0 0], 40) := by kernel_rfl
theorem elem77 : elemI Try.prog 77 = some (2, [.int .i64 0, .int .i64 0], 16) := by kernel_rfl
theorem callable25 : callable Try.prog 25 = true := by kernel_rfl
theorem callable26 : callable Try.prog 26 = true := by kernel_rfl
theorem callable27 : callable Try.prog 27 = true := by kernel_rfl
theorem callable28 : callable Try.prog 28 = true := by kernel_rfl
theorem callable29 : callable Try.prog 29 = true := by kernel_rfl
theorem callable30 : callable Try.prog 30 = true := by kernel_rfl
theorem callable31 : callable Try.prog 31 = true := by kernel_rfl
theorem callable32 : callable Try.prog 32 = true := by kernel_rfl
theorem callable34 : callable Try.prog 34 = true := by kernel_rfl
theorem callable48 : callable Try.prog 48 = true := by kernel_rfl
theorem callable49 : callable Try.prog 49 = true := by kernel_rfl
theorem callable50 : callable Try.prog 50 = true := by kernel_rfl
theorem callable51 : callable Try.prog 51 = true := by kernel_rfl
end Go.Proofs.Ytngkbnaehkailaa
