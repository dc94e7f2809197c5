import Derived.Test.YtmnhdiblkjmmfaaProg
import Derived.Test.YtmnhdiblkjmmfaaObj
import Derived.KernelRfl
namespace Go.Proofs.Ytmnhdiblkjmmfaa
open Go Eng
theorem sz3 : (Try.prog.info? 3).map (·.size) = some 1 := by kernel_rfl
theorem sz4 : (Try.prog.info? 4).map (·.size) = some 1 := by kernel_rfl
theorem sz5 : (Try.prog.info? 5).map (·.size) = some 1 := by kernel_rfl
theorem sz9 : (Try.prog.info? 9).map (·.size) = some 1 := by kernel_rfl
theorem sz24 : (Try.prog.info? 24).map (·.size) = some 1 := by kernel_rfl
theorem sz32 : (Try.prog.info? 32).map (·.size) = some 4 := by kernel_rfl
theorem sz34 : (Try.prog.info? 34).map (·.size) = some 5 := by kernel_rfl
theorem sz39 : (Try.prog.info? 39).map (·.size) = some 1 := by kernel_rfl
theorem sz43 : (Try.prog.info? 43).map (·.size) = some 1 := by kernel_rfl
theorem sz49 : (Try.prog.info? 49).map (·.size) = some 1 := by kernel_rfl
theorem zero32 : (Try.prog.info? 32).map (·.zero) = some (some (.agg #[.int .i64 0, .int .i64 0, .int .i64 0, .string ⟨#[]⟩])) := by kernel_rfl
theorem bld32 : builder Try.prog 32 = some ([.int .i64 0, .int .i64 0, .int .i64 0, .string ⟨#[]⟩], [(0, 1), (1, 1), (2, 1), (3, 1)]) := by kernel_rfl
theorem bld57 : builder Try.prog 57 = some ([.int .i64 0, .int .i64 0, .int .i64 0, .slice none 0 0], [(0, 1), (1, 1), (2, 1), (3, 1)]) := by kernel_rfl
theorem bld60 : builder Try.prog 60 = some ([.slice none 0 0, .bool false], [(0, 1), (1, 1)]) := by kernel_rfl
theorem bld64 : builder Try.prog 64 = some ([.int .i64 0, .slice none 0 0, .int .i64 0], [(0, 1), (1, 1), (2, 1)]) := by kernel_rfl
theorem bld69 : builder Try.prog 69 = some ([.slice none 0 0], [(0, 1)]) := by kernel_rfl
theorem flat32 : flatK Try.prog 32 = some [0, 0, 0, 1] := by kernel_rfl
theorem elem9 : elemI Try.prog 9 = some (1, [.string ⟨#[]⟩], 16) := by kernel_rfl
theorem elem24 : elemI Try.prog 24 = some (1, [.pointer none], 8) := by kernel_rfl
theorem elem32 : elemI Try.prog 32 = some (4, [.int .i64 0, .int .i64 0, .int .i64 0, .string ⟨#[]⟩], 40) := by kernel_rfl
theorem elem43 : elemI Try.prog 43 = some (1, [.pointer none], 8) := by kernel_rfl
theorem callable7 : callable Try.prog 7 = true := by kernel_rfl
theorem callable8 : callable Try.prog 8 = true := by kernel_rfl
theorem callable9 : callable Try.prog 9 = true := by kernel_rfl
theorem callable10 : callable Try.prog 10 = true := by kernel_rfl
theorem callable11 : callable Try.prog 11 = true := by kernel_rfl
theorem callable12 : callable Try.prog 12 = true := by kernel_rfl
theorem callable13 : callable Try.prog 13 = true := by kernel_rfl
theorem callable14 : callable Try.prog 14 = true := by kernel_rfl
theorem callable15 : callable Try.prog 15 = true := by kernel_rfl
theorem callable16 : callable Try.prog 16 = true := by kernel_rfl
theorem callable17 : callable Try.prog 17 = true := by kernel_rfl
theorem callable18 : callable Try.prog 18 = true := by kernel_rfl
theorem callable19 : callable Try.prog 19 = true := by kernel_rfl
theorem callable20 : callable Try.prog 20 = true := by kernel_rfl
theorem callable21 : callable Try.prog 21 = true := by kernel_rfl
theorem callable22 : callable Try.prog 22 = true := by kernel_rfl
theorem callable23 : callable Try.prog 23 = true := by kernel_rfl
theorem callable24 : callable Try.prog 24 = true := by kernel_rfl
theorem callable25 : callable Try.prog 25 = true := by kernel_rfl
theorem callable26 : callable Try.prog 26 = true := by kernel_rfl
theorem callable27 : callable Try.prog 27 = true := by kernel_rfl
theorem callable28 : callable Try.prog 28 = true := by kernel_rfl
theorem callable29 : callable Try.prog 29 = true := by kernel_rfl
theorem callable30 : callable Try.prog 30 = true := by kernel_rfl
theorem callable31 : callable Try.prog 31 = true := by kernel_rfl
theorem callable32 : callable Try.prog 32 = true := by kernel_rfl
theorem callable33 : callable Try.prog 33 = true := by kernel_rfl
theorem callable34 : callable Try.prog 34 = true := by kernel_rfl
theorem callable50 : callable Try.prog 50 = true := by kernel_rfl
theorem callable52 : callable Try.prog 52 = true := by kernel_rfl

end Go.Proofs.Ytmnhdiblkjmmfaa
