import Derived.Test.YthbgnjengkjigaaProg
import Derived.Test.YthbgnjengkjigaaObj
import Derived.KernelRfl
namespace Go.Proofs.Ythbgnjengkjigaa
open Go Eng
theorem sz3 : (Try.prog.info? 3).map (·.size) = some 1 := by kernel_rfl
theorem sz4 : (Try.prog.info? 4).map (·.size) = some 1 := by kernel_rfl
theorem sz22 : (Try.prog.info? 22).map (·.size) = some 1 := by kernel_rfl
theorem sz23 : (Try.prog.info? 23).map (·.size) = some 1 := by kernel_rfl
theorem sz36 : (Try.prog.info? 36).map (·.size) = some 3 := by kernel_rfl
theorem sz38 : (Try.prog.info? 38).map (·.size) = some 1 := by kernel_rfl
theorem sz42 : (Try.prog.info? 42).map (·.size) = some 1 := by kernel_rfl
theorem sz47 : (Try.prog.info? 47).map (·.size) = some 3 := by kernel_rfl
theorem zero36 : (Try.prog.info? 36).map (·.zero) = some (some (.agg #[.int .i64 0, .int .i64 0, .int .i64 0])) := by kernel_rfl
theorem zero44 : (Try.prog.info? 44).map (·.zero) = some (some (.agg #[.bool false, .bool false, .slice none 0 0, .slice none 0 0, .slice none 0 0, .slice none 0 0])) := by kernel_rfl
theorem zero47 : (Try.prog.info? 47).map (·.zero) = some (some (.agg #[.int .i64 0, .int .i64 0, .int .i64 0])) := by kernel_rfl
theorem bld44 : builder Try.prog 44 = some ([.bool false, .bool false, .slice none 0 0, .slice none 0 0, .slice none 0 0, .slice none 0 0], [(0, 1), (1, 1), (2, 1), (3, 1), (4, 1), (5, 1)]) := by kernel_rfl
theorem bld47 : builder Try.prog 47 = some ([.int .i64 0, .int .i64 0, .int .i64 0], [(0, 1), (1, 1), (2, 1)]) := by kernel_rfl
theorem bld59 : builder Try.prog 59 = some ([.slice none 0 0, .slice none 0 0, .slice none 0 0, .slice none 0 0, .bool false, .bool false], [(0, 1), (1, 1), (2, 1), (3, 1), (4, 1), (5, 1)]) := by kernel_rfl
theorem flat47 : flatK Try.prog 47 = some [0, 0, 0] := by kernel_rfl
theorem elem3 : elemI Try.prog 3 = some (1, [.int .i64 0], 8) := by kernel_rfl
theorem elem4 : elemI Try.prog 4 = some (1, [.bool false], 1) := by kernel_rfl
theorem elem23 : elemI Try.prog 23 = some (1, [.pointer none], 8) := by kernel_rfl
theorem elem47 : elemI Try.prog 47 = some (3, [.int .i64 0, .int .i64 0, .int .i64 0], 24) := by kernel_rfl
theorem callable7 : callable Try.prog 7 = true := by kernel_rfl
theorem callable8 : callable Try.prog 8 = true := by kernel_rfl
theorem callable9 : callable Try.prog 9 = true := by kernel_rfl
theorem callable10 : callable Try.prog 10 = true := by kernel_rfl
theorem callable11 : callable Try.prog 11 = true := by kernel_rfl
theorem callable12 : callable Try.prog 12 = true := by kernel_rfl
theorem callable13 : callable Try.prog 13 = true := by kernel_rfl
theorem callable14 : callable Try.prog 14 = true := by kernel_rfl
theorem callable15 : callable Try.prog 15 = true := by kernel_rfl
theorem callable16 : callable Try.prog 16 = true := by kernel_rfl
theorem callable17 : callable Try.prog 17 = true := by kernel_rfl
theorem callable18 : callable Try.prog 18 = true := by kernel_rfl
theorem callable19 : callable Try.prog 19 = true := by kernel_rfl
theorem callable20 : callable Try.prog 20 = true := by kernel_rfl
theorem callable21 : callable Try.prog 21 = true := by kernel_rfl
theorem callable22 : callable Try.prog 22 = true := by kernel_rfl
theorem callable23 : callable Try.prog 23 = true := by kernel_rfl
theorem callable24 : callable Try.prog 24 = true := by kernel_rfl
theorem callable25 : callable Try.prog 25 = true := by kernel_rfl
theorem callable26 : callable Try.prog 26 = true := by kernel_rfl
theorem callable27 : callable Try.prog 27 = true := by kernel_rfl
theorem callable28 : callable Try.prog 28 = true := by kernel_rfl
theorem callable29 : callable Try.prog 29 = true := by kernel_rfl
theorem callable30 : callable Try.prog 30 = true := by kernel_rfl
theorem callable31 : callable Try.prog 31 = true := by kernel_rfl
theorem callable32 : callable Try.prog 32 = true := by kernel_rfl
theorem callable33 : callable Try.prog 33 = true := by kernel_rfl
theorem callable34 : callable Try.prog 34 = true := by kernel_rfl
theorem callable35 : callable Try.prog 35 = true := by kernel_rfl
theorem callable36 : callable Try.prog 36 = true := by kernel_rfl
theorem callable37 : callable Try.prog 37 = true := by kernel_rfl
theorem callable38 : callable Try.prog 38 = true := by kernel_rfl
theorem callable39 : callable Try.prog 39 = true := by kernel_rfl
theorem callable40 : callable Try.prog 40 = true := by kernel_rfl
theorem callable41 : callable Try.prog 41 = true := by kernel_rfl
theorem callable42 : callable Try.prog 42 = true := by kernel_rfl
theorem callable43 : callable Try.prog 43 = true := by kernel_rfl
theorem callable44 : callable Try.prog 44 = true := by kernel_rfl
theorem callable45 : callable Try.prog 45 = true := by kernel_rfl
theorem callable46 : callable Try.prog 46 = true := by kernel_rfl

end Go.Proofs.Ythbgnjengkjigaa
