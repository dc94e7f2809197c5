import Derived.Test.YtipmdakhmpaemaaDoorProg
import Derived.Test.YtipmdakhmpaemaaDoorMore
import Derived.KernelRfl
namespace Go.Proofs.YtipmdakhmpaemaaDoor
open Go Eng
theorem sz3 : (Tryd.prog.info? 3).map (·.size) = some 1 := by kernel_rfl
theorem sz4 : (Tryd.prog.info? 4).map (·.size) = some 1 := by kernel_rfl
theorem sz9 : (Tryd.prog.info? 9).map (·.size) = some 1 := by kernel_rfl
theorem sz30 : (Tryd.prog.info? 30).map (·.size) = some 3 := by kernel_rfl
theorem sz31 : (Tryd.prog.info? 31).map (·.size) = some 1 := by kernel_rfl
theorem sz32 : (Tryd.prog.info? 32).map (·.size) = some 1 := by kernel_rfl
theorem sz34 : (Tryd.prog.info? 34).map (·.size) = some 10 := by kernel_rfl
theorem sz50 : (Tryd.prog.info? 50).map (·.size) = some 11 := by kernel_rfl
theorem sz54 : (Tryd.prog.info? 54).map (·.size) = some 2 := by kernel_rfl
theorem zero34 : (Tryd.prog.info? 34).map (·.zero) = some (some (.agg #[.int .i64 0, .string ⟨#[]⟩, .string ⟨#[]⟩, .string ⟨#[]⟩, .string ⟨#[]⟩, .slice none 0 0, .int .i64 0, .slice none 0 0, .int .i64 0, .int .i64 0])) := by kernel_rfl
theorem zero51 : (Tryd.prog.info? 51).map (·.zero) = some (some (.agg #[.bool false, .bool false, .bool false, .bool false, .bool false, .bool false, .bool false, .bool false, .bool false])) := by kernel_rfl
theorem bld34 : builder Tryd.prog 34 = some ([.int .i64 0, .string ⟨#[]⟩, .string ⟨#[]⟩, .string ⟨#[]⟩, .string ⟨#[]⟩, .slice none 0 0, .int .i64 0, .slice none 0 0, .int .i64 0, .int .i64 0], [(0, 1), (1, 1), (2, 3), (5, 1), (6, 1), (7, 1), (8, 1), (9, 1)]) := by kernel_rfl
theorem bld50 : builder Tryd.prog 50 = some ([.string ⟨#[]⟩, .int .i64 0, .int .i64 0, .string ⟨#[]⟩, .string ⟨#[]⟩, .int .i64 0, .int .i64 0, .string ⟨#[]⟩, .string ⟨#[]⟩, .int .i64 0, .int .i64 0], [(0, 8), (8, 1), (9, 1), (10, 1)]) := by kernel_rfl
theorem bld58 : builder Tryd.prog 58 = some ([.int .i64 0, .int .i64 0], [(0, 1), (1, 1)]) := by kernel_rfl
theorem flat30 : flatK Tryd.prog 30 = some [1, 1, 1] := by kernel_rfl
theorem flat54 : flatK Tryd.prog 54 = some [1, 0] := by kernel_rfl
theorem flat58 : flatK Tryd.prog 58 = some [0, 0] := by kernel_rfl
theorem deep50 : deepK Tryd.prog 50 = some [1, 0, 0, 1, 1, 0, 0, 1, 1, 0, 0] := by kernel_rfl
theorem elem9 : elemI Tryd.prog 9 = some (1, [.string ⟨#[]⟩], 16) := by kernel_rfl
theorem elem50 : elemI Tryd.prog 50 = some (11, [.string ⟨#[]⟩, .int .i64 0, .int .i64 0, .string ⟨#[]⟩, .string ⟨#[]⟩, .int .i64 0, .int .i64 0, .string ⟨#[]⟩, .string ⟨#[]⟩, .int .i64 0, .int .i64 0], 128) := by kernel_rfl
theorem callable8 : callable Tryd.prog 8 = true := by kernel_rfl
theorem callable9 : callable Tryd.prog 9 = true := by kernel_rfl
theorem callable10 : callable Tryd.prog 10 = true := by kernel_rfl
theorem callable11 : callable Tryd.prog 11 = true := by kernel_rfl
theorem callable12 : callable Tryd.prog 12 = true := by kernel_rfl
theorem callable13 : callable Tryd.prog 13 = true := by kernel_rfl
theorem callable14 : callable Tryd.prog 14 = true := by kernel_rfl
theorem callable15 : callable Tryd.prog 15 = true := by kernel_rfl
theorem callable16 : callable Tryd.prog 16 = true := by kernel_rfl
theorem callable17 : callable Tryd.prog 17 = true := by kernel_rfl
theorem callable18 : callable Tryd.prog 18 = true := by kernel_rfl
theorem callable19 : callable Tryd.prog 19 = true := by kernel_rfl
theorem callable20 : callable Tryd.prog 20 = true := by kernel_rfl
theorem callable21 : callable Tryd.prog 21 = true := by kernel_rfl
theorem callable22 : callable Tryd.prog 22 = true := by kernel_rfl
theorem callable23 : callable Tryd.prog 23 = true := by kernel_rfl
theorem callable24 : callable Tryd.prog 24 = true := by kernel_rfl
theorem callable25 : callable Tryd.prog 25 = true := by kernel_rfl
theorem callable26 : callable Tryd.prog 26 = true := by kernel_rfl
theorem callable27 : callable Tryd.prog 27 = true := by kernel_rfl
theorem callable28 : callable Tryd.prog 28 = true := by kernel_rfl
theorem callable29 : callable Tryd.prog 29 = true := by kernel_rfl

end Go.Proofs.YtipmdakhmpaemaaDoor
