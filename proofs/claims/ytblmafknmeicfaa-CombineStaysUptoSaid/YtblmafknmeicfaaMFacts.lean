import Derived.Test.YtblmafknmeicfaaFacts
namespace Go.Proofs.Ytblmafknmeicfaa
open Go Eng
theorem sz24 : (Try.prog.info? 24).map (·.size) = some 1 := by kernel_rfl
theorem sz28 : (Try.prog.info? 28).map (·.size) = some 1 := by kernel_rfl
theorem sz31 : (Try.prog.info? 31).map (·.size) = some 1 := by kernel_rfl
theorem sz37 : (Try.prog.info? 37).map (·.size) = some 1 := by kernel_rfl
theorem sz45 : (Try.prog.info? 45).map (·.size) = some 1 := by kernel_rfl
theorem sz67 : (Try.prog.info? 67).map (·.size) = some 1 := by kernel_rfl
theorem sz69 : (Try.prog.info? 69).map (·.size) = some 3 := by kernel_rfl
theorem sz70 : (Try.prog.info? 70).map (·.size) = some 1 := by kernel_rfl
theorem sz74 : (Try.prog.info? 74).map (·.size) = some 1 := by kernel_rfl
theorem sz93 : (Try.prog.info? 93).map (·.size) = some 2 := by kernel_rfl
theorem sz97 : (Try.prog.info? 97).map (·.size) = some 1 := by kernel_rfl
theorem sz99 : (Try.prog.info? 99).map (·.size) = some 3 := by kernel_rfl
theorem sz117 : (Try.prog.info? 117).map (·.size) = some 3 := by kernel_rfl
theorem sz127 : (Try.prog.info? 127).map (·.size) = some 2 := by kernel_rfl
theorem sz137 : (Try.prog.info? 137).map (·.size) = some 2 := by kernel_rfl
theorem zero99 : (Try.prog.info? 99).map (·.zero) = some (some (.agg #[.int .i64 0, .slice none 0 0, .int .i64 0])) := by kernel_rfl
theorem zero117 : (Try.prog.info? 117).map (·.zero) = some (some (.agg #[.string ⟨#[]⟩, .string ⟨#[]⟩, .int .i64 0])) := by kernel_rfl
theorem zero127 : (Try.prog.info? 127).map (·.zero) = some (some (.agg #[.string ⟨#[]⟩, .string ⟨#[]⟩])) := by kernel_rfl
theorem bld69 : builder Try.prog 69 = some ([.int .i64 0, .int .i64 0, .int .i64 0], [(0, 1), (1, 1), (2, 1)]) := by kernel_rfl
theorem bld93 : builder Try.prog 93 = some ([.int .i64 0, .string ⟨#[]⟩], [(0, 1), (1, 1)]) := by kernel_rfl
theorem bld99 : builder Try.prog 99 = some ([.int .i64 0, .slice none 0 0, .int .i64 0], [(0, 1), (1, 1), (2, 1)]) := by kernel_rfl
theorem flat69 : flatK Try.prog 69 = some [0, 0, 0] := by kernel_rfl
theorem elem31 : elemI Try.prog 31 = some (1, [.int .i64 0], 8) := by kernel_rfl
theorem elem93 : elemI Try.prog 93 = some (2, [.int .i64 0, .string ⟨#[]⟩], 24) := by kernel_rfl
theorem callable11 : callable Try.prog 11 = true := by kernel_rfl
theorem callable13 : callable Try.prog 13 = true := by kernel_rfl
theorem callable15 : callable Try.prog 15 = true := by kernel_rfl
theorem callable17 : callable Try.prog 17 = true := by kernel_rfl
theorem callable24 : callable Try.prog 24 = true := by kernel_rfl
theorem callable25 : callable Try.prog 25 = true := by kernel_rfl
theorem callable28 : callable Try.prog 28 = true := by kernel_rfl
theorem callable29 : callable Try.prog 29 = true := by kernel_rfl
theorem callable32 : callable Try.prog 32 = true := by kernel_rfl
theorem callable34 : callable Try.prog 34 = true := by kernel_rfl
theorem callable36 : callable Try.prog 36 = true := by kernel_rfl
theorem callable37 : callable Try.prog 37 = true := by kernel_rfl
theorem callable38 : callable Try.prog 38 = true := by kernel_rfl
theorem callable39 : callable Try.prog 39 = true := by kernel_rfl
theorem callable40 : callable Try.prog 40 = true := by kernel_rfl
theorem callable41 : callable Try.prog 41 = true := by kernel_rfl
theorem callable42 : callable Try.prog 42 = true := by kernel_rfl
theorem callable46 : callable Try.prog 46 = true := by kernel_rfl
theorem callable47 : callable Try.prog 47 = true := by kernel_rfl
theorem callable51 : callable Try.prog 51 = true := by kernel_rfl
theorem callable52 : callable Try.prog 52 = true := by kernel_rfl
theorem callable53 : callable Try.prog 53 = true := by kernel_rfl
theorem callable54 : callable Try.prog 54 = true := by kernel_rfl
theorem callable55 : callable Try.prog 55 = true := by kernel_rfl
theorem callable56 : callable Try.prog 56 = true := by kernel_rfl
theorem callable57 : callable Try.prog 57 = true := by kernel_rfl
theorem callable58 : callable Try.prog 58 = true := by kernel_rfl
theorem callable59 : callable Try.prog 59 = true := by kernel_rfl
theorem callable60 : callable Try.prog 60 = true := by kernel_rfl
theorem callable61 : callable Try.prog 61 = true := by kernel_rfl
theorem callable62 : callable Try.prog 62 = true := by kernel_rfl
theorem callable63 : callable Try.prog 63 = true := by kernel_rfl
theorem callable64 : callable Try.prog 64 = true := by kernel_rfl
theorem callable65 : callable Try.prog 65 = true := by kernel_rfl
theorem callable66 : callable Try.prog 66 = true := by kernel_rfl
theorem callable67 : callable Try.prog 67 = true := by kernel_rfl
theorem callable70 : callable Try.prog 70 = true := by kernel_rfl
theorem callable71 : callable Try.prog 71 = true := by kernel_rfl
theorem callable72 : callable Try.prog 72 = true := by kernel_rfl
theorem callable73 : callable Try.prog 73 = true := by kernel_rfl
theorem callable74 : callable Try.prog 74 = true := by kernel_rfl
theorem callable75 : callable Try.prog 75 = true := by kernel_rfl
theorem callable76 : callable Try.prog 76 = true := by kernel_rfl
theorem callable77 : callable Try.prog 77 = true := by kernel_rfl
theorem callable78 : callable Try.prog 78 = true := by kernel_rfl
theorem callable79 : callable Try.prog 79 = true := by kernel_rfl
theorem callable80 : callable Try.prog 80 = true := by kernel_rfl
theorem callable81 : callable Try.prog 81 = true := by kernel_rfl
theorem callable82 : callable Try.prog 82 = true := by kernel_rfl
theorem callable83 : callable Try.prog 83 = true := by kernel_rfl
theorem callable84 : callable Try.prog 84 = true := by kernel_rfl
theorem callable85 : callable Try.prog 85 = true := by kernel_rfl
theorem callable86 : callable Try.prog 86 = true := by kernel_rfl
theorem callable87 : callable Try.prog 87 = true := by kernel_rfl
theorem callable88 : callable Try.prog 88 = true := by kernel_rfl
theorem callable89 : callable Try.prog 89 = true := by kernel_rfl
theorem callable90 : callable Try.prog 90 = true := by kernel_rfl
end Go.Proofs.Ytblmafknmeicfaa
