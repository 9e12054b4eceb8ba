/-
  Part D of this proof: TyA, Dat, R95, LibA.
-/
import Derived.Test.YtjlibainifpbaaaGreatDoorB
import Derived.Test.YtjlibainifpbaaaGreatDoorProg
import Derived.KernelRfl
import Derived.Test.YtjlibainifpbaaaGreatDoorC
import Derived.Test.YtjlibainifpbaaaGreatDoorShelf
namespace Go.Ab.Tz
open Go.Proofs
noncomputable abbrev P := Tryz.prog
@[simp] theorem kd2 : kindOf P 2 = some (false, 1) := by kernel_rfl
@[simp] theorem si2 : (P.info? 2).map (·.size) = some 1 := by kernel_rfl
@[simp] theorem un2 : P.underlying 2 = some (.int .i64) := by kernel_rfl
@[simp] theorem ze2 : zeroOf P 2 = some [.int .i64 0] := by kernel_rfl
@[simp] theorem kd3 : kindOf P 3 = some (false, 1) := by kernel_rfl
@[simp] theorem si3 : (P.info? 3).map (·.size) = some 1 := by kernel_rfl
@[simp] theorem un3 : P.underlying 3 = some (.int .i64) := by kernel_rfl
@[simp] theorem ze3 : zeroOf P 3 = some [.int .i64 0] := by kernel_rfl
@[simp] theorem kd4 : kindOf P 4 = some (false, 1) := by kernel_rfl
@[simp] theorem si4 : (P.info? 4).map (·.size) = some 1 := by kernel_rfl
@[simp] theorem un4 : P.underlying 4 = some .bool := by kernel_rfl
@[simp] theorem ze4 : zeroOf P 4 = some [.bool false] := by kernel_rfl
@[simp] theorem kd5 : kindOf P 5 = some (false, 1) := by kernel_rfl
@[simp] theorem si5 : (P.info? 5).map (·.size) = some 1 := by kernel_rfl
@[simp] theorem un5 : P.underlying 5 = some (.int .u8) := by kernel_rfl
@[simp] theorem ze5 : zeroOf P 5 = some [.int .u8 0] := by kernel_rfl
@[simp] theorem kd9 : kindOf P 9 = some (false, 1) := by kernel_rfl
@[simp] theorem si9 : (P.info? 9).map (·.size) = some 1 := by kernel_rfl
@[simp] theorem un9 : P.underlying 9 = some .string := by kernel_rfl
@[simp] theorem ze9 : zeroOf P 9 = some [.string ⟨#[]⟩] := by kernel_rfl
@[simp] theorem kd21 : kindOf P 21 = some (false, 1) := by kernel_rfl
@[simp] theorem si21 : (P.info? 21).map (·.size) = some 1 := by kernel_rfl
@[simp] theorem un21 : P.underlying 21 = some (.int .i32) := by kernel_rfl
@[simp] theorem ze21 : zeroOf P 21 = some [.int .i32 0] := by kernel_rfl
@[simp] theorem kd22 : kindOf P 22 = some (false, 1) := by kernel_rfl
@[simp] theorem si22 : (P.info? 22).map (·.size) = some 1 := by kernel_rfl
@[simp] theorem el22 : elOf P 22 = some (90, 5, 72) := by kernel_rfl
@[simp] theorem un22 : P.underlying 22 = some (.slice 90) := by kernel_rfl
@[simp] theorem ze22 : zeroOf P 22 = some [.slice none 0 0] := by kernel_rfl
@[simp] theorem kd23 : kindOf P 23 = some (false, 1) := by kernel_rfl
@[simp] theorem si23 : (P.info? 23).map (·.size) = some 1 := by kernel_rfl
@[simp] theorem el23 : elOf P 23 = some (25, 5, 64) := by kernel_rfl
@[simp] theorem un23 : P.underlying 23 = some (.slice 25) := by kernel_rfl
@[simp] theorem ze23 : zeroOf P 23 = some [.slice none 0 0] := by kernel_rfl
@[simp] theorem kd25 : kindOf P 25 = some (true, 5) := by kernel_rfl
@[simp] theorem si25 : (P.info? 25).map (·.size) = some 5 := by kernel_rfl
@[simp] theorem pl25 : placesOf P 25 = some [(0, 1), (1, 1), (2, 1), (3, 1), (4, 1)] := by kernel_rfl
@[simp] theorem fd25_0 : fieldOf P 25 0 = some (0, 3) := by kernel_rfl
@[simp] theorem fd25_1 : fieldOf P 25 1 = some (1, 3) := by kernel_rfl
@[simp] theorem fd25_2 : fieldOf P 25 2 = some (2, 3) := by kernel_rfl
@[simp] theorem fd25_3 : fieldOf P 25 3 = some (3, 9) := by kernel_rfl
@[simp] theorem fd25_4 : fieldOf P 25 4 = some (4, 23) := by kernel_rfl
@[simp] theorem ze25 : zeroOf P 25 = some [.int .i64 0, .int .i64 0, .int .i64 0, .string ⟨#[]⟩, .slice none 0 0] := by kernel_rfl
@[simp] theorem kd27 : kindOf P 27 = some (false, 1) := by kernel_rfl
@[simp] theorem si27 : (P.info? 27).map (·.size) = some 1 := by kernel_rfl
@[simp] theorem el27 : elOf P 27 = some (29, 3, 40) := by kernel_rfl
@[simp] theorem un27 : P.underlying 27 = some (.slice 29) := by kernel_rfl
@[simp] theorem ze27 : zeroOf P 27 = some [.slice none 0 0] := by kernel_rfl
@[simp] theorem kd29 : kindOf P 29 = some (true, 3) := by kernel_rfl
@[simp] theorem si29 : (P.info? 29).map (·.size) = some 3 := by kernel_rfl
@[simp] theorem pl29 : placesOf P 29 = some [(0, 1), (1, 1), (2, 1)] := by kernel_rfl
@[simp] theorem fd29_0 : fieldOf P 29 0 = some (0, 3) := by kernel_rfl
@[simp] theorem fd29_1 : fieldOf P 29 1 = some (1, 3) := by kernel_rfl
@[simp] theorem fd29_2 : fieldOf P 29 2 = some (2, 27) := by kernel_rfl
@[simp] theorem ze29 : zeroOf P 29 = some [.int .i64 0, .int .i64 0, .slice none 0 0] := by kernel_rfl
@[simp] theorem kd31 : kindOf P 31 = some (false, 1) := by kernel_rfl
@[simp] theorem si31 : (P.info? 31).map (·.size) = some 1 := by kernel_rfl
@[simp] theorem el31 : elOf P 31 = some (41, 3, 40) := by kernel_rfl
@[simp] theorem un31 : P.underlying 31 = some (.slice 41) := by kernel_rfl
@[simp] theorem ze31 : zeroOf P 31 = some [.slice none 0 0] := by kernel_rfl
@[simp] theorem kd32 : kindOf P 32 = some (false, 1) := by kernel_rfl
@[simp] theorem si32 : (P.info? 32).map (·.size) = some 1 := by kernel_rfl
@[simp] theorem un32 : P.underlying 32 = some (.int .i64) := by kernel_rfl
@[simp] theorem ze32 : zeroOf P 32 = some [.int .i64 0] := by kernel_rfl
@[simp] theorem kd35 : kindOf P 35 = some (false, 1) := by kernel_rfl
@[simp] theorem si35 : (P.info? 35).map (·.size) = some 1 := by kernel_rfl
@[simp] theorem el35 : elOf P 35 = some (68, 2, 40) := by kernel_rfl
@[simp] theorem un35 : P.underlying 35 = some (.slice 68) := by kernel_rfl
@[simp] theorem ze35 : zeroOf P 35 = some [.slice none 0 0] := by kernel_rfl
@[simp] theorem kd39 : kindOf P 39 = some (false, 1) := by kernel_rfl
@[simp] theorem si39 : (P.info? 39).map (·.size) = some 1 := by kernel_rfl
@[simp] theorem el39 : elOf P 39 = some (3, 1, 8) := by kernel_rfl
@[simp] theorem un39 : P.underlying 39 = some (.slice 3) := by kernel_rfl
@[simp] theorem ze39 : zeroOf P 39 = some [.slice none 0 0] := by kernel_rfl
@[simp] theorem kd41 : kindOf P 41 = some (true, 3) := by kernel_rfl
@[simp] theorem si41 : (P.info? 41).map (·.size) = some 3 := by kernel_rfl
@[simp] theorem pl41 : placesOf P 41 = some [(0, 1), (1, 1), (2, 1)] := by kernel_rfl
@[simp] theorem fd41_0 : fieldOf P 41 0 = some (0, 39) := by kernel_rfl
@[simp] theorem fd41_1 : fieldOf P 41 1 = some (1, 4) := by kernel_rfl
@[simp] theorem fd41_2 : fieldOf P 41 2 = some (2, 3) := by kernel_rfl
@[simp] theorem ze41 : zeroOf P 41 = some [.slice none 0 0, .bool false, .int .i64 0] := by kernel_rfl
@[simp] theorem kd57 : kindOf P 57 = some (false, 1) := by kernel_rfl
@[simp] theorem si57 : (P.info? 57).map (·.size) = some 1 := by kernel_rfl
@[simp] theorem el57 : elOf P 57 = some (64, 7, 72) := by kernel_rfl
@[simp] theorem un57 : P.underlying 57 = some (.slice 64) := by kernel_rfl
@[simp] theorem ze57 : zeroOf P 57 = some [.slice none 0 0] := by kernel_rfl
@[simp] theorem kd64 : kindOf P 64 = some (true, 7) := by kernel_rfl
@[simp] theorem si64 : (P.info? 64).map (·.size) = some 7 := by kernel_rfl
@[simp] theorem pl64 : placesOf P 64 = some [(0, 1), (1, 1), (2, 3), (5, 1), (6, 1)] := by kernel_rfl
@[simp] theorem fd64_0 : fieldOf P 64 0 = some (0, 3) := by kernel_rfl
@[simp] theorem fd64_1 : fieldOf P 64 1 = some (1, 3) := by kernel_rfl
@[simp] theorem fd64_2 : fieldOf P 64 2 = some (2, 41) := by kernel_rfl
@[simp] theorem fd64_3 : fieldOf P 64 3 = some (5, 3) := by kernel_rfl
@[simp] theorem fd64_4 : fieldOf P 64 4 = some (6, 3) := by kernel_rfl
@[simp] theorem ze64 : zeroOf P 64 = some [.int .i64 0, .int .i64 0, .slice none 0 0, .bool false, .int .i64 0, .int .i64 0, .int .i64 0] := by kernel_rfl
@[simp] theorem kd68 : kindOf P 68 = some (true, 2) := by kernel_rfl
@[simp] theorem si68 : (P.info? 68).map (·.size) = some 2 := by kernel_rfl
@[simp] theorem pl68 : placesOf P 68 = some [(0, 1), (1, 1)] := by kernel_rfl
@[simp] theorem fd68_0 : fieldOf P 68 0 = some (0, 9) := by kernel_rfl
@[simp] theorem fd68_1 : fieldOf P 68 1 = some (1, 39) := by kernel_rfl
@[simp] theorem ze68 : zeroOf P 68 = some [.string ⟨#[]⟩, .slice none 0 0] := by kernel_rfl
@[simp] theorem kd70 : kindOf P 70 = some (false, 1) := by kernel_rfl
@[simp] theorem si70 : (P.info? 70).map (·.size) = some 1 := by kernel_rfl
@[simp] theorem un70 : P.underlying 70 = some (.map 9 90) := by kernel_rfl
@[simp] theorem ze70 : zeroOf P 70 = some [.map none] := by kernel_rfl
@[simp] theorem kd78 : kindOf P 78 = some (false, 1) := by kernel_rfl
@[simp] theorem si78 : (P.info? 78).map (·.size) = some 1 := by kernel_rfl
@[simp] theorem un78 : P.underlying 78 = some (.pointer 149) := by kernel_rfl
@[simp] theorem ze78 : zeroOf P 78 = some [.pointer none] := by kernel_rfl
@[simp] theorem kd82 : kindOf P 82 = some (false, 1) := by kernel_rfl
@[simp] theorem si82 : (P.info? 82).map (·.size) = some 1 := by kernel_rfl
@[simp] theorem el82 : elOf P 82 = some (23, 1, 24) := by kernel_rfl
@[simp] theorem un82 : P.underlying 82 = some (.slice 23) := by kernel_rfl
@[simp] theorem ze82 : zeroOf P 82 = some [.slice none 0 0] := by kernel_rfl
@[simp] theorem kd83 : kindOf P 83 = some (false, 1) := by kernel_rfl
@[simp] theorem si83 : (P.info? 83).map (·.size) = some 1 := by kernel_rfl
@[simp] theorem el83 : elOf P 83 = some (23, 1, 24) := by kernel_rfl
@[simp] theorem un83 : P.underlying 83 = some (.slice 23) := by kernel_rfl
@[simp] theorem ze83 : zeroOf P 83 = some [.slice none 0 0] := by kernel_rfl
@[simp] theorem kd88 : kindOf P 88 = some (false, 1) := by kernel_rfl
@[simp] theorem si88 : (P.info? 88).map (·.size) = some 1 := by kernel_rfl
@[simp] theorem el88 : elOf P 88 = some (94, 4, 56) := by kernel_rfl
@[simp] theorem un88 : P.underlying 88 = some (.slice 94) := by kernel_rfl
@[simp] theorem ze88 : zeroOf P 88 = some [.slice none 0 0] := by kernel_rfl
@[simp] theorem kd90 : kindOf P 90 = some (true, 5) := by kernel_rfl
@[simp] theorem si90 : (P.info? 90).map (·.size) = some 5 := by kernel_rfl
@[simp] theorem pl90 : placesOf P 90 = some [(0, 1), (1, 1), (2, 1), (3, 1), (4, 1)] := by kernel_rfl
@[simp] theorem fd90_0 : fieldOf P 90 0 = some (0, 9) := by kernel_rfl
@[simp] theorem fd90_1 : fieldOf P 90 1 = some (1, 9) := by kernel_rfl
@[simp] theorem fd90_2 : fieldOf P 90 2 = some (2, 3) := by kernel_rfl
@[simp] theorem fd90_3 : fieldOf P 90 3 = some (3, 3) := by kernel_rfl
@[simp] theorem fd90_4 : fieldOf P 90 4 = some (4, 88) := by kernel_rfl
@[simp] theorem ze90 : zeroOf P 90 = some [.string ⟨#[]⟩, .string ⟨#[]⟩, .int .i64 0, .int .i64 0, .slice none 0 0] := by kernel_rfl
@[simp] theorem kd94 : kindOf P 94 = some (true, 4) := by kernel_rfl
@[simp] theorem si94 : (P.info? 94).map (·.size) = some 4 := by kernel_rfl
@[simp] theorem pl94 : placesOf P 94 = some [(0, 1), (1, 1), (2, 1), (3, 1)] := by kernel_rfl
@[simp] theorem fd94_0 : fieldOf P 94 0 = some (0, 3) := by kernel_rfl
@[simp] theorem fd94_1 : fieldOf P 94 1 = some (1, 3) := by kernel_rfl
@[simp] theorem fd94_2 : fieldOf P 94 2 = some (2, 9) := by kernel_rfl
@[simp] theorem fd94_3 : fieldOf P 94 3 = some (3, 88) := by kernel_rfl
@[simp] theorem ze94 : zeroOf P 94 = some [.int .i64 0, .int .i64 0, .string ⟨#[]⟩, .slice none 0 0] := by kernel_rfl
@[simp] theorem kd111 : kindOf P 111 = some (true, 4) := by kernel_rfl
@[simp] theorem si111 : (P.info? 111).map (·.size) = some 4 := by kernel_rfl
@[simp] theorem pl111 : placesOf P 111 = some [(0, 1), (1, 1), (2, 1), (3, 1)] := by kernel_rfl
@[simp] theorem fd111_0 : fieldOf P 111 0 = some (0, 3) := by kernel_rfl
@[simp] theorem fd111_1 : fieldOf P 111 1 = some (1, 3) := by kernel_rfl
@[simp] theorem fd111_2 : fieldOf P 111 2 = some (2, 9) := by kernel_rfl
@[simp] theorem fd111_3 : fieldOf P 111 3 = some (3, 3) := by kernel_rfl
@[simp] theorem ze111 : zeroOf P 111 = some [.int .i64 0, .int .i64 0, .string ⟨#[]⟩, .int .i64 0] := by kernel_rfl
@[simp] theorem kd116 : kindOf P 116 = some (false, 1) := by kernel_rfl
@[simp] theorem si116 : (P.info? 116).map (·.size) = some 1 := by kernel_rfl
@[simp] theorem un116 : P.underlying 116 = some (.map 111 4) := by kernel_rfl
@[simp] theorem ze116 : zeroOf P 116 = some [.map none] := by kernel_rfl
@[simp] theorem kd119 : kindOf P 119 = some (false, 1) := by kernel_rfl
@[simp] theorem si119 : (P.info? 119).map (·.size) = some 1 := by kernel_rfl
@[simp] theorem el119 : elOf P 119 = some (111, 4, 40) := by kernel_rfl
@[simp] theorem un119 : P.underlying 119 = some (.slice 111) := by kernel_rfl
@[simp] theorem ze119 : zeroOf P 119 = some [.slice none 0 0] := by kernel_rfl
@[simp] theorem kd124 : kindOf P 124 = some (true, 4) := by kernel_rfl
@[simp] theorem si124 : (P.info? 124).map (·.size) = some 4 := by kernel_rfl
@[simp] theorem pl124 : placesOf P 124 = some [(0, 1), (1, 1), (2, 1), (3, 1)] := by kernel_rfl
@[simp] theorem fd124_0 : fieldOf P 124 0 = some (0, 3) := by kernel_rfl
@[simp] theorem fd124_1 : fieldOf P 124 1 = some (1, 3) := by kernel_rfl
@[simp] theorem fd124_2 : fieldOf P 124 2 = some (2, 9) := by kernel_rfl
@[simp] theorem fd124_3 : fieldOf P 124 3 = some (3, 3) := by kernel_rfl
@[simp] theorem ze124 : zeroOf P 124 = some [.int .i64 0, .int .i64 0, .string ⟨#[]⟩, .int .i64 0] := by kernel_rfl
@[simp] theorem kd128 : kindOf P 128 = some (false, 1) := by kernel_rfl
@[simp] theorem si128 : (P.info? 128).map (·.size) = some 1 := by kernel_rfl
@[simp] theorem el128 : elOf P 128 = some (124, 4, 40) := by kernel_rfl
@[simp] theorem un128 : P.underlying 128 = some (.slice 124) := by kernel_rfl
@[simp] theorem ze128 : zeroOf P 128 = some [.slice none 0 0] := by kernel_rfl
@[simp] theorem kd137 : kindOf P 137 = some (false, 1) := by kernel_rfl
@[simp] theorem si137 : (P.info? 137).map (·.size) = some 1 := by kernel_rfl
@[simp] theorem el137 : elOf P 137 = some (9, 1, 16) := by kernel_rfl
@[simp] theorem un137 : P.underlying 137 = some (.slice 9) := by kernel_rfl
@[simp] theorem ze137 : zeroOf P 137 = some [.slice none 0 0] := by kernel_rfl
@[simp] theorem kd143 : kindOf P 143 = some (false, 1) := by kernel_rfl
@[simp] theorem si143 : (P.info? 143).map (·.size) = some 1 := by kernel_rfl
@[simp] theorem un143 : P.underlying 143 = some (.map 3 156) := by kernel_rfl
@[simp] theorem ze143 : zeroOf P 143 = some [.map none] := by kernel_rfl
@[simp] theorem kd149 : kindOf P 149 = some (true, 2) := by kernel_rfl
@[simp] theorem si149 : (P.info? 149).map (·.size) = some 2 := by kernel_rfl
@[simp] theorem pl149 : placesOf P 149 = some [(0, 1), (1, 1)] := by kernel_rfl
@[simp] theorem fd149_0 : fieldOf P 149 0 = some (0, 70) := by kernel_rfl
@[simp] theorem fd149_1 : fieldOf P 149 1 = some (1, 22) := by kernel_rfl
@[simp] theorem ze149 : zeroOf P 149 = some [.map none, .slice none 0 0] := by kernel_rfl
@[simp] theorem kd150 : kindOf P 150 = some (false, 1) := by kernel_rfl
@[simp] theorem si150 : (P.info? 150).map (·.size) = some 1 := by kernel_rfl
@[simp] theorem un150 : P.underlying 150 = some (.map 152 4) := by kernel_rfl
@[simp] theorem ze150 : zeroOf P 150 = some [.map none] := by kernel_rfl
@[simp] theorem kd152 : kindOf P 152 = some (true, 2) := by kernel_rfl
@[simp] theorem si152 : (P.info? 152).map (·.size) = some 2 := by kernel_rfl
@[simp] theorem pl152 : placesOf P 152 = some [(0, 1), (1, 1)] := by kernel_rfl
@[simp] theorem fd152_0 : fieldOf P 152 0 = some (0, 9) := by kernel_rfl
@[simp] theorem fd152_1 : fieldOf P 152 1 = some (1, 3) := by kernel_rfl
@[simp] theorem ze152 : zeroOf P 152 = some [.string ⟨#[]⟩, .int .i64 0] := by kernel_rfl
@[simp] theorem kd153 : kindOf P 153 = some (false, 1) := by kernel_rfl
@[simp] theorem si153 : (P.info? 153).map (·.size) = some 1 := by kernel_rfl
@[simp] theorem un153 : P.underlying 153 = some (.map 111 82) := by kernel_rfl
@[simp] theorem ze153 : zeroOf P 153 = some [.map none] := by kernel_rfl
@[simp] theorem kd154 : kindOf P 154 = some (true, 2) := by kernel_rfl
@[simp] theorem si154 : (P.info? 154).map (·.size) = some 2 := by kernel_rfl
@[simp] theorem un154 : P.underlying 154 = some (.array 2 3) := by kernel_rfl
@[simp] theorem ze154 : zeroOf P 154 = some [.int .i64 0, .int .i64 0] := by kernel_rfl
@[simp] theorem kd156 : kindOf P 156 = some (true, 8) := by kernel_rfl
@[simp] theorem si156 : (P.info? 156).map (·.size) = some 8 := by kernel_rfl
@[simp] theorem pl156 : placesOf P 156 = some [(0, 1), (1, 1), (2, 1), (3, 1), (4, 1), (5, 2), (7, 1)] := by kernel_rfl
@[simp] theorem fd156_0 : fieldOf P 156 0 = some (0, 39) := by kernel_rfl
@[simp] theorem fd156_1 : fieldOf P 156 1 = some (1, 3) := by kernel_rfl
@[simp] theorem fd156_2 : fieldOf P 156 2 = some (2, 3) := by kernel_rfl
@[simp] theorem fd156_3 : fieldOf P 156 3 = some (3, 3) := by kernel_rfl
@[simp] theorem fd156_4 : fieldOf P 156 4 = some (4, 39) := by kernel_rfl
@[simp] theorem fd156_5 : fieldOf P 156 5 = some (5, 154) := by kernel_rfl
@[simp] theorem fd156_6 : fieldOf P 156 6 = some (7, 3) := by kernel_rfl
@[simp] theorem ze156 : zeroOf P 156 = some [.slice none 0 0, .int .i64 0, .int .i64 0, .int .i64 0, .slice none 0 0, .int .i64 0, .int .i64 0, .int .i64 0] := by kernel_rfl
@[simp] theorem kd160 : kindOf P 160 = some (false, 1) := by kernel_rfl
@[simp] theorem si160 : (P.info? 160).map (·.size) = some 1 := by kernel_rfl
@[simp] theorem un160 : P.underlying 160 = some (.int .u64) := by kernel_rfl
@[simp] theorem ze160 : zeroOf P 160 = some [.int .u64 0] := by kernel_rfl
@[simp] theorem kd163 : kindOf P 163 = some (false, 1) := by kernel_rfl
@[simp] theorem si163 : (P.info? 163).map (·.size) = some 1 := by kernel_rfl
@[simp] theorem el163 : elOf P 163 = some (169, 4, 40) := by kernel_rfl
@[simp] theorem un163 : P.underlying 163 = some (.slice 169) := by kernel_rfl
@[simp] theorem ze163 : zeroOf P 163 = some [.slice none 0 0] := by kernel_rfl
@[simp] theorem kd165 : kindOf P 165 = some (true, 2) := by kernel_rfl
@[simp] theorem si165 : (P.info? 165).map (·.size) = some 2 := by kernel_rfl
@[simp] theorem pl165 : placesOf P 165 = some [(0, 1), (1, 1)] := by kernel_rfl
@[simp] theorem fd165_0 : fieldOf P 165 0 = some (0, 32) := by kernel_rfl
@[simp] theorem fd165_1 : fieldOf P 165 1 = some (1, 3) := by kernel_rfl
@[simp] theorem ze165 : zeroOf P 165 = some [.int .i64 0, .int .i64 0] := by kernel_rfl
@[simp] theorem kd169 : kindOf P 169 = some (true, 4) := by kernel_rfl
@[simp] theorem si169 : (P.info? 169).map (·.size) = some 4 := by kernel_rfl
@[simp] theorem pl169 : placesOf P 169 = some [(0, 1), (1, 1), (2, 1), (3, 1)] := by kernel_rfl
@[simp] theorem fd169_0 : fieldOf P 169 0 = some (0, 3) := by kernel_rfl
@[simp] theorem fd169_1 : fieldOf P 169 1 = some (1, 3) := by kernel_rfl
@[simp] theorem fd169_2 : fieldOf P 169 2 = some (2, 3) := by kernel_rfl
@[simp] theorem fd169_3 : fieldOf P 169 3 = some (3, 9) := by kernel_rfl
@[simp] theorem ze169 : zeroOf P 169 = some [.int .i64 0, .int .i64 0, .int .i64 0, .string ⟨#[]⟩] := by kernel_rfl
@[simp] theorem kd172 : kindOf P 172 = some (false, 1) := by kernel_rfl
@[simp] theorem si172 : (P.info? 172).map (·.size) = some 1 := by kernel_rfl
@[simp] theorem un172 : P.underlying 172 = some (.int .u32) := by kernel_rfl
@[simp] theorem ze172 : zeroOf P 172 = some [.int .u32 0] := by kernel_rfl
@[simp] theorem kd175 : kindOf P 175 = some (false, 1) := by kernel_rfl
@[simp] theorem si175 : (P.info? 175).map (·.size) = some 1 := by kernel_rfl
@[simp] theorem un175 : P.underlying 175 = some (.int .u64) := by kernel_rfl
@[simp] theorem ze175 : zeroOf P 175 = some [.int .u64 0] := by kernel_rfl
@[simp] theorem kd179 : kindOf P 179 = some (false, 1) := by kernel_rfl
@[simp] theorem si179 : (P.info? 179).map (·.size) = some 1 := by kernel_rfl
@[simp] theorem un179 : P.underlying 179 = some (.pointer 181) := by kernel_rfl
@[simp] theorem ze179 : zeroOf P 179 = some [.pointer none] := by kernel_rfl
@[simp] theorem kd181 : kindOf P 181 = some (true, 3) := by kernel_rfl
@[simp] theorem si181 : (P.info? 181).map (·.size) = some 3 := by kernel_rfl
@[simp] theorem pl181 : placesOf P 181 = some [(0, 1), (1, 1), (2, 1)] := by kernel_rfl
@[simp] theorem fd181_0 : fieldOf P 181 0 = some (0, 9) := by kernel_rfl
@[simp] theorem fd181_1 : fieldOf P 181 1 = some (1, 3) := by kernel_rfl
@[simp] theorem fd181_2 : fieldOf P 181 2 = some (2, 32) := by kernel_rfl
@[simp] theorem ze181 : zeroOf P 181 = some [.string ⟨#[]⟩, .int .i64 0, .int .i64 0] := by kernel_rfl
@[simp] theorem kd190 : kindOf P 190 = some (false, 1) := by kernel_rfl
@[simp] theorem si190 : (P.info? 190).map (·.size) = some 1 := by kernel_rfl
@[simp] theorem ze190 : zeroOf P 190 = some [.nilIface] := by kernel_rfl
@[simp] theorem kd194 : kindOf P 194 = some (false, 1) := by kernel_rfl
@[simp] theorem si194 : (P.info? 194).map (·.size) = some 1 := by kernel_rfl
@[simp] theorem el194 : elOf P 194 = some (5, 1, 1) := by kernel_rfl
@[simp] theorem un194 : P.underlying 194 = some (.slice 5) := by kernel_rfl
@[simp] theorem ze194 : zeroOf P 194 = some [.slice none 0 0] := by kernel_rfl
@[simp] theorem kd196 : kindOf P 196 = some (true, 256) := by kernel_rfl
@[simp] theorem si196 : (P.info? 196).map (·.size) = some 256 := by kernel_rfl
@[simp] theorem un196 : P.underlying 196 = some (.array 256 5) := by kernel_rfl
@[simp] theorem kd198 : kindOf P 198 = some (true, 2) := by kernel_rfl
@[simp] theorem si198 : (P.info? 198).map (·.size) = some 2 := by kernel_rfl
@[simp] theorem pl198 : placesOf P 198 = some [(0, 1), (1, 1)] := by kernel_rfl
@[simp] theorem fd198_0 : fieldOf P 198 0 = some (0, 5) := by kernel_rfl
@[simp] theorem fd198_1 : fieldOf P 198 1 = some (1, 5) := by kernel_rfl
@[simp] theorem ze198 : zeroOf P 198 = some [.int .u8 0, .int .u8 0] := by kernel_rfl
@[simp] theorem kd199 : kindOf P 199 = some (true, 32) := by kernel_rfl
@[simp] theorem si199 : (P.info? 199).map (·.size) = some 32 := by kernel_rfl
@[simp] theorem un199 : P.underlying 199 = some (.array 16 198) := by kernel_rfl
@[simp] theorem ze199 : zeroOf P 199 = some [.int .u8 0, .int .u8 0, .int .u8 0, .int .u8 0, .int .u8 0, .int .u8 0, .int .u8 0, .int .u8 0, .int .u8 0, .int .u8 0, .int .u8 0, .int .u8 0, .int .u8 0, .int .u8 0, .int .u8 0, .int .u8 0, .int .u8 0, .int .u8 0, .int .u8 0, .int .u8 0, .int .u8 0, .int .u8 0, .int .u8 0, .int .u8 0, .int .u8 0, .int .u8 0, .int .u8 0, .int .u8 0, .int .u8 0, .int .u8 0, .int .u8 0, .int .u8 0] := by kernel_rfl
@[simp] theorem kd204 : kindOf P 204 = some (false, 1) := by kernel_rfl
@[simp] theorem si204 : (P.info? 204).map (·.size) = some 1 := by kernel_rfl
@[simp] theorem un204 : P.underlying 204 = some (.int .i64) := by kernel_rfl
@[simp] theorem ze204 : zeroOf P 204 = some [.int .i64 0] := by kernel_rfl
@[simp] theorem kd206 : kindOf P 206 = some (false, 1) := by kernel_rfl
@[simp] theorem si206 : (P.info? 206).map (·.size) = some 1 := by kernel_rfl
@[simp] theorem un206 : P.underlying 206 = some (.pointer 211) := by kernel_rfl
@[simp] theorem ze206 : zeroOf P 206 = some [.pointer none] := by kernel_rfl
@[simp] theorem kd211 : kindOf P 211 = some (true, 3) := by kernel_rfl
@[simp] theorem si211 : (P.info? 211).map (·.size) = some 3 := by kernel_rfl
@[simp] theorem pl211 : placesOf P 211 = some [(0, 1), (1, 1), (2, 1)] := by kernel_rfl
@[simp] theorem fd211_0 : fieldOf P 211 0 = some (0, 9) := by kernel_rfl
@[simp] theorem fd211_1 : fieldOf P 211 1 = some (1, 9) := by kernel_rfl
@[simp] theorem fd211_2 : fieldOf P 211 2 = some (2, 190) := by kernel_rfl
@[simp] theorem ze211 : zeroOf P 211 = some [.string ⟨#[]⟩, .string ⟨#[]⟩, .nilIface] := by kernel_rfl
@[simp] theorem kd216 : kindOf P 216 = some (false, 1) := by kernel_rfl
@[simp] theorem si216 : (P.info? 216).map (·.size) = some 1 := by kernel_rfl
@[simp] theorem un216 : P.underlying 216 = some (.pointer 5) := by kernel_rfl
@[simp] theorem ze216 : zeroOf P 216 = some [.pointer none] := by kernel_rfl
@[simp] theorem kd217 : kindOf P 217 = some (false, 1) := by kernel_rfl
@[simp] theorem si217 : (P.info? 217).map (·.size) = some 1 := by kernel_rfl
@[simp] theorem un217 : P.underlying 217 = some (.pointer 219) := by kernel_rfl
@[simp] theorem ze217 : zeroOf P 217 = some [.pointer none] := by kernel_rfl
@[simp] theorem kd219 : kindOf P 219 = some (true, 1) := by kernel_rfl
@[simp] theorem si219 : (P.info? 219).map (·.size) = some 1 := by kernel_rfl
@[simp] theorem pl219 : placesOf P 219 = some [(0, 1)] := by kernel_rfl
@[simp] theorem fd219_0 : fieldOf P 219 0 = some (0, 9) := by kernel_rfl
@[simp] theorem ze219 : zeroOf P 219 = some [.string ⟨#[]⟩] := by kernel_rfl
@[simp] theorem kd222 : kindOf P 222 = some (true, 24) := by kernel_rfl
@[simp] theorem si222 : (P.info? 222).map (·.size) = some 24 := by kernel_rfl
@[simp] theorem un222 : P.underlying 222 = some (.array 24 5) := by kernel_rfl
@[simp] theorem ze222 : zeroOf P 222 = some [.int .u8 0, .int .u8 0, .int .u8 0, .int .u8 0, .int .u8 0, .int .u8 0, .int .u8 0, .int .u8 0, .int .u8 0, .int .u8 0, .int .u8 0, .int .u8 0, .int .u8 0, .int .u8 0, .int .u8 0, .int .u8 0, .int .u8 0, .int .u8 0, .int .u8 0, .int .u8 0, .int .u8 0, .int .u8 0, .int .u8 0, .int .u8 0] := by kernel_rfl
@[simp] theorem kd228 : kindOf P 228 = some (true, 20) := by kernel_rfl
@[simp] theorem si228 : (P.info? 228).map (·.size) = some 20 := by kernel_rfl
@[simp] theorem un228 : P.underlying 228 = some (.array 20 175) := by kernel_rfl
@[simp] theorem ze228 : zeroOf P 228 = some [.int .u64 0, .int .u64 0, .int .u64 0, .int .u64 0, .int .u64 0, .int .u64 0, .int .u64 0, .int .u64 0, .int .u64 0, .int .u64 0, .int .u64 0, .int .u64 0, .int .u64 0, .int .u64 0, .int .u64 0, .int .u64 0, .int .u64 0, .int .u64 0, .int .u64 0, .int .u64 0] := by kernel_rfl
@[simp] theorem kd229 : kindOf P 229 = some (true, 65) := by kernel_rfl
@[simp] theorem si229 : (P.info? 229).map (·.size) = some 65 := by kernel_rfl
@[simp] theorem un229 : P.underlying 229 = some (.array 65 5) := by kernel_rfl
@[simp] theorem kd233 : kindOf P 233 = some (true, 32) := by kernel_rfl
@[simp] theorem si233 : (P.info? 233).map (·.size) = some 32 := by kernel_rfl
@[simp] theorem un233 : P.underlying 233 = some (.array 32 5) := by kernel_rfl
@[simp] theorem ze233 : zeroOf P 233 = some [.int .u8 0, .int .u8 0, .int .u8 0, .int .u8 0, .int .u8 0, .int .u8 0, .int .u8 0, .int .u8 0, .int .u8 0, .int .u8 0, .int .u8 0, .int .u8 0, .int .u8 0, .int .u8 0, .int .u8 0, .int .u8 0, .int .u8 0, .int .u8 0, .int .u8 0, .int .u8 0, .int .u8 0, .int .u8 0, .int .u8 0, .int .u8 0, .int .u8 0, .int .u8 0, .int .u8 0, .int .u8 0, .int .u8 0, .int .u8 0, .int .u8 0, .int .u8 0] := by kernel_rfl
@[simp] theorem kd234 : kindOf P 234 = some (true, 64) := by kernel_rfl
@[simp] theorem si234 : (P.info? 234).map (·.size) = some 64 := by kernel_rfl
@[simp] theorem un234 : P.underlying 234 = some (.array 64 5) := by kernel_rfl
end Go.Ab.Tz

namespace Go.Ab

/-- a part of a program -/
inductive Part where
  | mk (kind n at' : Int) (s : ByteArray) (l : List Part)

namespace Part
def kind : Part → Int | mk k _ _ _ _ => k
def n : Part → Int | mk _ n _ _ _ => n
def at' : Part → Int | mk _ _ a _ _ => a
def s : Part → ByteArray | mk _ _ _ s _ => s
def l : Part → List Part | mk _ _ _ _ l => l
end Part

mutual
def pc : Part → List AV
  | .mk k n a s l => [.int k, .int n, .int a, .str s, .sl 5 (pcs l) .unk]
def pcs : List Part → List (List AV)
  | [] => []
  | p :: l => pc p :: pcs l
end

theorem pcs_eq : ∀ l, pcs l = l.map pc
  | [] => rfl
  | p :: l => by simp [pcs, pcs_eq l]

theorem pc_eq (p : Part) : pc p = [.int p.kind, .int p.n, .int p.at', .str p.s, .sl 5 (p.l.map pc) .unk] := by
  cases p; simp [pc, pcs_eq, Part.kind, Part.n, Part.at', Part.s, Part.l]

mutual
theorem pc_map (ρ : Nat → Option Nat) : ∀ p, maps ρ (pc p) = pc p
  | .mk k n a s l => by simp [pc, maps, AV.map, Cap.map, pcs_map ρ l]
theorem pcs_map (ρ : Nat → Option Nat) : ∀ l, mapss ρ (pcs l) = pcs l
  | [] => rfl
  | p :: l => by simp [pcs, mapss, pc_map ρ p, pcs_map ρ l]
end
mutual
theorem pc_bnd (m : Nat) : ∀ p, bnds m (pc p)
  | .mk k n a s l => by simp [pc, bnds, AV.bnd, Cap.bnd, pcs_bnd m l]
theorem pcs_bnd (m : Nat) : ∀ l, bndss m (pcs l)
  | [] => by simp [pcs, bndss]
  | p :: l => by simp [pcs, bndss, pc_bnd m p, pcs_bnd m l]
end

theorem pcm_map (ρ : Nat → Option Nat) (l : List Part) : mapss ρ (l.map pc) = l.map pc := by rw [← pcs_eq, pcs_map]
theorem pcm_bnd (m : Nat) (l : List Part) : bndss m (l.map pc) := by rw [← pcs_eq]; exact pcs_bnd m l

mutual
def Part.size : Part → Nat
  | .mk _ _ _ _ l => 1 + Part.sizes l
def Part.sizes : List Part → Nat
  | [] => 0
  | p :: l => p.size + Part.sizes l
end

theorem Part.size_pos (p : Part) : 0 < p.size := by cases p; simp [Part.size]; omega
theorem Part.size_eq (p : Part) : p.size = 1 + Part.sizes p.l := by cases p; simp [Part.size, Part.l]
theorem Part.size_mem : ∀ {l : List Part} {p : Part}, p ∈ l → p.size ≤ Part.sizes l
  | q :: l, p, h => by
    simp only [Part.sizes]
    rcases List.mem_cons.1 h with rfl | h
    · omega
    · have := Part.size_mem h; omega
theorem Part.length_le : ∀ (l : List Part), l.length ≤ Part.sizes l
  | [] => by simp [Part.sizes]
  | q :: l => by
    have := Part.length_le l
    have := q.size_pos
    simp [Part.sizes]; omega

mutual
def Part.depth : Part → Nat
  | .mk _ _ _ _ l => Part.depths l + 1
def Part.depths : List Part → Nat
  | [] => 0
  | p :: l => max p.depth (Part.depths l)
end

end Go.Ab

namespace Go.Ab.Tz
open Go.Proofs
set_option maxRecDepth 100000
def rulesL : List (AV × AV) := [
  (.int 1, .agg [.nils, .int 0, .int 0, .int 0, .nils, .int 0, .int 0, .int 3]),
  (.int 2, .agg [.nils, .int 1, .int 0, .int 64, .nils, .int 0, .int 0, .int 1]),
  (.int 3, .agg [.sl 1 [[.int 1], [.int 1]] .unk, .int 0, .int 0, .int 0, .nils, .int 0, .int 0, .int 0]),
  (.int 4, .agg [.sl 1 [[.int 1], [.int 1]] .unk, .int 0, .int 0, .int 0, .nils, .int 0, .int 0, .int 0]),
  (.int 10, .agg [.nils, .int 0, .int 0, .int 0, .nils, .int 0, .int 0, .int 0]),
  (.int 13, .agg [.nils, .int 0, .int 0, .int 0, .nils, .int 0, .int 0, .int 0]),
  (.int 11, .agg [.nils, .int 0, .int 0, .int 0, .nils, .int 0, .int 0, .int 1]),
  (.int 12, .agg [.nils, .int 0, .int 0, .int 0, .nils, .int (-1073741824), .int 1073741823, .int 0]),
  (.int 14, .agg [.nils, .int 0, .int 0, .int 0, .nils, .int 0, .int 1, .int 0]),
  (.int 15, .agg [.sl 1 [[.int 2], [.int 2]] .unk, .int 0, .int 0, .int 0, .nils, .int 0, .int 0, .int 0]),
  (.int 16, .agg [.nils, .int 2, .int 0, .int 1, .nils, .int 0, .int 0, .int 2]),
  (.int 20, .agg [.nils, .int 0, .int 0, .int 0, .nils, .int (-1073741824), .int 1073741823, .int 0]),
  (.int 21, .agg [.nils, .int 0, .int 0, .int 0, .nils, .int 0, .int 0, .int 4]),
  (.int 22, .agg [.nils, .int 0, .int 0, .int 0, .nils, .int 0, .int 0, .int 0]),
  (.int 23, .agg [.nils, .int 0, .int 0, .int 0, .nils, .int 0, .int 1, .int 0]),
  (.int 24, .agg [.nils, .int 0, .int 0, .int 0, .nils, .int 0, .int 0, .int 1]),
  (.int 25, .agg [.nils, .int 3, .int 0, .int 1, .nils, .int 0, .int 0, .int 2]),
  (.int 26, .agg [.sl 1 [[.int 3], [.int 3]] .unk, .int 0, .int 0, .int 0, .nils, .int 0, .int 0, .int 0]),
  (.int 28, .agg [.sl 1 [[.int 3], [.int 3]] .unk, .int 0, .int 0, .int 0, .nils, .int 0, .int 0, .int 0]),
  (.int 35, .agg [.sl 1 [[.int 3], [.int 3]] .unk, .int 0, .int 0, .int 0, .nils, .int 0, .int 0, .int 0]),
  (.int 37, .agg [.sl 1 [[.int 3], [.int 3]] .unk, .int 0, .int 0, .int 0, .nils, .int 0, .int 0, .int 0]),
  (.int 38, .agg [.sl 1 [[.int 3], [.int 3]] .unk, .int 0, .int 0, .int 0, .nils, .int 0, .int 0, .int 5]),
  (.int 34, .agg [.sl 1 [[.int 3]] .unk, .int 0, .int 0, .int 0, .nils, .int 0, .int 0, .int 0]),
  (.int 36, .agg [.sl 1 [[.int 3]] .unk, .int 0, .int 0, .int 0, .nils, .int 0, .int 0, .int 0]),
  (.int 39, .agg [.sl 1 [[.int 3]] .unk, .int 0, .int 0, .int 0, .nils, .int 0, .int 0, .int 0]),
  (.int 31, .agg [.sl 1 [[.int 3], [.int 3], [.int 3]] .unk, .int 0, .int 0, .int 0, .nils, .int 0, .int 0, .int 0]),
  (.int 27, .agg [.sl 1 [[.int 2], [.int 3]] .unk, .int 0, .int 0, .int 0, .nils, .int 0, .int 0, .int 0]),
  (.int 29, .agg [.sl 1 [[.int 2], [.int 3], [.int 3]] .unk, .int 0, .int 0, .int 0, .nils, .int 0, .int 0, .int 0]),
  (.int 30, .agg [.nils, .int 5, .int 1, .int 1073741824, .sl 1 [[.int 3]] .unk, .int 0, .int 0, .int 0]),
  (.int 32, .agg [.sl 1 [[.int 3]] .unk, .int 4, .int 1, .int 1073741824, .nils, .int 0, .int 0, .int 0]),
  (.int 33, .agg [.sl 1 [[.int 3]] .unk, .int 4, .int 1, .int 1073741824, .nils, .int 0, .int 0, .int 0]),
  (.int 45, .agg [.sl 1 [[.int 2], [.int 3]] .unk, .int 0, .int 0, .int 0, .nils, .int 0, .int 0, .int 0]),
  (.int 46, .agg [.sl 1 [[.int 9]] .unk, .int 0, .int 0, .int 0, .nils, .int 0, .int 0, .int 1]),
  (.int 47, .agg [.nils, .int 1, .int 0, .int 1, .nils, .int 0, .int 0, .int 2]),
  (.int 51, .agg [.nils, .int 1, .int 0, .int 1, .nils, .int 0, .int 0, .int 2]),
  (.int 52, .agg [.sl 1 [[.int 2], [.int 3]] .unk, .int 0, .int 0, .int 0, .nils, .int 0, .int 0, .int 0]),
  (.int 53, .agg [.nils, .int 5, .int 1, .int 1073741824, .nils, .int 0, .int 0, .int 0]),
  (.int 50, .agg [.nils, .int 6, .int 1, .int 1073741824, .nils, .int 0, .int 64, .int 1])]

theorem mixed : P.follows .mixedOrders = true := by kernel_rfl
def noOrc : Orc := ⟨[], [], [], fun _ _ => none, []⟩
theorem noOrc_ok [LibT P] : OrcOk P noOrc := ⟨fun e h => by simp [noOrc] at h, fun e h => by simp [noOrc] at h, fun e h => by simp [noOrc] at h, fun e h => by simp [noOrc] at h, fun f args v h => by simp [noOrc] at h⟩
theorem rules_calls [LibT P] : ACalls P 95 [] [] (fun r l => r = .mp 0 ∧ l = [.umap true rulesL]) :=
  ACalls.run mixed noOrc_ok [2] 5000 (by kernel_rfl)
end Go.Ab.Tz

namespace Go.Ab.Tz
open Go.Proofs

/-- what the library asks of the package-level variables -/
structure LibFacts (w : World) : Prop where
  maxLen : ∃ m, w.cell? ⟨2, 0, none⟩ = some (.int .i64 m)
  tabs : Lib.Utf8Tabs 0 1 w
  syn : ∃ te pe, w.cell? ⟨3, 0, none⟩ = some (.iface te pe)
  rng : ∃ te pe, w.cell? ⟨4, 0, none⟩ = some (.iface te pe)

noncomputable instance libT : LibT P where
  own t := t == 82 || t == 57
  T := LibFacts
  stable w w' h := by
    have hc : ∀ b o, b < 8 → w'.cell? ⟨b, o, none⟩ = w.cell? ⟨b, o, none⟩ := fun b o hb => by
      have : P.globals.size = 8 := by kernel_rfl
      simp only [World.cell?, h b (by omega)]
    rintro ⟨h1, ⟨h2, h3⟩, h4, h5⟩
    refine ⟨?_, ⟨fun c hl => ?_, fun i hl => ?_⟩, ?_, ?_⟩
    · rw [hc 2 0 (by omega)]; exact h1
    · rw [hc 0 _ (by omega)]; exact h2 c hl
    · rw [hc 1 _ (by omega), hc 1 _ (by omega)]; exact h3 i hl
    · rw [hc 3 0 (by omega)]; exact h4
    · rw [hc 4 0 (by omega)]; exact h5

theorem canEnter_of {f : FuncId} (h : ((P.funcs[f]?).any fun fn => fn.body.isSome && !(fn.name == "runtime.NumGoroutine")) = true) : CanEnter P f := by
  rw [Option.any_eq_true] at h
  obtain ⟨fn, h1, h2⟩ := h
  simp only [Bool.and_eq_true, Bool.not_eq_true'] at h2
  refine ⟨fn, h1, ?_, h2.2⟩
  cases hb : fn.body with
  | none => rw [hb] at h2; simp at h2
  | some _ => rfl

def libF (f : FuncId) (args : List AV) : Option AV :=
  if f = 113 then
    match args with
    | [.con (.string s), .con (.int .u8 c)] => some (.int (Lib.indexByte s.data.toList c.toNat.toUInt8))
    | _ => none
  else if f = 134 then
    match args with
    | [.con (.string s), .con (.string t)] => if s.size < 4294967281 then some (.bool (Lib.contains s.data.toList t.data.toList)) else none
    | _ => none
  else if f = 119 then
    match args with
    | [.con (.string s), .con (.string t)] => some (.bool (Lib.hasPrefix s.data.toList t.data.toList))
    | _ => none
  else none

theorem libF_ok (f : FuncId) (args : List AV) (v : AV) (h : libF f args = some v) (loc : List AObj) : ACalls P f args loc (fun r l => r = v ∧ l = loc) := by
  unfold libF at h
  split at h
  · rename_i hf
    subst hf
    split at h
    · rename_i s c
      cases h
      have hc : CanEnter P 113 := canEnter_of (by kernel_rfl)
      exact (PCalls.of_calls (cargs := [.string s, .int .u8 c]) hc fun w hw => (Tryz.strings_IndexByte s c w).mono (by
        rintro e w' ⟨rfl, rfl⟩
        exact ⟨_, rfl, RowKit.Below.refl _ _, fun R => by simp [γ]⟩)).lift (by simp [bnds, AV.bnd]) loc
    · cases h
  · split at h
    · rename_i hf
      subst hf
      split at h
      · rename_i s t
        split at h
        · rename_i hs
          cases h
          have hc : CanEnter P 134 := canEnter_of (by kernel_rfl)
          exact (PCalls.of_calls (cargs := [.string s, .string t]) hc fun w hw => by
            obtain ⟨m, hm⟩ := hw.maxLen
            exact (Tryz.strings_Contains s t m w hs hm).mono (by
              rintro e w' ⟨rfl, rfl⟩
              exact ⟨_, rfl, RowKit.Below.refl _ _, fun R => by simp [γ]⟩)).lift (by simp [bnds, AV.bnd]) loc
        · cases h
      · cases h
    · split at h
      · rename_i hf
        subst hf
        split at h
        · rename_i s t
          cases h
          have hc : CanEnter P 119 := canEnter_of (by kernel_rfl)
          exact (PCalls.of_calls (cargs := [.string s, .string t]) hc fun w hw => (Tryz.strings_HasPrefix s t w).mono (by
            rintro e w' ⟨rfl, rfl⟩
            exact ⟨_, rfl, RowKit.Below.refl _ _, fun R => by simp [γ]⟩)).lift (by simp [bnds, AV.bnd]) loc
        · cases h
      · cases h

def orc : Orc := ⟨[], [23, 25, 26, 27, 28, 43, 44, 45], [(95, [], .mp 0, [.umap true rulesL])], libF, [35]⟩
theorem orc_ok : OrcOk P orc where
  ok := fun e h => by simp [orc] at h
  bnd := fun e h => by simp [orc] at h
  made := fun e h => by
    simp only [orc, List.mem_singleton] at h
    subst h
    exact rules_calls
  mbnd := fun e h => by
    simp only [orc, List.mem_singleton] at h
    subst h
    simp [bnds]
  lok := libF_ok
end Go.Ab.Tz
