/- Functions of the translation as codes of the small machine, by program. Own text, no conditions. -/
import Derived.Test.YtipgjenjepooaaaDoorEa
namespace Go.Eng.Seat37d
set_option maxRecDepth 1000000
def af3 : AFunc := ⟨9, [.tmp 0],
  (.seq
(.reg false [
⟨some 0, .mov (.c (.bool false)), none, 0, [], false⟩])
(.seq
(.reg false [
⟨some 39, .build [.nils, .nils] [], none, 0, [], false⟩,
⟨some 40, .call (.f 5) [.c (.str [65]), .c (.bool false)], none, 3, [], false⟩,
⟨some 41, .call (.f 4) [.t 39, .c (.int .i64 1), .t 40], none, 3, [], false⟩,
⟨some 38, .mov (.t 41), none, 0, [], false⟩,
⟨some 42, .extract (.t 38) 0, none, 0, [], false⟩,
⟨some 43, .extract (.t 38) 1, none, 0, [], false⟩,
⟨some 44, .extract (.t 38) 2, none, 0, [], false⟩,
⟨some 1, .new [.nils, .nils] 24, none, 2, [], false⟩,
⟨none, .store 2 (.t 1) (.t 42), none, 5, [], false⟩,
⟨some 2, .mov (.t 43), none, 0, [], false⟩,
⟨some 3, .mov (.t 44), none, 0, [], false⟩])
(.seq
(.reg false [
⟨some 46, .load true 2 (.t 1), none, 1, [], false⟩,
⟨some 47, .build [.str [], .bool false] [(0, 1, .c (.str [66]))], none, 0, [], false⟩,
⟨some 48, .build [.str [], .bool false] [(0, 1, .c (.str [65]))], none, 0, [], false⟩,
⟨some 49, .mkisl 2 2 [.str [], .bool false] [(0, .t 47), (1, .t 48)], none, 0, [], false⟩,
⟨some 50, .call (.f 4) [.t 46, .c (.int .i64 2), .t 49], none, 3, [], false⟩,
⟨some 45, .mov (.t 50), none, 0, [], false⟩,
⟨some 51, .extract (.t 45) 0, none, 0, [], false⟩,
⟨some 52, .extract (.t 45) 1, none, 0, [], false⟩,
⟨some 53, .extract (.t 45) 2, none, 0, [], false⟩,
⟨none, .store 2 (.t 1) (.t 51), none, 5, [], false⟩,
⟨some 4, .mov (.t 52), none, 0, [], false⟩,
⟨some 5, .mov (.t 53), none, 0, [], false⟩])
(.seq
(.reg true [
⟨some 55, .load true 2 (.t 1), none, 1, [], false⟩,
⟨some 56, .call (.f 5) [.c (.str [65]), .c (.bool true)], none, 3, [], false⟩,
⟨some 57, .call (.f 4) [.t 55, .c (.int .i64 3), .t 56], none, 3, [], false⟩,
⟨some 54, .mov (.t 57), none, 0, [], false⟩,
⟨some 58, .extract (.t 54) 0, none, 0, [], false⟩,
⟨some 59, .extract (.t 54) 1, none, 0, [], false⟩,
⟨some 60, .extract (.t 54) 2, none, 0, [], false⟩,
⟨none, .store 2 (.t 1) (.t 58), none, 5, [], false⟩,
⟨some 6, .mov (.t 59), none, 0, [], false⟩,
⟨some 7, .mov (.t 60), none, 0, [], false⟩])
(.seq
(.reg true [
⟨some 62, .load true 2 (.t 1), none, 1, [], false⟩,
⟨some 63, .call (.f 5) [.c (.str [65]), .c (.bool false)], none, 3, [], false⟩,
⟨some 64, .call (.f 4) [.t 62, .c (.int .i64 4), .t 63], none, 3, [], false⟩,
⟨some 61, .mov (.t 64), none, 0, [], false⟩,
⟨some 65, .extract (.t 61) 0, none, 0, [], false⟩,
⟨some 66, .extract (.t 61) 1, none, 0, [], false⟩,
⟨some 67, .extract (.t 61) 2, none, 0, [], false⟩,
⟨none, .store 2 (.t 1) (.t 65), none, 5, [], false⟩,
⟨some 8, .mov (.t 66), none, 0, [], false⟩,
⟨some 9, .mov (.t 67), none, 0, [], false⟩])
(.seq
(.reg true [
⟨some 69, .load true 2 (.t 1), none, 1, [], false⟩,
⟨some 70, .call (.f 5) [.c (.str [66]), .c (.bool true)], none, 3, [], false⟩,
⟨some 71, .call (.f 4) [.t 69, .c (.int .i64 5), .t 70], none, 3, [], false⟩,
⟨some 68, .mov (.t 71), none, 0, [], false⟩,
⟨some 72, .extract (.t 68) 0, none, 0, [], false⟩,
⟨some 73, .extract (.t 68) 1, none, 0, [], false⟩,
⟨some 74, .extract (.t 68) 2, none, 0, [], false⟩,
⟨none, .store 2 (.t 1) (.t 72), none, 5, [], false⟩,
⟨some 10, .mov (.t 73), none, 0, [], false⟩,
⟨some 11, .mov (.t 74), none, 0, [], false⟩])
(.seq
(.reg false [
⟨some 76, .load true 2 (.t 1), none, 1, [], false⟩,
⟨some 77, .call (.f 6) [.t 76, .c (.int .i64 1)], none, 3, [], false⟩,
⟨some 75, .mov (.t 77), none, 0, [], false⟩,
⟨some 78, .extract (.t 75) 0, none, 0, [], false⟩,
⟨some 79, .extract (.t 75) 1, none, 0, [], false⟩,
⟨some 80, .extract (.t 75) 2, none, 0, [], false⟩,
⟨none, .store 2 (.t 1) (.t 78), none, 5, [], false⟩,
⟨some 12, .mov (.t 79), none, 0, [], false⟩,
⟨some 13, .mov (.t 80), none, 0, [], false⟩])
(.seq
(.reg false [
⟨some 82, .load true 2 (.t 1), none, 1, [], false⟩,
⟨some 83, .call (.f 6) [.t 82, .c (.int .i64 2)], none, 3, [], false⟩,
⟨some 81, .mov (.t 83), none, 0, [], false⟩,
⟨some 84, .extract (.t 81) 0, none, 0, [], false⟩,
⟨some 85, .extract (.t 81) 1, none, 0, [], false⟩,
⟨some 86, .extract (.t 81) 2, none, 0, [], false⟩,
⟨none, .store 2 (.t 1) (.t 84), none, 5, [], false⟩,
⟨some 14, .mov (.t 85), none, 0, [], false⟩,
⟨some 15, .mov (.t 86), none, 0, [], false⟩])
(.seq
(.reg false [
⟨some 88, .load true 2 (.t 1), none, 1, [], false⟩,
⟨some 89, .call (.f 6) [.t 88, .c (.int .i64 3)], none, 3, [], false⟩,
⟨some 87, .mov (.t 89), none, 0, [], false⟩,
⟨some 90, .extract (.t 87) 0, none, 0, [], false⟩,
⟨some 91, .extract (.t 87) 1, none, 0, [], false⟩,
⟨some 92, .extract (.t 87) 2, none, 0, [], false⟩,
⟨none, .store 2 (.t 1) (.t 90), none, 5, [], false⟩,
⟨some 16, .mov (.t 91), none, 0, [], false⟩,
⟨some 17, .mov (.t 92), none, 0, [], false⟩])
(.seq
(.reg false [
⟨some 94, .load true 2 (.t 1), none, 1, [], false⟩,
⟨some 95, .build [.str [], .bool false] [(0, 1, .c (.str [67]))], none, 0, [], false⟩,
⟨some 96, .build [.str [], .bool false] [(0, 1, .c (.str [67])), (1, 1, .c (.bool true))], none, 0, [], false⟩,
⟨some 97, .mkisl 2 2 [.str [], .bool false] [(0, .t 95), (1, .t 96)], none, 0, [], false⟩,
⟨some 98, .call (.f 4) [.t 94, .c (.int .i64 6), .t 97], none, 3, [], false⟩,
⟨some 93, .mov (.t 98), none, 0, [], false⟩,
⟨some 99, .extract (.t 93) 0, none, 0, [], false⟩,
⟨some 100, .extract (.t 93) 1, none, 0, [], false⟩,
⟨some 101, .extract (.t 93) 2, none, 0, [], false⟩,
⟨none, .store 2 (.t 1) (.t 99), none, 5, [], false⟩,
⟨some 18, .mov (.t 100), none, 0, [], false⟩,
⟨some 19, .mov (.t 101), none, 0, [], false⟩])
(.seq
(.reg false [
⟨some 103, .load true 2 (.t 1), none, 1, [], false⟩,
⟨some 104, .call (.f 4) [.t 103, .c (.int .i64 6), .c (.nils)], none, 3, [], false⟩,
⟨some 102, .mov (.t 104), none, 0, [], false⟩,
⟨some 105, .extract (.t 102) 0, none, 0, [], false⟩,
⟨some 106, .extract (.t 102) 1, none, 0, [], false⟩,
⟨some 107, .extract (.t 102) 2, none, 0, [], false⟩,
⟨some 20, .new [.nils, .nils] 24, none, 2, [], false⟩,
⟨none, .store 2 (.t 20) (.t 105), none, 5, [], false⟩,
⟨some 21, .mov (.t 106), none, 0, [], false⟩,
⟨some 22, .mov (.t 107), none, 0, [], false⟩])
(.seq
(.reg false [
⟨some 109, .load true 2 (.t 1), none, 1, [], false⟩,
⟨some 110, .call (.f 6) [.t 109, .c (.int .i64 9)], none, 3, [], false⟩,
⟨some 108, .mov (.t 110), none, 0, [], false⟩,
⟨some 111, .extract (.t 108) 0, none, 0, [], false⟩,
⟨some 112, .extract (.t 108) 1, none, 0, [], false⟩,
⟨some 113, .extract (.t 108) 2, none, 0, [], false⟩,
⟨some 23, .new [.nils, .nils] 24, none, 2, [], false⟩,
⟨none, .store 2 (.t 23) (.t 111), none, 5, [], false⟩,
⟨some 24, .mov (.t 112), none, 0, [], false⟩,
⟨some 25, .mov (.t 113), none, 0, [], false⟩])
(.seq
(.seq
(.reg false [
⟨some 114, .mov (.t 2), none, 0, [], false⟩,
⟨some 115, .un .not (.t 114), none, 0, [], false⟩,
⟨some 116, .mov (.t 115), none, 0, [], false⟩,
⟨some 117, .mov (.t 4), some (116, false), 0, [], false⟩,
⟨some 118, .un .not (.t 117), some (116, false), 0, [], false⟩,
⟨some 119, .pick (.t 116) (.c (.bool true)) (.t 118), none, 0, [], false⟩,
⟨some 120, .mov (.t 119), none, 0, [], false⟩,
⟨some 121, .mov (.t 6), some (120, false), 0, [], false⟩,
⟨some 122, .pick (.t 120) (.c (.bool true)) (.t 121), none, 0, [], false⟩,
⟨some 123, .mov (.t 122), none, 0, [], false⟩,
⟨some 124, .mov (.t 8), some (123, false), 0, [], false⟩,
⟨some 125, .pick (.t 123) (.c (.bool true)) (.t 124), none, 0, [], false⟩,
⟨some 126, .mov (.t 125), none, 0, [], false⟩,
⟨some 127, .mov (.t 10), some (126, false), 0, [], false⟩,
⟨some 128, .pick (.t 126) (.c (.bool true)) (.t 127), none, 0, [], false⟩,
⟨some 129, .mov (.t 128), none, 0, [], false⟩,
⟨some 130, .mov (.t 12), some (129, false), 0, [], false⟩,
⟨some 131, .len .slice (.t 130), some (129, false), 0, [], false⟩,
⟨some 132, .bin .neq .int (.t 131) (.c (.int .i64 0)), some (129, false), 0, [], false⟩,
⟨some 133, .pick (.t 129) (.c (.bool true)) (.t 132), none, 0, [], false⟩,
⟨some 134, .mov (.t 133), none, 0, [], false⟩,
⟨some 135, .mov (.t 14), some (134, false), 0, [], false⟩,
⟨some 136, .mkisl 2 1 [.int .i64 0] [(0, .c (.int .i64 3)), (1, .c (.int .i64 5))], some (134, false), 0, [], false⟩,
⟨some 137, .call (.f 7) [.t 135, .t 136], some (134, false), 3, [], false⟩,
⟨some 138, .un .not (.t 137), some (134, false), 0, [], false⟩,
⟨some 139, .pick (.t 134) (.c (.bool true)) (.t 138), none, 0, [], false⟩,
⟨some 140, .mov (.t 139), none, 0, [], false⟩,
⟨some 141, .mov (.t 16), some (140, false), 0, [], false⟩,
⟨some 142, .mkisl 1 1 [.int .i64 0] [(0, .c (.int .i64 4))], some (140, false), 0, [], false⟩,
⟨some 143, .call (.f 7) [.t 141, .t 142], some (140, false), 3, [], false⟩,
⟨some 144, .un .not (.t 143), some (140, false), 0, [], false⟩,
⟨some 145, .pick (.t 140) (.c (.bool true)) (.t 144), none, 0, [], false⟩,
⟨some 146, .mov (.t 145), none, 0, [], false⟩,
⟨some 147, .mov (.t 18), some (146, false), 0, [], false⟩,
⟨some 148, .un .not (.t 147), some (146, false), 0, [], false⟩,
⟨some 149, .pick (.t 146) (.c (.bool true)) (.t 148), none, 0, [], false⟩,
⟨some 150, .mov (.t 149), none, 0, [], false⟩,
⟨some 151, .mov (.t 22), some (150, false), 0, [], false⟩,
⟨some 152, .bin .neq .int (.t 151) (.c (.int .i64 4)), some (150, false), 0, [], false⟩,
⟨some 153, .pick (.t 150) (.c (.bool true)) (.t 152), none, 0, [], false⟩,
⟨some 154, .mov (.t 153), none, 0, [], false⟩,
⟨some 155, .mov (.t 25), some (154, false), 0, [], false⟩,
⟨some 156, .bin .neq .int (.t 155) (.c (.int .i64 3)), some (154, false), 0, [], false⟩,
⟨some 157, .pick (.t 154) (.c (.bool true)) (.t 156), none, 0, [], false⟩])
(.cond (.t 157)
(.seq
(.reg false [
⟨some 0, .mov (.c (.bool false)), none, 0, [], false⟩])
.ret)
.skip))
(.seq
(.reg false [
⟨some 158, .addOff 0 (.t 1), none, 0, [], false⟩,
⟨some 159, .load false 1 (.t 158), none, 1, [], false⟩,
⟨some 160, .addOff 0 (.t 1), none, 0, [], false⟩,
⟨some 161, .load false 1 (.t 160), none, 1, [], false⟩,
⟨some 162, .len .slice (.t 161), none, 0, [], false⟩,
⟨some 163, .bin .sub .no (.t 162) (.c (.int .i64 1)), none, 0, [], false⟩,
⟨some 164, .idxAddr none 2 (.t 159) (.t 163), none, 0, [], false⟩,
⟨some 165, .load true 2 (.t 164), none, 1, [], false⟩,
⟨some 26, .new [.int .i64 0, .nils] 37, none, 2, [], false⟩,
⟨none, .store 2 (.t 26) (.t 165), none, 5, [], false⟩])
(.seq
(.reg false [
⟨some 166, .build [.int .i64 0, .int .i64 0, .str [], .int .i64 0, .int .i64 0] [(0, 1, .c (.int .i64 385)), (1, 1, .c (.int .i64 4)), (2, 1, .c (.str [66]))], none, 0, [], false⟩,
⟨some 167, .build [.int .i64 0, .int .i64 0, .str [], .int .i64 0, .int .i64 0] [(0, 1, .c (.int .i64 384)), (1, 1, .c (.int .i64 4)), (2, 1, .c (.str [65]))], none, 0, [], false⟩,
⟨some 168, .mkisl 2 5 [.int .i64 0, .int .i64 0, .str [], .int .i64 0, .int .i64 0] [(0, .t 166), (1, .t 167)], none, 0, [], false⟩,
⟨some 27, .mov (.t 168), none, 0, [], false⟩])
(.seq
(.reg false [
⟨some 170, .mov (.t 27), none, 0, [], false⟩,
⟨some 171, .build [.int .i64 0, .str []] [(0, 1, .c (.int .i64 4))], none, 0, [], false⟩,
⟨some 172, .build [.int .i64 0, .str []] [(0, 1, .c (.int .i64 4)), (1, 1, .c (.str [65]))], none, 0, [], false⟩,
⟨some 173, .mkisl 2 2 [.int .i64 0, .str []] [(0, .t 171), (1, .t 172)], none, 0, [], false⟩,
⟨some 174, .call (.f 8) [.t 170, .c (.nils), .t 173], none, 3, [], false⟩,
⟨some 169, .mov (.t 174), none, 0, [], false⟩,
⟨some 175, .extract (.t 169) 0, none, 0, [], false⟩,
⟨some 176, .extract (.t 169) 1, none, 0, [], false⟩,
⟨some 28, .mov (.t 175), none, 0, [], false⟩,
⟨some 29, .mov (.t 176), none, 0, [], false⟩])
(.seq
(.reg false [
⟨some 178, .mov (.t 27), none, 0, [], false⟩,
⟨some 179, .build [.int .i64 0, .str []] [(0, 1, .c (.int .i64 1))], none, 0, [], false⟩,
⟨some 180, .mkisl 1 2 [.int .i64 0, .str []] [(0, .t 179)], none, 0, [], false⟩,
⟨some 181, .call (.f 8) [.t 178, .c (.nils), .t 180], none, 3, [], false⟩,
⟨some 177, .mov (.t 181), none, 0, [], false⟩,
⟨some 182, .extract (.t 177) 0, none, 0, [], false⟩,
⟨some 183, .extract (.t 177) 1, none, 0, [], false⟩,
⟨some 30, .mov (.t 182), none, 0, [], false⟩,
⟨some 31, .mov (.t 183), none, 0, [], false⟩])
(.seq
(.reg false [
⟨some 185, .mov (.t 27), none, 0, [], false⟩,
⟨some 186, .slice .slice 5 (.t 185) none (some (.c (.int .i64 1))) none, none, 1, [], false⟩,
⟨some 187, .build [.int .i64 0, .str []] [(0, 1, .c (.int .i64 4))], none, 0, [], false⟩,
⟨some 188, .build [.int .i64 0, .str []] [(0, 1, .c (.int .i64 4))], none, 0, [], false⟩,
⟨some 189, .mkisl 2 2 [.int .i64 0, .str []] [(0, .t 187), (1, .t 188)], none, 0, [], false⟩,
⟨some 190, .call (.f 8) [.t 186, .c (.nils), .t 189], none, 3, [], false⟩,
⟨some 184, .mov (.t 190), none, 0, [], false⟩,
⟨some 191, .extract (.t 184) 0, none, 0, [], false⟩,
⟨some 192, .extract (.t 184) 1, none, 0, [], false⟩,
⟨some 32, .mov (.t 191), none, 0, [], false⟩,
⟨some 33, .mov (.t 192), none, 0, [], false⟩])
(.seq
(.reg false [
⟨some 194, .mov (.t 27), none, 0, [], false⟩,
⟨some 195, .build [.int .i64 0, .str []] [(0, 1, .c (.int .i64 4)), (1, 1, .c (.str [65]))], none, 0, [], false⟩,
⟨some 196, .build [.int .i64 0, .str []] [(0, 1, .c (.int .i64 4)), (1, 1, .c (.str [65]))], none, 0, [], false⟩,
⟨some 197, .mkisl 2 2 [.int .i64 0, .str []] [(0, .t 195), (1, .t 196)], none, 0, [], false⟩,
⟨some 198, .call (.f 8) [.t 194, .c (.nils), .t 197], none, 3, [], false⟩,
⟨some 193, .mov (.t 198), none, 0, [], false⟩,
⟨some 199, .extract (.t 193) 0, none, 0, [], false⟩,
⟨some 200, .extract (.t 193) 1, none, 0, [], false⟩,
⟨some 34, .mov (.t 199), none, 0, [], false⟩,
⟨some 35, .mov (.t 200), none, 0, [], false⟩])
(.seq
(.seq
(.reg false [
⟨some 201, .addOff 0 (.t 26), none, 0, [], false⟩,
⟨some 202, .load false 1 (.t 201), none, 1, [], false⟩,
⟨some 203, .bin .neq .int (.t 202) (.c (.int .i64 6)), none, 0, [], false⟩,
⟨some 204, .mov (.t 203), none, 0, [], false⟩,
⟨some 205, .addOff 1 (.t 26), some (204, false), 0, [], false⟩,
⟨some 206, .load false 1 (.t 205), some (204, false), 1, [], false⟩,
⟨some 207, .len .slice (.t 206), some (204, false), 0, [], false⟩,
⟨some 208, .bin .neq .int (.t 207) (.c (.int .i64 1)), some (204, false), 0, [], false⟩,
⟨some 209, .pick (.t 204) (.c (.bool true)) (.t 208), none, 0, [], false⟩,
⟨some 210, .mov (.t 209), none, 0, [], false⟩,
⟨some 211, .addOff 1 (.t 26), some (210, false), 0, [], false⟩,
⟨some 212, .load false 1 (.t 211), some (210, false), 1, [], false⟩,
⟨some 213, .idxAddr none 2 (.t 212) (.c (.int .i64 0)), some (210, false), 0, [], false⟩,
⟨some 214, .load true 2 (.t 213), some (210, false), 1, [], false⟩,
⟨some 215, .build [.str [], .bool false] [(0, 1, .c (.str [67])), (1, 1, .c (.bool true))], some (210, false), 0, [], false⟩,
⟨some 216, .bin .neq (.struct [.str, .bool]) (.t 214) (.t 215), some (210, false), 0, [], false⟩,
⟨some 217, .pick (.t 210) (.c (.bool true)) (.t 216), none, 0, [], false⟩,
⟨some 218, .mov (.t 217), none, 0, [], false⟩,
⟨some 219, .mov (.t 29), some (218, false), 0, [], false⟩,
⟨some 220, .bin .neq .int (.t 219) (.c (.int .i64 0)), some (218, false), 0, [], false⟩,
⟨some 221, .pick (.t 218) (.c (.bool true)) (.t 220), none, 0, [], false⟩,
⟨some 222, .mov (.t 221), none, 0, [], false⟩,
⟨some 223, .mov (.t 28), some (222, false), 0, [], false⟩,
⟨some 224, .mkisl 2 1 [.int .i64 0] [(0, .c (.int .i64 385)), (1, .c (.int .i64 384))], some (222, false), 0, [], false⟩,
⟨some 225, .call (.f 7) [.t 223, .t 224], some (222, false), 3, [], false⟩,
⟨some 226, .un .not (.t 225), some (222, false), 0, [], false⟩,
⟨some 227, .pick (.t 222) (.c (.bool true)) (.t 226), none, 0, [], false⟩,
⟨some 228, .mov (.t 227), none, 0, [], false⟩,
⟨some 229, .mov (.t 31), some (228, false), 0, [], false⟩,
⟨some 230, .bin .neq .int (.t 229) (.c (.int .i64 430)), some (228, false), 0, [], false⟩,
⟨some 231, .pick (.t 228) (.c (.bool true)) (.t 230), none, 0, [], false⟩,
⟨some 232, .mov (.t 231), none, 0, [], false⟩,
⟨some 233, .mov (.t 33), some (232, false), 0, [], false⟩,
⟨some 234, .bin .neq .int (.t 233) (.c (.int .i64 370)), some (232, false), 0, [], false⟩,
⟨some 235, .pick (.t 232) (.c (.bool true)) (.t 234), none, 0, [], false⟩,
⟨some 236, .mov (.t 235), none, 0, [], false⟩,
⟨some 237, .mov (.t 35), some (236, false), 0, [], false⟩,
⟨some 238, .bin .neq .int (.t 237) (.c (.int .i64 0)), some (236, false), 0, [], false⟩,
⟨some 239, .pick (.t 236) (.c (.bool true)) (.t 238), none, 0, [], false⟩,
⟨some 240, .mov (.t 239), none, 0, [], false⟩,
⟨some 241, .mov (.t 34), some (240, false), 0, [], false⟩,
⟨some 242, .mkisl 2 1 [.int .i64 0] [(0, .c (.int .i64 384)), (1, .c (.int .i64 384))], some (240, false), 0, [], false⟩,
⟨some 243, .call (.f 7) [.t 241, .t 242], some (240, false), 3, [], false⟩,
⟨some 244, .un .not (.t 243), some (240, false), 0, [], false⟩,
⟨some 245, .pick (.t 240) (.c (.bool true)) (.t 244), none, 0, [], false⟩])
(.cond (.t 245)
(.seq
(.reg false [
⟨some 0, .mov (.c (.bool false)), none, 0, [], false⟩])
.ret)
.skip))
(.seq
(.reg false [
⟨some 246, .build [.str [], .str [], .str [], .int .i64 0, .bool false, .int .i64 0, .int .i64 0, .int .i64 0, .int .i64 0, .str [], .int .i64 0, .int .i64 0, .int .i64 0, .int .i64 0, .int .i64 0, .bool false, .bool false, .int .i64 0, .int .i64 0, .int .i64 0, .int .i64 0, .str [], .nils, .bool false, .bool false] [(1, 1, .c (.str [66])), (5, 1, .c (.int .i64 3))], none, 0, [], false⟩,
⟨some 247, .build [.str [], .str [], .str [], .int .i64 0, .bool false, .int .i64 0, .int .i64 0, .int .i64 0, .int .i64 0, .str [], .int .i64 0, .int .i64 0, .int .i64 0, .int .i64 0, .int .i64 0, .bool false, .bool false, .int .i64 0, .int .i64 0, .int .i64 0, .int .i64 0, .str [], .nils, .bool false, .bool false] [(1, 1, .c (.str [65])), (5, 1, .c (.int .i64 2))], none, 0, [], false⟩,
⟨some 248, .build [.str [], .str [], .str [], .int .i64 0, .bool false, .int .i64 0, .int .i64 0, .int .i64 0, .int .i64 0, .str [], .int .i64 0, .int .i64 0, .int .i64 0, .int .i64 0, .int .i64 0, .bool false, .bool false, .int .i64 0, .int .i64 0, .int .i64 0, .int .i64 0, .str [], .nils, .bool false, .bool false] [(21, 1, .c (.str [65])), (1, 1, .c (.str [90]))], none, 0, [], false⟩,
⟨some 249, .mkisl 3 25 [.str [], .str [], .str [], .int .i64 0, .bool false, .int .i64 0, .int .i64 0, .int .i64 0, .int .i64 0, .str [], .int .i64 0, .int .i64 0, .int .i64 0, .int .i64 0, .int .i64 0, .bool false, .bool false, .int .i64 0, .int .i64 0, .int .i64 0, .int .i64 0, .str [], .nils, .bool false, .bool false] [(0, .t 246), (1, .t 247), (2, .t 248)], none, 0, [], false⟩,
⟨some 250, .build [.str [], .str [], .str [], .nils, .bool false, .bool false, .int .i64 0, .nils] [(7, 1, .t 249)], none, 0, [], false⟩,
⟨some 251, .build [.str [], .str [], .str [], .int .i64 0, .bool false, .int .i64 0, .int .i64 0, .int .i64 0, .int .i64 0, .str [], .int .i64 0, .int .i64 0, .int .i64 0, .int .i64 0, .int .i64 0, .bool false, .bool false, .int .i64 0, .int .i64 0, .int .i64 0, .int .i64 0, .str [], .nils, .bool false, .bool false] [(1, 1, .c (.str [66])), (5, 1, .c (.int .i64 3)), (6, 1, .c (.int .i64 2))], none, 0, [], false⟩,
⟨some 252, .build [.str [], .str [], .str [], .int .i64 0, .bool false, .int .i64 0, .int .i64 0, .int .i64 0, .int .i64 0, .str [], .int .i64 0, .int .i64 0, .int .i64 0, .int .i64 0, .int .i64 0, .bool false, .bool false, .int .i64 0, .int .i64 0, .int .i64 0, .int .i64 0, .str [], .nils, .bool false, .bool false] [(1, 1, .c (.str [67])), (5, 1, .c (.int .i64 3)), (4, 1, .c (.bool true))], none, 0, [], false⟩,
⟨some 253, .mkisl 2 25 [.str [], .str [], .str [], .int .i64 0, .bool false, .int .i64 0, .int .i64 0, .int .i64 0, .int .i64 0, .str [], .int .i64 0, .int .i64 0, .int .i64 0, .int .i64 0, .int .i64 0, .bool false, .bool false, .int .i64 0, .int .i64 0, .int .i64 0, .int .i64 0, .str [], .nils, .bool false, .bool false] [(0, .t 251), (1, .t 252)], none, 0, [], false⟩,
⟨some 254, .build [.str [], .str [], .str [], .nils, .bool false, .bool false, .int .i64 0, .nils] [(7, 1, .t 253)], none, 0, [], false⟩,
⟨some 255, .mkisl 2 8 [.str [], .str [], .str [], .nils, .bool false, .bool false, .int .i64 0, .nils] [(0, .t 250), (1, .t 254)], none, 0, [], false⟩,
⟨some 256, .build [.str [], .str [], .int .i64 0, .nils, .nils] [(4, 1, .t 255)], none, 0, [], false⟩,
⟨some 257, .call (.f 9) [.t 256], none, 3, [], false⟩,
⟨some 36, .mov (.t 257), none, 0, [], false⟩])
(.seq
(.reg false [
⟨some 258, .build [.str [], .str [], .str [], .int .i64 0, .bool false, .int .i64 0, .int .i64 0, .int .i64 0, .int .i64 0, .str [], .int .i64 0, .int .i64 0, .int .i64 0, .int .i64 0, .int .i64 0, .bool false, .bool false, .int .i64 0, .int .i64 0, .int .i64 0, .int .i64 0, .str [], .nils, .bool false, .bool false] [(1, 1, .c (.str [88, 46, 71, 48, 48, 49, 50, 86, 48, 48])), (5, 1, .c (.int .i64 2))], none, 0, [], false⟩,
⟨some 259, .mkisl 1 25 [.str [], .str [], .str [], .int .i64 0, .bool false, .int .i64 0, .int .i64 0, .int .i64 0, .int .i64 0, .str [], .int .i64 0, .int .i64 0, .int .i64 0, .int .i64 0, .int .i64 0, .bool false, .bool false, .int .i64 0, .int .i64 0, .int .i64 0, .int .i64 0, .str [], .nils, .bool false, .bool false] [(0, .t 258)], none, 0, [], false⟩,
⟨some 260, .build [.str [], .str [], .str [], .nils, .bool false, .bool false, .int .i64 0, .nils] [(7, 1, .t 259)], none, 0, [], false⟩,
⟨some 261, .mkisl 1 8 [.str [], .str [], .str [], .nils, .bool false, .bool false, .int .i64 0, .nils] [(0, .t 260)], none, 0, [], false⟩,
⟨some 262, .build [.str [], .str [], .int .i64 0, .nils, .nils] [(4, 1, .t 261)], none, 0, [], false⟩,
⟨some 263, .call (.f 9) [.t 262], none, 3, [], false⟩,
⟨some 37, .mov (.t 263), none, 0, [], false⟩])
(.seq
(.reg false [
⟨some 264, .mov (.t 36), none, 0, [], false⟩,
⟨some 265, .len .slice (.t 264), none, 0, [], false⟩,
⟨some 266, .bin .eql .int (.t 265) (.c (.int .i64 4)), none, 0, [], false⟩,
⟨some 267, .mov (.t 266), none, 0, [], false⟩,
⟨some 268, .mov (.t 36), some (267, true), 0, [], false⟩,
⟨some 269, .idxAddr none 2 (.t 268) (.c (.int .i64 0)), some (267, true), 0, [], false⟩,
⟨some 270, .load true 2 (.t 269), some (267, true), 1, [], false⟩,
⟨some 271, .build [.str [], .bool false] [(0, 1, .c (.str [65])), (1, 1, .c (.bool true))], some (267, true), 0, [], false⟩,
⟨some 272, .bin .eql (.struct [.str, .bool]) (.t 270) (.t 271), some (267, true), 0, [], false⟩,
⟨some 273, .pick (.t 267) (.t 272) (.c (.bool false)), none, 0, [], false⟩,
⟨some 274, .mov (.t 273), none, 0, [], false⟩,
⟨some 275, .mov (.t 36), some (274, true), 0, [], false⟩,
⟨some 276, .idxAddr none 2 (.t 275) (.c (.int .i64 1)), some (274, true), 0, [], false⟩,
⟨some 277, .load true 2 (.t 276), some (274, true), 1, [], false⟩,
⟨some 278, .build [.str [], .bool false] [(0, 1, .c (.str [66])), (1, 1, .c (.bool true))], some (274, true), 0, [], false⟩,
⟨some 279, .bin .eql (.struct [.str, .bool]) (.t 277) (.t 278), some (274, true), 0, [], false⟩,
⟨some 280, .pick (.t 274) (.t 279) (.c (.bool false)), none, 0, [], false⟩,
⟨some 281, .mov (.t 280), none, 0, [], false⟩,
⟨some 282, .mov (.t 36), some (281, true), 0, [], false⟩,
⟨some 283, .idxAddr none 2 (.t 282) (.c (.int .i64 2)), some (281, true), 0, [], false⟩,
⟨some 284, .load true 2 (.t 283), some (281, true), 1, [], false⟩,
⟨some 285, .build [.str [], .bool false] [(0, 1, .c (.str [67]))], some (281, true), 0, [], false⟩,
⟨some 286, .bin .eql (.struct [.str, .bool]) (.t 284) (.t 285), some (281, true), 0, [], false⟩,
⟨some 287, .pick (.t 281) (.t 286) (.c (.bool false)), none, 0, [], false⟩,
⟨some 288, .mov (.t 287), none, 0, [], false⟩,
⟨some 289, .mov (.t 36), some (288, true), 0, [], false⟩,
⟨some 290, .idxAddr none 2 (.t 289) (.c (.int .i64 3)), some (288, true), 0, [], false⟩,
⟨some 291, .load true 2 (.t 290), some (288, true), 1, [], false⟩,
⟨some 292, .build [.str [], .bool false] [(0, 1, .c (.str [83, 89, 83, 49, 46, 76, 73, 78, 75, 76, 73, 66]))], some (288, true), 0, [], false⟩,
⟨some 293, .bin .eql (.struct [.str, .bool]) (.t 291) (.t 292), some (288, true), 0, [], false⟩,
⟨some 294, .pick (.t 288) (.t 293) (.c (.bool false)), none, 0, [], false⟩,
⟨some 295, .mov (.t 294), none, 0, [], false⟩,
⟨some 296, .mov (.t 37), some (295, true), 0, [], false⟩,
⟨some 297, .len .slice (.t 296), some (295, true), 0, [], false⟩,
⟨some 298, .bin .eql .int (.t 297) (.c (.int .i64 3)), some (295, true), 0, [], false⟩,
⟨some 299, .pick (.t 295) (.t 298) (.c (.bool false)), none, 0, [], false⟩,
⟨some 300, .mov (.t 299), none, 0, [], false⟩,
⟨some 301, .mov (.t 37), some (300, true), 0, [], false⟩,
⟨some 302, .idxAddr none 2 (.t 301) (.c (.int .i64 1)), some (300, true), 0, [], false⟩,
⟨some 303, .load true 2 (.t 302), some (300, true), 1, [], false⟩,
⟨some 304, .build [.str [], .bool false] [(0, 1, .c (.str [88])), (1, 1, .c (.bool true))], some (300, true), 0, [], false⟩,
⟨some 305, .bin .eql (.struct [.str, .bool]) (.t 303) (.t 304), some (300, true), 0, [], false⟩,
⟨some 306, .pick (.t 300) (.t 305) (.c (.bool false)), none, 0, [], false⟩,
⟨some 307, .mov (.t 306), none, 0, [], false⟩,
⟨some 308, .mov (.t 37), some (307, true), 0, [], false⟩,
⟨some 309, .idxAddr none 2 (.t 308) (.c (.int .i64 2)), some (307, true), 0, [], false⟩,
⟨some 310, .load true 2 (.t 309), some (307, true), 1, [], false⟩,
⟨some 311, .build [.str [], .bool false] [(0, 1, .c (.str [88, 46, 71, 48, 48, 49, 50, 86, 48, 48])), (1, 1, .c (.bool true))], some (307, true), 0, [], false⟩,
⟨some 312, .bin .eql (.struct [.str, .bool]) (.t 310) (.t 311), some (307, true), 0, [], false⟩,
⟨some 313, .pick (.t 307) (.t 312) (.c (.bool false)), none, 0, [], false⟩,
⟨some 314, .mov (.t 313), none, 0, [], false⟩,
⟨some 315, .call (.f 10) [], some (314, true), 3, [], false⟩,
⟨some 316, .pick (.t 314) (.t 315) (.c (.bool false)), none, 0, [], false⟩,
⟨some 0, .mov (.t 316), none, 0, [], false⟩])
.ret))))))))))))))))))))))), 0, true⟩
def af4 : AFunc := ⟨7, [.cell 6 true 2, .tmp 7, .tmp 8],
  (.seq
(.reg false [
⟨some 3, .box (.t 0) 24 2, none, 2, [], false⟩,
⟨some 6, .new [.nils, .nils] 24, none, 2, [], false⟩,
⟨some 7, .mov (.c (.bool false)), none, 0, [], false⟩,
⟨some 8, .mov (.c (.int .i64 0)), none, 0, [], false⟩])
(.seq
(.seq
(.reg false [
⟨some 12, .load true 2 (.t 3), none, 1, [], false⟩,
⟨some 13, .call (.f 11) [.t 12], none, 3, [], false⟩,
⟨some 9, .mov (.t 13), none, 0, [], false⟩])
(.seq
(.reg false [
⟨some 14, .mov (.t 9), none, 0, [], false⟩,
⟨some 15, .bin .neq .int (.t 14) (.c (.int .i64 0)), none, 0, [], false⟩])
(.cond (.t 15)
(.seq
(.reg false [
⟨some 16, .build [.nils, .nils] [], none, 0, [], false⟩,
⟨some 17, .mov (.t 9), none, 0, [], false⟩,
⟨none, .store 2 (.t 6) (.t 16), none, 5, [], false⟩,
⟨some 7, .mov (.c (.bool false)), none, 0, [], false⟩,
⟨some 8, .mov (.t 17), none, 0, [], false⟩])
.ret)
.skip)))
(.seq
(.seq
(.reg false [
⟨some 18, .addOff 0 (.t 3), none, 0, [], false⟩,
⟨some 19, .load false 1 (.t 18), none, 1, [], false⟩,
⟨some 20, .mov (.t 1), none, 0, [], false⟩,
⟨some 21, .call (.f 12) [.t 19, .t 20], none, 3, [], false⟩,
⟨some 22, .bin .geq .no (.t 21) (.c (.int .i64 0)), none, 0, [], false⟩,
⟨some 23, .mov (.t 22), none, 0, [], false⟩,
⟨some 24, .addOff 1 (.t 3), some (23, false), 0, [], false⟩,
⟨some 25, .load false 1 (.t 24), some (23, false), 1, [], false⟩,
⟨some 26, .mov (.t 1), some (23, false), 0, [], false⟩,
⟨some 27, .call (.f 12) [.t 25, .t 26], some (23, false), 3, [], false⟩,
⟨some 28, .bin .geq .no (.t 27) (.c (.int .i64 0)), some (23, false), 0, [], false⟩,
⟨some 29, .pick (.t 23) (.c (.bool true)) (.t 28), none, 0, [], false⟩])
(.cond (.t 29)
(.seq
(.reg false [
⟨some 30, .build [.nils, .nils] [], none, 0, [], false⟩,
⟨none, .store 2 (.t 6) (.t 30), none, 5, [], false⟩,
⟨some 7, .mov (.c (.bool false)), none, 0, [], false⟩,
⟨some 8, .mov (.c (.int .i64 4)), none, 0, [], false⟩])
.ret)
.skip))
(.seq
(.reg false [
⟨some 31, .mov (.t 1), none, 0, [], false⟩,
⟨some 32, .mov (.t 2), none, 0, [], false⟩,
⟨some 33, .call (.f 13) [.t 32], none, 5, [], false⟩,
⟨some 34, .build [.int .i64 0, .nils] [(0, 1, .t 31), (1, 1, .t 33)], none, 0, [], false⟩,
⟨some 10, .new [.int .i64 0, .nils] 37, none, 2, [], false⟩,
⟨none, .store 2 (.t 10) (.t 34), none, 5, [], false⟩])
(.seq
(.seq
(.reg false [
⟨some 35, .addOff 1 (.t 10), none, 0, [], false⟩,
⟨some 36, .load false 1 (.t 35), none, 1, [], false⟩,
⟨some 37, .len .slice (.t 36), none, 0, [], false⟩,
⟨some 38, .bin .gtr .no (.t 37) (.c (.int .i64 512)), none, 0, [], false⟩])
(.cond (.t 38)
(.seq
(.reg false [
⟨some 39, .build [.nils, .nils] [], none, 0, [], false⟩,
⟨none, .store 2 (.t 6) (.t 39), none, 5, [], false⟩,
⟨some 7, .mov (.c (.bool false)), none, 0, [], false⟩,
⟨some 8, .mov (.c (.int .i64 2)), none, 0, [], false⟩])
.ret)
.skip))
(.seq
(.reg false [
⟨some 40, .load true 2 (.t 3), none, 1, [], false⟩,
⟨some 41, .call (.f 14) [.t 40], none, 4, [], false⟩,
⟨some 11, .new [.nils, .nils] 24, none, 2, [], false⟩,
⟨none, .store 2 (.t 11) (.t 41), none, 5, [], false⟩])
(.seq
(.seq
(.reg false [
⟨some 42, .load true 2 (.t 10), none, 1, [], false⟩,
⟨some 43, .addOff 0 (.t 3), none, 0, [], false⟩,
⟨some 44, .load false 1 (.t 43), none, 1, [], false⟩,
⟨some 45, .call (.f 15) [.t 42, .t 44], none, 3, [], false⟩,
⟨some 46, .mov (.t 45), none, 0, [], false⟩,
⟨some 47, .load true 2 (.t 10), some (46, false), 1, [], false⟩,
⟨some 48, .addOff 1 (.t 3), some (46, false), 0, [], false⟩,
⟨some 49, .load false 1 (.t 48), some (46, false), 1, [], false⟩,
⟨some 50, .call (.f 15) [.t 47, .t 49], some (46, false), 3, [], false⟩,
⟨some 51, .pick (.t 46) (.c (.bool true)) (.t 50), none, 0, [], false⟩])
(.cond (.t 51)
(.seq
(.reg false [
⟨some 52, .addOff 1 (.t 11), none, 0, [], false⟩,
⟨some 53, .load false 1 (.t 52), none, 1, [], false⟩,
⟨some 54, .load true 2 (.t 10), none, 1, [], false⟩,
⟨some 55, .mkslice 1 2 37 [.int .i64 0, .nils] [(0, .t 54)], none, 2, [], false⟩,
⟨some 56, .append 37 2 32 (.t 53) (.t 55), none, 5, [], false⟩,
⟨some 57, .addOff 1 (.t 11), none, 0, [], false⟩,
⟨none, .store 1 (.t 57) (.t 56), none, 5, [], false⟩])
(.seq
(.reg false [
⟨some 58, .load true 2 (.t 11), none, 1, [], false⟩,
⟨none, .store 2 (.t 6) (.t 58), none, 5, [], false⟩,
⟨some 7, .mov (.c (.bool false)), none, 0, [], false⟩,
⟨some 8, .mov (.c (.int .i64 0)), none, 0, [], false⟩])
.ret))
.skip))
(.seq
(.reg false [
⟨some 59, .addOff 0 (.t 11), none, 0, [], false⟩,
⟨some 60, .load false 1 (.t 59), none, 1, [], false⟩,
⟨some 61, .load true 2 (.t 10), none, 1, [], false⟩,
⟨some 62, .mkslice 1 2 37 [.int .i64 0, .nils] [(0, .t 61)], none, 2, [], false⟩,
⟨some 63, .append 37 2 32 (.t 60) (.t 62), none, 5, [], false⟩,
⟨some 64, .addOff 0 (.t 11), none, 0, [], false⟩,
⟨none, .store 1 (.t 64) (.t 63), none, 5, [], false⟩])
(.seq
(.reg false [
⟨some 65, .load true 2 (.t 11), none, 1, [], false⟩,
⟨none, .store 2 (.t 6) (.t 65), none, 5, [], false⟩,
⟨some 7, .mov (.c (.bool true)), none, 0, [], false⟩,
⟨some 8, .mov (.c (.int .i64 0)), none, 0, [], false⟩])
.ret))))))))), 0, false⟩
def af5 : AFunc := ⟨4, [.tmp 4],
  (.seq
(.reg false [
⟨some 4, .mov (.c (.nils)), none, 0, [], false⟩])
(.seq
(.reg false [
⟨some 5, .mov (.t 0), none, 0, [], false⟩,
⟨some 6, .mov (.t 1), none, 0, [], false⟩,
⟨some 7, .build [.str [], .bool false] [(0, 1, .t 5), (1, 1, .t 6)], none, 0, [], false⟩,
⟨some 8, .mkisl 1 2 [.str [], .bool false] [(0, .t 7)], none, 0, [], false⟩,
⟨some 4, .mov (.t 8), none, 0, [], false⟩])
.ret)), 0, true⟩
def af6 : AFunc := ⟨7, [.cell 4 true 2, .tmp 5, .tmp 6],
  (.seq
(.reg false [
⟨some 2, .box (.t 0) 24 2, none, 2, [], false⟩,
⟨some 4, .new [.nils, .nils] 24, none, 2, [], false⟩,
⟨some 5, .mov (.c (.nils)), none, 0, [], false⟩,
⟨some 6, .mov (.c (.int .i64 0)), none, 0, [], false⟩])
(.seq
(.seq
(.reg false [
⟨some 15, .load true 2 (.t 2), none, 1, [], false⟩,
⟨some 16, .call (.f 11) [.t 15], none, 3, [], false⟩,
⟨some 7, .mov (.t 16), none, 0, [], false⟩])
(.seq
(.reg false [
⟨some 17, .mov (.t 7), none, 0, [], false⟩,
⟨some 18, .bin .neq .int (.t 17) (.c (.int .i64 0)), none, 0, [], false⟩])
(.cond (.t 18)
(.seq
(.reg false [
⟨some 19, .build [.nils, .nils] [], none, 0, [], false⟩,
⟨some 20, .mov (.t 7), none, 0, [], false⟩,
⟨none, .store 2 (.t 4) (.t 19), none, 5, [], false⟩,
⟨some 5, .mov (.c (.nils)), none, 0, [], false⟩,
⟨some 6, .mov (.t 20), none, 0, [], false⟩])
.ret)
.skip)))
(.seq
(.reg false [
⟨some 21, .load true 2 (.t 2), none, 1, [], false⟩,
⟨some 22, .call (.f 14) [.t 21], none, 4, [], false⟩,
⟨some 8, .new [.nils, .nils] 24, none, 2, [], false⟩,
⟨none, .store 2 (.t 8) (.t 22), none, 5, [], false⟩])
(.seq
(.seq
(.reg false [
⟨some 23, .addOff 0 (.t 8), none, 0, [], false⟩,
⟨some 24, .load false 1 (.t 23), none, 1, [], false⟩,
⟨some 25, .mov (.t 1), none, 0, [], false⟩,
⟨some 26, .call (.f 12) [.t 24, .t 25], none, 3, [], false⟩,
⟨some 9, .mov (.t 26), none, 0, [], false⟩])
(.seq
(.reg false [
⟨some 27, .mov (.t 9), none, 0, [], false⟩,
⟨some 28, .bin .geq .no (.t 27) (.c (.int .i64 0)), none, 0, [], false⟩])
(.cond (.t 28)
(.reg false [
⟨some 29, .addOff 0 (.t 8), none, 0, [], false⟩,
⟨some 30, .load false 1 (.t 29), none, 1, [], false⟩,
⟨some 31, .mov (.t 9), none, 0, [], false⟩,
⟨some 32, .mov (.t 9), none, 0, [], false⟩,
⟨some 33, .bin .add .no (.t 32) (.c (.int .i64 1)), none, 0, [], false⟩,
⟨some 34, .call (.f 16) [.t 30, .t 31, .t 33], none, 5, [], false⟩,
⟨some 35, .addOff 0 (.t 8), none, 0, [], false⟩,
⟨none, .store 1 (.t 35) (.t 34), none, 5, [], false⟩])
(.seq
(.reg false [
⟨some 36, .addOff 1 (.t 8), none, 0, [], false⟩,
⟨some 37, .load false 1 (.t 36), none, 1, [], false⟩,
⟨some 38, .mov (.t 1), none, 0, [], false⟩,
⟨some 39, .call (.f 12) [.t 37, .t 38], none, 3, [], false⟩,
⟨some 10, .mov (.t 39), none, 0, [], false⟩])
(.seq
(.reg false [
⟨some 40, .mov (.t 10), none, 0, [], false⟩,
⟨some 41, .bin .geq .no (.t 40) (.c (.int .i64 0)), none, 0, [], false⟩])
(.cond (.t 41)
(.reg false [
⟨some 42, .addOff 1 (.t 8), none, 0, [], false⟩,
⟨some 43, .load false 1 (.t 42), none, 1, [], false⟩,
⟨some 44, .mov (.t 10), none, 0, [], false⟩,
⟨some 45, .mov (.t 10), none, 0, [], false⟩,
⟨some 46, .bin .add .no (.t 45) (.c (.int .i64 1)), none, 0, [], false⟩,
⟨some 47, .call (.f 16) [.t 43, .t 44, .t 46], none, 5, [], false⟩,
⟨some 48, .addOff 1 (.t 8), none, 0, [], false⟩,
⟨none, .store 1 (.t 48) (.t 47), none, 5, [], false⟩])
(.seq
(.reg false [
⟨some 49, .build [.nils, .nils] [], none, 0, [], false⟩,
⟨none, .store 2 (.t 4) (.t 49), none, 5, [], false⟩,
⟨some 5, .mov (.c (.nils)), none, 0, [], false⟩,
⟨some 6, .mov (.c (.int .i64 3)), none, 0, [], false⟩])
.ret)))))))
(.seq
(.reg false [
⟨some 11, .mov (.c (.nils)), none, 0, [], false⟩])
(.seq
(.reg false [
⟨some 50, .addOff 1 (.t 8), none, 0, [], false⟩,
⟨some 51, .load false 1 (.t 50), none, 1, [], false⟩,
⟨some 12, .mov (.t 51), none, 0, [], false⟩])
(.seq
(.reg false [
⟨some 52, .addOff 1 (.t 8), none, 0, [], false⟩,
⟨none, .store 1 (.t 52) (.c (.nils)), none, 5, [], false⟩])
(.seq
(.seq
(.reg false [
⟨some 53, .mov (.t 12), none, 0, [], false⟩,
⟨some 54, .len .slice (.t 53), none, 0, [], false⟩,
⟨some 55, .mov (.c (.int .i64 0)), none, 0, [], false⟩])
(.block 0
(.loop [4, 8, 11, 53, 54, 55]
(.seq
(.reg false [
⟨some 56, .bin .lss .no (.t 55) (.t 54), none, 0, [], false⟩])
(.seq
(.cond (.t 56)
.skip
(.exit 0))
(.seq
(.block 1
(.seq
(.reg false [
⟨some 57, .idxAddr none 2 (.t 53) (.t 55), none, 0, [], false⟩,
⟨some 58, .load true 2 (.t 57), none, 1, [], false⟩,
⟨some 14, .new [.int .i64 0, .nils] 37, none, 2, [], false⟩,
⟨none, .store 2 (.t 14) (.t 58), none, 5, [], false⟩])
(.seq
(.seq
(.reg false [
⟨some 59, .load true 2 (.t 14), none, 1, [], false⟩,
⟨some 60, .addOff 0 (.t 8), none, 0, [], false⟩,
⟨some 61, .load false 1 (.t 60), none, 1, [], false⟩,
⟨some 62, .call (.f 15) [.t 59, .t 61], none, 3, [], false⟩,
⟨some 63, .mov (.t 62), none, 0, [], false⟩,
⟨some 64, .load true 2 (.t 14), some (63, false), 1, [], false⟩,
⟨some 65, .addOff 1 (.t 8), some (63, false), 0, [], false⟩,
⟨some 66, .load false 1 (.t 65), some (63, false), 1, [], false⟩,
⟨some 67, .call (.f 15) [.t 64, .t 66], some (63, false), 3, [], false⟩,
⟨some 68, .pick (.t 63) (.c (.bool true)) (.t 67), none, 0, [], false⟩])
(.cond (.t 68)
(.seq
(.reg false [
⟨some 69, .addOff 1 (.t 8), none, 0, [], false⟩,
⟨some 70, .load false 1 (.t 69), none, 1, [], false⟩,
⟨some 71, .load true 2 (.t 14), none, 1, [], false⟩,
⟨some 72, .mkisl 1 2 [.int .i64 0, .nils] [(0, .t 71)], none, 0, [], false⟩,
⟨some 73, .append 37 2 32 (.t 70) (.t 72), none, 5, [], false⟩,
⟨some 74, .addOff 1 (.t 8), none, 0, [], false⟩,
⟨none, .store 1 (.t 74) (.t 73), none, 5, [], false⟩])
(.exit 1))
.skip))
(.seq
(.reg false [
⟨some 75, .addOff 0 (.t 8), none, 0, [], false⟩,
⟨some 76, .load false 1 (.t 75), none, 1, [], false⟩,
⟨some 77, .load true 2 (.t 14), none, 1, [], false⟩,
⟨some 78, .mkisl 1 2 [.int .i64 0, .nils] [(0, .t 77)], none, 0, [], false⟩,
⟨some 79, .append 37 2 32 (.t 76) (.t 78), none, 5, [], false⟩,
⟨some 80, .addOff 0 (.t 8), none, 0, [], false⟩,
⟨none, .store 1 (.t 80) (.t 79), none, 5, [], false⟩])
(.reg false [
⟨some 81, .mov (.t 11), none, 0, [], false⟩,
⟨some 82, .addOff 0 (.t 14), none, 0, [], false⟩,
⟨some 83, .load false 1 (.t 82), none, 1, [], false⟩,
⟨some 84, .mkisl 1 1 [.int .i64 0] [(0, .t 83)], none, 0, [], false⟩,
⟨some 85, .append 3 1 8 (.t 81) (.t 84), none, 5, [], false⟩,
⟨some 11, .mov (.t 85), none, 0, [], false⟩])))))
(.reg false [
⟨some 86, .bin .add .no (.t 55) (.c (.int .i64 1)), none, 0, [], false⟩,
⟨some 55, .mov (.t 86), none, 0, [], false⟩])))))))
(.seq
(.reg false [
⟨some 87, .load true 2 (.t 8), none, 1, [], false⟩,
⟨some 88, .mov (.t 11), none, 0, [], false⟩,
⟨none, .store 2 (.t 4) (.t 87), none, 5, [], false⟩,
⟨some 5, .mov (.t 88), none, 0, [], false⟩,
⟨some 6, .mov (.c (.int .i64 0)), none, 0, [], false⟩])
.ret))))))))), 0, true⟩
def af7 : AFunc := ⟨5, [.tmp 4],
  (.seq
(.reg false [
⟨some 4, .mov (.c (.bool false)), none, 0, [], false⟩])
(.seq
(.seq
(.reg false [
⟨some 6, .mov (.t 0), none, 0, [], false⟩,
⟨some 7, .len .slice (.t 6), none, 0, [], false⟩,
⟨some 8, .mov (.t 1), none, 0, [], false⟩,
⟨some 9, .len .slice (.t 8), none, 0, [], false⟩,
⟨some 10, .bin .neq .int (.t 7) (.t 9), none, 0, [], false⟩])
(.cond (.t 10)
(.seq
(.reg false [
⟨some 4, .mov (.c (.bool false)), none, 0, [], false⟩])
.ret)
.skip))
(.seq
(.seq
(.reg false [
⟨some 5, .mov (.c (.int .i64 0)), none, 0, [], false⟩])
(.block 0
(.loop [0, 1, 5]
(.seq
(.seq
(.reg false [
⟨some 11, .mov (.t 5), none, 0, [], false⟩,
⟨some 12, .mov (.t 0), none, 0, [], false⟩,
⟨some 13, .len .slice (.t 12), none, 0, [], false⟩,
⟨some 14, .bin .lss .no (.t 11) (.t 13), none, 0, [], false⟩])
(.cond (.t 14)
.skip
(.exit 0)))
(.seq
(.block 1
(.seq
(.reg true [
⟨some 17, .mov (.t 0), none, 0, [], false⟩,
⟨some 18, .mov (.t 5), none, 0, [], false⟩,
⟨some 19, .idxAddr none 1 (.t 17) (.t 18), none, 0, [], false⟩,
⟨some 20, .load false 1 (.t 19), none, 1, [], false⟩,
⟨some 21, .mov (.t 1), none, 0, [], false⟩,
⟨some 22, .mov (.t 5), none, 0, [], false⟩,
⟨some 23, .idxAddr none 1 (.t 21) (.t 22), none, 0, [], false⟩,
⟨some 24, .load false 1 (.t 23), none, 1, [], false⟩,
⟨some 25, .bin .neq .int (.t 20) (.t 24), none, 0, [], false⟩])
(.cond (.t 25)
(.seq
(.reg false [
⟨some 4, .mov (.c (.bool false)), none, 0, [], false⟩])
.ret)
.skip)))
(.reg false [
⟨some 15, .mov (.t 5), none, 0, [], false⟩,
⟨some 16, .bin .add .no (.t 15) (.c (.int .i64 1)), none, 0, [], false⟩,
⟨some 5, .mov (.t 16), none, 0, [], false⟩]))))))
(.seq
(.reg false [
⟨some 4, .mov (.c (.bool true)), none, 0, [], false⟩])
.ret)))), 0, true⟩
def af8 : AFunc := ⟨7, [.tmp 6, .tmp 7],
  (.seq
(.reg false [
⟨some 6, .mov (.c (.nils)), none, 0, [], false⟩,
⟨some 7, .mov (.c (.int .i64 0)), none, 0, [], false⟩])
(.seq
(.reg false [
⟨some 20, .mov (.t 1), none, 0, [], false⟩,
⟨some 21, .mkmap, none, 2, [], false⟩,
⟨some 22, .build [.nils, .nils, .nilm] [(1, 1, .t 20), (2, 1, .t 21)], none, 0, [], false⟩,
⟨some 23, .box (.t 22) 69 3, none, 2, [], false⟩,
⟨some 8, .mov (.t 23), none, 0, [], false⟩])
(.seq
(.seq
(.reg false [
⟨some 24, .mov (.t 0), none, 0, [], false⟩,
⟨some 25, .len .slice (.t 24), none, 0, [], false⟩,
⟨some 26, .mov (.c (.int .i64 0)), none, 0, [], false⟩])
(.block 0
(.loop [2, 8, 24, 25, 26]
(.seq
(.reg false [
⟨some 27, .bin .lss .no (.t 26) (.t 25), none, 0, [], false⟩])
(.seq
(.cond (.t 27)
.skip
(.exit 0))
(.seq
(.block 1
(.seq
(.reg false [
⟨some 28, .idxAddr none 5 (.t 24) (.t 26), none, 0, [], false⟩,
⟨some 29, .load true 5 (.t 28), none, 1, [], false⟩,
⟨some 10, .new [.int .i64 0, .int .i64 0, .str [], .int .i64 0, .int .i64 0] 39, none, 2, [], false⟩,
⟨none, .store 5 (.t 10) (.t 29), none, 5, [], false⟩])
(.seq
(.reg false [
⟨some 30, .mov (.t 8), none, 0, [], false⟩,
⟨some 31, .nilchk (.t 30), none, 0, [], false⟩,
⟨some 32, .addOff 0 (.t 31), none, 0, [], false⟩,
⟨some 33, .load false 1 (.t 32), none, 1, [], false⟩,
⟨some 34, .mkfn (.func 18) [] [.t 10], none, 0, [], false⟩,
⟨some 35, .call (.f 17) [.t 33, .t 34], none, 5, [], false⟩,
⟨some 36, .un .not (.t 35), none, 0, [], false⟩])
(.cond (.t 36)
(.reg true [
⟨some 37, .mov (.t 8), none, 0, [], false⟩,
⟨some 38, .mov (.t 8), none, 0, [], false⟩,
⟨some 39, .nilchk (.t 38), none, 0, [], false⟩,
⟨some 40, .addOff 0 (.t 39), none, 0, [], false⟩,
⟨some 41, .load false 1 (.t 40), none, 1, [], false⟩,
⟨some 42, .load true 5 (.t 10), none, 1, [], false⟩,
⟨some 43, .mkisl 1 5 [.int .i64 0, .int .i64 0, .str [], .int .i64 0, .int .i64 0] [(0, .t 42)], none, 0, [], false⟩,
⟨some 44, .append 39 5 48 (.t 41) (.t 43), none, 5, [], false⟩,
⟨some 45, .nilchk (.t 37), none, 0, [], false⟩,
⟨some 46, .addOff 0 (.t 45), none, 0, [], false⟩,
⟨none, .store 1 (.t 46) (.t 44), none, 5, [], false⟩])
.skip))))
(.reg false [
⟨some 47, .bin .add .no (.t 26) (.c (.int .i64 1)), none, 0, [], false⟩,
⟨some 26, .mov (.t 47), none, 0, [], false⟩])))))))
(.seq
(.reg false [
⟨some 48, .mov (.t 8), none, 0, [], false⟩,
⟨some 49, .nilchk (.t 48), none, 0, [], false⟩,
⟨some 50, .addOff 0 (.t 49), none, 0, [], false⟩,
⟨some 51, .load false 1 (.t 50), none, 1, [], false⟩,
⟨some 52, .mov (.t 8), none, 0, [], false⟩,
⟨some 53, .mkfn (.func 20) [.t 52] [], none, 0, [], false⟩,
⟨some 54, .call (.f 19) [.t 51, .t 53], none, 5, [], false⟩])
(.seq
(.seq
(.reg false [
⟨some 55, .mov (.t 2), none, 0, [], false⟩,
⟨some 56, .len .slice (.t 55), none, 0, [], false⟩,
⟨some 57, .mov (.c (.int .i64 0)), none, 0, [], false⟩])
(.block 2
(.loop [2, 8, 55, 56, 57]
(.seq
(.reg false [
⟨some 58, .bin .lss .no (.t 57) (.t 56), none, 0, [], false⟩])
(.seq
(.cond (.t 58)
.skip
(.exit 2))
(.seq
(.block 3
(.seq
(.reg false [
⟨some 59, .idxAddr none 2 (.t 55) (.t 57), none, 0, [], false⟩,
⟨some 60, .load true 2 (.t 59), none, 1, [], false⟩,
⟨some 12, .new [.int .i64 0, .str []] 44, none, 2, [], false⟩,
⟨none, .store 2 (.t 12) (.t 60), none, 5, [], false⟩])
(.seq
(.reg false [
⟨some 61, .mov (.t 8), none, 0, [], false⟩,
⟨some 62, .nilchk (.t 61), none, 0, [], false⟩,
⟨some 63, .addOff 0 (.t 62), none, 0, [], false⟩,
⟨some 64, .load false 1 (.t 63), none, 1, [], false⟩,
⟨some 65, .mkfn (.func 21) [] [.t 12], none, 0, [], false⟩,
⟨some 66, .call (.f 17) [.t 64, .t 65], none, 5, [], false⟩,
⟨some 67, .un .not (.t 66), none, 0, [], false⟩])
(.cond (.t 67)
(.seq
(.reg false [
⟨some 6, .mov (.c (.nils)), none, 0, [], false⟩,
⟨some 7, .mov (.c (.int .i64 430)), none, 0, [], false⟩])
.ret)
.skip))))
(.reg false [
⟨some 68, .bin .add .no (.t 57) (.c (.int .i64 1)), none, 0, [], false⟩,
⟨some 57, .mov (.t 68), none, 0, [], false⟩])))))))
(.seq
(.reg false [
⟨some 69, .mov (.t 2), none, 0, [], false⟩,
⟨some 70, .len .slice (.t 69), none, 0, [], false⟩,
⟨some 71, .make 3 1 8 [.int .i64 0] (.t 70) (.t 70), none, 2, [], false⟩,
⟨some 13, .mov (.t 71), none, 0, [], false⟩])
(.seq
(.seq
(.reg false [
⟨some 72, .mkisl 2 1 [.bool false] [(0, .c (.bool false)), (1, .c (.bool true))], none, 0, [], false⟩,
⟨some 73, .len .slice (.t 72), none, 0, [], false⟩,
⟨some 74, .mov (.c (.int .i64 0)), none, 0, [], false⟩])
(.block 4
(.loop [2, 8, 13, 72, 73, 74]
(.seq
(.reg false [
⟨some 75, .bin .lss .no (.t 74) (.t 73), none, 0, [], false⟩])
(.seq
(.cond (.t 75)
.skip
(.exit 4))
(.seq
(.block 5
(.seq
(.reg false [
⟨some 76, .idxAddr none 1 (.t 72) (.t 74), none, 0, [], false⟩,
⟨some 77, .load false 1 (.t 76), none, 1, [], false⟩,
⟨some 15, .mov (.t 77), none, 0, [], false⟩])
(.seq
(.reg false [
⟨some 78, .mov (.t 2), none, 0, [], false⟩,
⟨some 79, .len .slice (.t 78), none, 0, [], false⟩,
⟨some 80, .mov (.c (.int .i64 0)), none, 0, [], false⟩])
(.block 6
(.loop [2, 8, 13, 15, 72, 73, 74, 78, 79, 80]
(.seq
(.reg false [
⟨some 81, .bin .lss .no (.t 80) (.t 79), none, 0, [], false⟩])
(.seq
(.cond (.t 81)
.skip
(.exit 6))
(.seq
(.block 7
(.seq
(.reg false [
⟨some 82, .mov (.t 80), none, 0, [], false⟩,
⟨some 83, .idxAddr none 2 (.t 78) (.t 80), none, 0, [], false⟩,
⟨some 84, .load true 2 (.t 83), none, 1, [], false⟩,
⟨some 17, .new [.int .i64 0, .str []] 44, none, 2, [], false⟩,
⟨some 16, .mov (.t 82), none, 0, [], false⟩,
⟨none, .store 2 (.t 17) (.t 84), none, 5, [], false⟩])
(.seq
(.seq
(.reg false [
⟨some 85, .addOff 1 (.t 17), none, 0, [], false⟩,
⟨some 86, .load false 1 (.t 85), none, 1, [], false⟩,
⟨some 87, .bin .eql .str (.t 86) (.c (.str [])), none, 0, [], false⟩,
⟨some 88, .mov (.t 15), none, 0, [], false⟩,
⟨some 89, .bin .neq .bool (.t 87) (.t 88), none, 0, [], false⟩])
(.cond (.t 89)
(.exit 7)
.skip))
(.seq
(.reg false [
⟨some 91, .mov (.t 8), none, 0, [], false⟩,
⟨some 92, .load true 2 (.t 17), none, 1, [], false⟩,
⟨some 93, .call (.f 23) [.t 91, .t 92], none, 5, [], false⟩,
⟨some 90, .mov (.t 93), none, 0, [], false⟩,
⟨some 94, .extract (.t 90) 0, none, 0, [], false⟩,
⟨some 95, .extract (.t 90) 1, none, 0, [], false⟩,
⟨some 18, .mov (.t 94), none, 0, [], false⟩,
⟨some 19, .mov (.t 95), none, 0, [], false⟩])
(.seq
(.seq
(.reg false [
⟨some 96, .mov (.t 19), none, 0, [], false⟩,
⟨some 97, .un .not (.t 96), none, 0, [], false⟩])
(.cond (.t 97)
(.seq
(.reg false [
⟨some 6, .mov (.c (.nils)), none, 0, [], false⟩,
⟨some 7, .mov (.c (.int .i64 370)), none, 0, [], false⟩])
.ret)
.skip))
(.reg false [
⟨some 98, .mov (.t 13), none, 0, [], false⟩,
⟨some 99, .mov (.t 16), none, 0, [], false⟩,
⟨some 100, .mov (.t 18), none, 0, [], false⟩,
⟨some 101, .idxAddr none 1 (.t 98) (.t 99), none, 0, [], false⟩,
⟨none, .store 1 (.t 101) (.t 100), none, 5, [], false⟩]))))))
(.reg false [
⟨some 102, .bin .add .no (.t 80) (.c (.int .i64 1)), none, 0, [], false⟩,
⟨some 80, .mov (.t 102), none, 0, [], false⟩])))))))))
(.reg false [
⟨some 103, .bin .add .no (.t 74) (.c (.int .i64 1)), none, 0, [], false⟩,
⟨some 74, .mov (.t 103), none, 0, [], false⟩])))))))
(.seq
(.reg false [
⟨some 104, .mov (.t 13), none, 0, [], false⟩,
⟨some 6, .mov (.t 104), none, 0, [], false⟩,
⟨some 7, .mov (.c (.int .i64 0)), none, 0, [], false⟩])
.ret)))))))), 0, true⟩
def af9 : AFunc := ⟨7, [.tmp 2],
  (.seq
(.reg false [
⟨some 1, .box (.t 0) 58 5, none, 2, [], false⟩,
⟨some 2, .mov (.c (.nils)), none, 0, [], false⟩])
(.seq
(.reg false [
⟨some 13, .build [.str [], .bool false] [(0, 1, .c (.str [83, 89, 83, 49, 46, 76, 73, 78, 75, 76, 73, 66]))], none, 0, [], false⟩,
⟨some 14, .mkisl 1 2 [.str [], .bool false] [(0, .t 13)], none, 0, [], false⟩,
⟨some 3, .mov (.t 14), none, 0, [], false⟩])
(.seq
(.seq
(.reg false [
⟨some 15, .addOff 4 (.t 1), none, 0, [], false⟩,
⟨some 16, .load false 1 (.t 15), none, 1, [], false⟩,
⟨some 17, .len .slice (.t 16), none, 0, [], false⟩,
⟨some 18, .mov (.c (.int .i64 0)), none, 0, [], false⟩])
(.block 0
(.loop [3, 16, 17, 18]
(.seq
(.reg false [
⟨some 19, .bin .lss .no (.t 18) (.t 17), none, 0, [], false⟩])
(.seq
(.cond (.t 19)
.skip
(.exit 0))
(.seq
(.block 1
(.seq
(.reg false [
⟨some 20, .idxAddr none 8 (.t 16) (.t 18), none, 0, [], false⟩,
⟨some 21, .load true 8 (.t 20), none, 1, [], false⟩,
⟨some 5, .new [.str [], .str [], .str [], .nils, .bool false, .bool false, .int .i64 0, .nils] 55, none, 2, [], false⟩,
⟨none, .store 8 (.t 5) (.t 21), none, 5, [], false⟩])
(.seq
(.reg false [
⟨some 22, .addOff 7 (.t 5), none, 0, [], false⟩,
⟨some 23, .load false 1 (.t 22), none, 1, [], false⟩,
⟨some 24, .len .slice (.t 23), none, 0, [], false⟩,
⟨some 25, .mov (.c (.int .i64 0)), none, 0, [], false⟩])
(.block 2
(.loop [3, 16, 17, 18, 23, 24, 25]
(.seq
(.reg false [
⟨some 26, .bin .lss .no (.t 25) (.t 24), none, 0, [], false⟩])
(.seq
(.cond (.t 26)
.skip
(.exit 2))
(.seq
(.block 3
(.seq
(.reg false [
⟨some 27, .idxAddr none 25 (.t 23) (.t 25), none, 0, [], false⟩,
⟨some 28, .load true 25 (.t 27), none, 1, [], false⟩,
⟨some 7, .new [.str [], .str [], .str [], .int .i64 0, .bool false, .int .i64 0, .int .i64 0, .int .i64 0, .int .i64 0, .str [], .int .i64 0, .int .i64 0, .int .i64 0, .int .i64 0, .int .i64 0, .bool false, .bool false, .int .i64 0, .int .i64 0, .int .i64 0, .int .i64 0, .str [], .nils, .bool false, .bool false] 51, none, 2, [], false⟩,
⟨none, .store 25 (.t 7) (.t 28), none, 5, [], false⟩])
(.seq
(.seq
(.reg false [
⟨some 29, .addOff 1 (.t 7), none, 0, [], false⟩,
⟨some 30, .load false 1 (.t 29), none, 1, [], false⟩,
⟨some 31, .bin .eql .str (.t 30) (.c (.str [])), none, 0, [], false⟩,
⟨some 32, .mov (.t 31), none, 0, [], false⟩,
⟨some 33, .addOff 24 (.t 7), some (32, false), 0, [], false⟩,
⟨some 34, .load false 1 (.t 33), some (32, false), 1, [], false⟩,
⟨some 35, .pick (.t 32) (.c (.bool true)) (.t 34), none, 0, [], false⟩,
⟨some 36, .mov (.t 35), none, 0, [], false⟩,
⟨some 37, .addOff 21 (.t 7), some (36, false), 0, [], false⟩,
⟨some 38, .load false 1 (.t 37), some (36, false), 1, [], false⟩,
⟨some 39, .bin .neq .str (.t 38) (.c (.str [])), some (36, false), 0, [], false⟩,
⟨some 40, .pick (.t 36) (.c (.bool true)) (.t 39), none, 0, [], false⟩,
⟨some 41, .mov (.t 40), none, 0, [], false⟩,
⟨some 42, .addOff 23 (.t 7), some (41, false), 0, [], false⟩,
⟨some 43, .load false 1 (.t 42), some (41, false), 1, [], false⟩,
⟨some 44, .pick (.t 41) (.c (.bool true)) (.t 43), none, 0, [], false⟩])
(.cond (.t 44)
(.exit 3)
.skip))
(.seq
(.reg false [
⟨some 45, .load true 25 (.t 7), none, 1, [], false⟩,
⟨some 46, .call (.f 24) [.t 45], none, 3, [], false⟩,
⟨some 8, .new [.str [], .str [], .str [], .int .i64 0, .bool false, .int .i64 0, .int .i64 0, .int .i64 0, .int .i64 0, .str [], .int .i64 0, .int .i64 0, .int .i64 0, .int .i64 0, .int .i64 0, .bool false, .bool false, .int .i64 0, .int .i64 0, .int .i64 0, .int .i64 0, .str [], .nils, .bool false, .bool false] 51, none, 2, [], false⟩,
⟨none, .store 25 (.t 8) (.t 46), none, 5, [], false⟩])
(.seq
(.reg false [
⟨some 47, .addOff 6 (.t 8), none, 0, [], false⟩,
⟨some 48, .load false 1 (.t 47), none, 1, [], false⟩,
⟨some 49, .call (.f 25) [.t 48], none, 3, [], false⟩,
⟨some 50, .mov (.t 49), none, 0, [], false⟩,
⟨some 51, .addOff 7 (.t 8), some (50, false), 0, [], false⟩,
⟨some 52, .load false 1 (.t 51), some (50, false), 1, [], false⟩,
⟨some 53, .call (.f 25) [.t 52], some (50, false), 3, [], false⟩,
⟨some 54, .pick (.t 50) (.c (.bool true)) (.t 53), none, 0, [], false⟩,
⟨some 55, .mov (.t 54), none, 0, [], false⟩,
⟨some 56, .addOff 4 (.t 7), some (55, false), 0, [], false⟩,
⟨some 57, .load false 1 (.t 56), some (55, false), 1, [], false⟩,
⟨some 58, .mov (.t 57), some (55, false), 0, [], false⟩,
⟨some 59, .addOff 3 (.t 7), some (58, true), 0, [], false⟩,
⟨some 60, .load false 1 (.t 59), some (58, true), 1, [], false⟩,
⟨some 61, .bin .gtr .no (.t 60) (.c (.int .i64 0)), some (58, true), 0, [], false⟩,
⟨some 62, .pick (.t 58) (.t 61) (.c (.bool false)), some (55, false), 0, [], false⟩,
⟨some 63, .pick (.t 55) (.c (.bool true)) (.t 62), none, 0, [], false⟩,
⟨some 9, .mov (.t 63), none, 0, [], false⟩])
(.seq
(.reg true [
⟨some 64, .addOff 1 (.t 7), none, 0, [], false⟩,
⟨some 65, .load false 1 (.t 64), none, 1, [8], false⟩,
⟨some 66, .mov (.t 9), none, 0, [], false⟩,
⟨some 67, .mov (.t 66), none, 0, [], false⟩,
⟨some 68, .load true 25 (.t 7), some (67, false), 1, [8], false⟩,
⟨some 69, .call (.f 26) [.t 68], some (67, false), 3, [8], false⟩,
⟨some 70, .pick (.t 67) (.c (.bool true)) (.t 69), none, 0, [], false⟩,
⟨some 71, .build [.str [], .bool false] [(0, 1, .t 65), (1, 1, .t 70)], none, 0, [], false⟩,
⟨some 10, .new [.str [], .bool false] 31, none, 2, [], false⟩,
⟨none, .store 2 (.t 10) (.t 71), none, 5, [], false⟩])
(.seq
(.reg false [
⟨some 72, .mov (.t 3), none, 0, [], false⟩,
⟨some 73, .load true 2 (.t 10), none, 1, [], false⟩,
⟨some 74, .mkisl 1 2 [.str [], .bool false] [(0, .t 73)], none, 0, [], false⟩,
⟨some 75, .append 31 2 24 (.t 72) (.t 74), none, 5, [], false⟩,
⟨some 3, .mov (.t 75), none, 0, [], false⟩])
(.seq
(.reg false [
⟨some 77, .addOff 1 (.t 7), none, 0, [], false⟩,
⟨some 78, .load false 1 (.t 77), none, 1, [], false⟩,
⟨some 79, .call (.f 27) [.t 78], none, 3, [], false⟩,
⟨some 76, .mov (.t 79), none, 0, [], false⟩,
⟨some 80, .extract (.t 76) 0, none, 0, [], false⟩,
⟨some 81, .extract (.t 76) 1, none, 0, [], false⟩,
⟨some 11, .mov (.t 80), none, 0, [], false⟩,
⟨some 12, .mov (.t 81), none, 0, [], false⟩])
(.seq
(.reg false [
⟨some 82, .mov (.t 12), none, 0, [], false⟩])
(.cond (.t 82)
(.reg false [
⟨some 83, .mov (.t 3), none, 0, [], false⟩,
⟨some 84, .mov (.t 11), none, 0, [], false⟩,
⟨some 85, .addOff 1 (.t 10), none, 0, [], false⟩,
⟨some 86, .load false 1 (.t 85), none, 1, [], false⟩,
⟨some 87, .build [.str [], .bool false] [(0, 1, .t 84), (1, 1, .t 86)], none, 0, [], false⟩,
⟨some 88, .mkisl 1 2 [.str [], .bool false] [(0, .t 87)], none, 0, [], false⟩,
⟨some 89, .append 31 2 24 (.t 83) (.t 88), none, 5, [], false⟩,
⟨some 3, .mov (.t 89), none, 0, [], false⟩])
.skip))))))))))
(.reg false [
⟨some 90, .bin .add .no (.t 25) (.c (.int .i64 1)), none, 0, [], false⟩,
⟨some 25, .mov (.t 90), none, 0, [], false⟩])))))))))
(.reg false [
⟨some 91, .bin .add .no (.t 18) (.c (.int .i64 1)), none, 0, [], false⟩,
⟨some 18, .mov (.t 91), none, 0, [], false⟩])))))))
(.seq
(.reg false [
⟨some 92, .mov (.t 3), none, 0, [], false⟩,
⟨some 93, .call (.f 13) [.t 92], none, 5, [], false⟩,
⟨some 2, .mov (.t 93), none, 0, [], false⟩])
.ret)))), 0, true⟩
def af10 : AFunc := ⟨7, [.tmp 0],
  (.seq
(.reg false [
⟨some 0, .mov (.c (.bool false)), none, 0, [], false⟩])
(.seq
(.reg false [
⟨some 12, .build [.nils, .nils] [], none, 0, [], false⟩,
⟨some 13, .call (.f 5) [.c (.str [65]), .c (.bool false)], none, 3, [], false⟩,
⟨some 14, .call (.f 4) [.t 12, .c (.int .i64 1), .t 13], none, 3, [], false⟩,
⟨some 11, .mov (.t 14), none, 0, [], false⟩,
⟨some 15, .extract (.t 11) 0, none, 0, [], false⟩,
⟨some 16, .extract (.t 11) 1, none, 0, [], false⟩,
⟨some 17, .extract (.t 11) 2, none, 0, [], false⟩,
⟨some 1, .new [.nils, .nils] 24, none, 2, [], false⟩,
⟨none, .store 2 (.t 1) (.t 15), none, 5, [], false⟩,
⟨some 2, .mov (.t 16), none, 0, [], false⟩,
⟨some 3, .mov (.t 17), none, 0, [], false⟩])
(.seq
(.reg true [
⟨some 19, .load true 2 (.t 1), none, 1, [], false⟩,
⟨some 20, .call (.f 5) [.c (.str [65]), .c (.bool true)], none, 3, [], false⟩,
⟨some 21, .call (.f 4) [.t 19, .c (.int .i64 2), .t 20], none, 3, [], false⟩,
⟨some 18, .mov (.t 21), none, 0, [], false⟩,
⟨some 22, .extract (.t 18) 0, none, 0, [], false⟩,
⟨some 23, .extract (.t 18) 1, none, 0, [], false⟩,
⟨some 24, .extract (.t 18) 2, none, 0, [], false⟩,
⟨none, .store 2 (.t 1) (.t 22), none, 5, [], false⟩,
⟨some 4, .mov (.t 23), none, 0, [], false⟩,
⟨some 5, .mov (.t 24), none, 0, [], false⟩])
(.seq
(.reg true [
⟨some 26, .load true 2 (.t 1), none, 1, [], false⟩,
⟨some 27, .call (.f 5) [.c (.str [65]), .c (.bool false)], none, 3, [], false⟩,
⟨some 28, .call (.f 4) [.t 26, .c (.int .i64 3), .t 27], none, 3, [], false⟩,
⟨some 25, .mov (.t 28), none, 0, [], false⟩,
⟨some 29, .extract (.t 25) 0, none, 0, [], false⟩,
⟨some 30, .extract (.t 25) 1, none, 0, [], false⟩,
⟨some 31, .extract (.t 25) 2, none, 0, [], false⟩,
⟨none, .store 2 (.t 1) (.t 29), none, 5, [], false⟩,
⟨some 6, .mov (.t 30), none, 0, [], false⟩,
⟨some 7, .mov (.t 31), none, 0, [], false⟩])
(.seq
(.reg false [
⟨some 33, .load true 2 (.t 1), none, 1, [], false⟩,
⟨some 34, .call (.f 6) [.t 33, .c (.int .i64 1)], none, 3, [], false⟩,
⟨some 32, .mov (.t 34), none, 0, [], false⟩,
⟨some 35, .extract (.t 32) 0, none, 0, [], false⟩,
⟨some 36, .extract (.t 32) 1, none, 0, [], false⟩,
⟨some 37, .extract (.t 32) 2, none, 0, [], false⟩,
⟨some 8, .new [.nils, .nils] 24, none, 2, [], false⟩,
⟨none, .store 2 (.t 8) (.t 35), none, 5, [], false⟩,
⟨some 9, .mov (.t 36), none, 0, [], false⟩,
⟨some 10, .mov (.t 37), none, 0, [], false⟩])
(.seq
(.reg false [
⟨some 38, .mov (.t 3), none, 0, [], false⟩,
⟨some 39, .bin .eql .int (.t 38) (.c (.int .i64 0)), none, 0, [], false⟩,
⟨some 40, .mov (.t 39), none, 0, [], false⟩,
⟨some 41, .mov (.t 5), some (40, true), 0, [], false⟩,
⟨some 42, .bin .eql .int (.t 41) (.c (.int .i64 0)), some (40, true), 0, [], false⟩,
⟨some 43, .pick (.t 40) (.t 42) (.c (.bool false)), none, 0, [], false⟩,
⟨some 44, .mov (.t 43), none, 0, [], false⟩,
⟨some 45, .mov (.t 7), some (44, true), 0, [], false⟩,
⟨some 46, .bin .eql .int (.t 45) (.c (.int .i64 0)), some (44, true), 0, [], false⟩,
⟨some 47, .pick (.t 44) (.t 46) (.c (.bool false)), none, 0, [], false⟩,
⟨some 48, .mov (.t 47), none, 0, [], false⟩,
⟨some 49, .mov (.t 10), some (48, true), 0, [], false⟩,
⟨some 50, .bin .eql .int (.t 49) (.c (.int .i64 0)), some (48, true), 0, [], false⟩,
⟨some 51, .pick (.t 48) (.t 50) (.c (.bool false)), none, 0, [], false⟩,
⟨some 52, .mov (.t 51), none, 0, [], false⟩,
⟨some 53, .mov (.t 2), some (52, true), 0, [], false⟩,
⟨some 54, .pick (.t 52) (.t 53) (.c (.bool false)), none, 0, [], false⟩,
⟨some 55, .mov (.t 54), none, 0, [], false⟩,
⟨some 56, .mov (.t 4), some (55, true), 0, [], false⟩,
⟨some 57, .un .not (.t 56), some (55, true), 0, [], false⟩,
⟨some 58, .pick (.t 55) (.t 57) (.c (.bool false)), none, 0, [], false⟩,
⟨some 59, .mov (.t 58), none, 0, [], false⟩,
⟨some 60, .mov (.t 6), some (59, true), 0, [], false⟩,
⟨some 61, .un .not (.t 60), some (59, true), 0, [], false⟩,
⟨some 62, .pick (.t 59) (.t 61) (.c (.bool false)), none, 0, [], false⟩,
⟨some 63, .mov (.t 62), none, 0, [], false⟩,
⟨some 64, .mov (.t 9), some (63, true), 0, [], false⟩,
⟨some 65, .mkisl 1 1 [.int .i64 0] [(0, .c (.int .i64 2))], some (63, true), 0, [], false⟩,
⟨some 66, .call (.f 7) [.t 64, .t 65], some (63, true), 3, [], false⟩,
⟨some 67, .pick (.t 63) (.t 66) (.c (.bool false)), none, 0, [], false⟩,
⟨some 68, .mov (.t 67), none, 0, [], false⟩,
⟨some 69, .addOff 0 (.t 8), some (68, true), 0, [], false⟩,
⟨some 70, .load false 1 (.t 69), some (68, true), 1, [], false⟩,
⟨some 71, .len .slice (.t 70), some (68, true), 0, [], false⟩,
⟨some 72, .bin .eql .int (.t 71) (.c (.int .i64 1)), some (68, true), 0, [], false⟩,
⟨some 73, .pick (.t 68) (.t 72) (.c (.bool false)), none, 0, [], false⟩,
⟨some 74, .mov (.t 73), none, 0, [], false⟩,
⟨some 75, .addOff 1 (.t 8), some (74, true), 0, [], false⟩,
⟨some 76, .load false 1 (.t 75), some (74, true), 1, [], false⟩,
⟨some 77, .len .slice (.t 76), some (74, true), 0, [], false⟩,
⟨some 78, .bin .eql .int (.t 77) (.c (.int .i64 1)), some (74, true), 0, [], false⟩,
⟨some 79, .pick (.t 74) (.t 78) (.c (.bool false)), none, 0, [], false⟩,
⟨some 0, .mov (.t 79), none, 0, [], false⟩])
.ret)))))), 0, true⟩
def af11 : AFunc := ⟨7, [.tmp 2],
  (.seq
(.reg false [
⟨some 1, .box (.t 0) 24 2, none, 2, [], false⟩,
⟨some 2, .mov (.c (.int .i64 0)), none, 0, [], false⟩])
(.seq
(.reg false [
⟨some 8, .mkmap, none, 2, [], false⟩,
⟨some 3, .mov (.t 8), none, 0, [], false⟩])
(.seq
(.seq
(.reg false [
⟨some 9, .addOff 0 (.t 1), none, 0, [], false⟩,
⟨some 10, .load false 1 (.t 9), none, 1, [], false⟩,
⟨some 11, .len .slice (.t 10), none, 0, [], false⟩,
⟨some 12, .mov (.c (.int .i64 0)), none, 0, [], false⟩])
(.block 0
(.loop [1, 3, 10, 11, 12]
(.seq
(.reg false [
⟨some 13, .bin .lss .no (.t 12) (.t 11), none, 0, [], false⟩])
(.seq
(.cond (.t 13)
.skip
(.exit 0))
(.seq
(.block 1
(.seq
(.reg false [
⟨some 14, .mov (.t 12), none, 0, [], false⟩,
⟨some 15, .idxAddr none 2 (.t 10) (.t 12), none, 0, [], false⟩,
⟨some 16, .load true 2 (.t 15), none, 1, [], false⟩,
⟨some 5, .new [.int .i64 0, .nils] 37, none, 2, [], false⟩,
⟨some 4, .mov (.t 14), none, 0, [], false⟩,
⟨none, .store 2 (.t 5) (.t 16), none, 5, [], false⟩])
(.seq
(.seq
(.reg true [
⟨some 17, .mov (.t 3), none, 0, [], false⟩,
⟨some 18, .addOff 0 (.t 5), none, 0, [], false⟩,
⟨some 19, .load false 1 (.t 18), none, 1, [], false⟩,
⟨some 20, .lookup .int (.bool false) false (.t 17) (.t 19), none, 1, [], false⟩,
⟨some 21, .mov (.t 20), none, 0, [], false⟩,
⟨some 22, .load true 2 (.t 5), some (21, false), 1, [], false⟩,
⟨some 23, .call (.f 28) [.t 22], some (21, false), 3, [], false⟩,
⟨some 24, .un .not (.t 23), some (21, false), 0, [], false⟩,
⟨some 25, .pick (.t 21) (.c (.bool true)) (.t 24), none, 0, [], false⟩,
⟨some 26, .mov (.t 25), none, 0, [], false⟩,
⟨some 27, .load true 2 (.t 5), some (26, false), 1, [], false⟩,
⟨some 28, .addOff 0 (.t 1), some (26, false), 0, [], false⟩,
⟨some 29, .load false 1 (.t 28), some (26, false), 1, [], false⟩,
⟨some 30, .mov (.t 4), some (26, false), 0, [], false⟩,
⟨some 31, .slice .slice 2 (.t 29) none (some (.t 30)) none, some (26, false), 1, [], false⟩,
⟨some 32, .call (.f 15) [.t 27, .t 31], some (26, false), 3, [], false⟩,
⟨some 33, .pick (.t 26) (.c (.bool true)) (.t 32), none, 0, [], false⟩])
(.cond (.t 33)
(.seq
(.reg false [
⟨some 2, .mov (.c (.int .i64 5)), none, 0, [], false⟩])
.ret)
.skip))
(.reg false [
⟨some 34, .mov (.t 3), none, 0, [], false⟩,
⟨some 35, .addOff 0 (.t 5), none, 0, [], false⟩,
⟨some 36, .load false 1 (.t 35), none, 1, [], false⟩,
⟨none, .mapUpd .int (.t 34) (.t 36) (.c (.bool true)), none, 5, [], false⟩]))))
(.reg false [
⟨some 37, .bin .add .no (.t 12) (.c (.int .i64 1)), none, 0, [], false⟩,
⟨some 12, .mov (.t 37), none, 0, [], false⟩])))))))
(.seq
(.seq
(.reg false [
⟨some 38, .addOff 1 (.t 1), none, 0, [], false⟩,
⟨some 39, .load false 1 (.t 38), none, 1, [], false⟩,
⟨some 40, .len .slice (.t 39), none, 0, [], false⟩,
⟨some 41, .mov (.c (.int .i64 0)), none, 0, [], false⟩])
(.block 2
(.loop [1, 3, 39, 40, 41]
(.seq
(.reg false [
⟨some 42, .bin .lss .no (.t 41) (.t 40), none, 0, [], false⟩])
(.seq
(.cond (.t 42)
.skip
(.exit 2))
(.seq
(.block 3
(.seq
(.reg false [
⟨some 43, .mov (.t 41), none, 0, [], false⟩,
⟨some 44, .idxAddr none 2 (.t 39) (.t 41), none, 0, [], false⟩,
⟨some 45, .load true 2 (.t 44), none, 1, [], false⟩,
⟨some 7, .new [.int .i64 0, .nils] 37, none, 2, [], false⟩,
⟨some 6, .mov (.t 43), none, 0, [], false⟩,
⟨none, .store 2 (.t 7) (.t 45), none, 5, [], false⟩])
(.seq
(.seq
(.reg true [
⟨some 46, .mov (.t 3), none, 0, [], false⟩,
⟨some 47, .addOff 0 (.t 7), none, 0, [], false⟩,
⟨some 48, .load false 1 (.t 47), none, 1, [], false⟩,
⟨some 49, .lookup .int (.bool false) false (.t 46) (.t 48), none, 1, [], false⟩,
⟨some 50, .mov (.t 49), none, 0, [], false⟩,
⟨some 51, .load true 2 (.t 7), some (50, false), 1, [], false⟩,
⟨some 52, .call (.f 28) [.t 51], some (50, false), 3, [], false⟩,
⟨some 53, .un .not (.t 52), some (50, false), 0, [], false⟩,
⟨some 54, .pick (.t 50) (.c (.bool true)) (.t 53), none, 0, [], false⟩,
⟨some 55, .mov (.t 54), none, 0, [], false⟩,
⟨some 56, .load true 2 (.t 7), some (55, false), 1, [], false⟩,
⟨some 57, .addOff 0 (.t 1), some (55, false), 0, [], false⟩,
⟨some 58, .load false 1 (.t 57), some (55, false), 1, [], false⟩,
⟨some 59, .call (.f 15) [.t 56, .t 58], some (55, false), 3, [], false⟩,
⟨some 60, .un .not (.t 59), some (55, false), 0, [], false⟩,
⟨some 61, .mov (.t 60), some (55, false), 0, [], false⟩,
⟨some 62, .load true 2 (.t 7), some (61, true), 1, [], false⟩,
⟨some 63, .addOff 1 (.t 1), some (61, true), 0, [], false⟩,
⟨some 64, .load false 1 (.t 63), some (61, true), 1, [], false⟩,
⟨some 65, .mov (.t 6), some (61, true), 0, [], false⟩,
⟨some 66, .slice .slice 2 (.t 64) none (some (.t 65)) none, some (61, true), 1, [], false⟩,
⟨some 67, .call (.f 15) [.t 62, .t 66], some (61, true), 3, [], false⟩,
⟨some 68, .un .not (.t 67), some (61, true), 0, [], false⟩,
⟨some 69, .pick (.t 61) (.t 68) (.c (.bool false)), some (55, false), 0, [], false⟩,
⟨some 70, .pick (.t 55) (.c (.bool true)) (.t 69), none, 0, [], false⟩])
(.cond (.t 70)
(.seq
(.reg false [
⟨some 2, .mov (.c (.int .i64 5)), none, 0, [], false⟩])
.ret)
.skip))
(.reg false [
⟨some 71, .mov (.t 3), none, 0, [], false⟩,
⟨some 72, .addOff 0 (.t 7), none, 0, [], false⟩,
⟨some 73, .load false 1 (.t 72), none, 1, [], false⟩,
⟨none, .mapUpd .int (.t 71) (.t 73) (.c (.bool true)), none, 5, [], false⟩]))))
(.reg false [
⟨some 74, .bin .add .no (.t 41) (.c (.int .i64 1)), none, 0, [], false⟩,
⟨some 41, .mov (.t 74), none, 0, [], false⟩])))))))
(.seq
(.reg false [
⟨some 2, .mov (.c (.int .i64 0)), none, 0, [], false⟩])
.ret))))), 0, true⟩
def af12 : AFunc := ⟨3, [.tmp 4],
  (.seq
(.reg false [
⟨some 3, .box (.t 1) 3 1, none, 2, [], false⟩,
⟨some 4, .mov (.c (.int .i64 0)), none, 0, [], false⟩])
(.seq
(.reg false [
⟨some 5, .mov (.t 0), none, 0, [], false⟩,
⟨some 6, .mkfn (.func 30) [] [.t 3], none, 0, [], false⟩,
⟨some 7, .call (.f 29) [.t 5, .t 6], none, 5, [], false⟩,
⟨some 4, .mov (.t 7), none, 0, [], false⟩])
.ret)), 0, true⟩
def af13 : AFunc := ⟨6, [.tmp 2],
  (.seq
(.reg false [
⟨some 2, .mov (.c (.nils)), none, 0, [], false⟩])
(.seq
(.reg false [
⟨some 9, .mkmap, none, 2, [], false⟩,
⟨some 3, .mov (.t 9), none, 0, [], false⟩])
(.seq
(.seq
(.reg false [
⟨some 10, .mov (.t 0), none, 0, [], false⟩,
⟨some 11, .len .slice (.t 10), none, 0, [], false⟩,
⟨some 12, .mov (.c (.int .i64 0)), none, 0, [], false⟩])
(.block 0
(.loop [3, 10, 11, 12]
(.seq
(.reg false [
⟨some 13, .bin .lss .no (.t 12) (.t 11), none, 0, [], false⟩])
(.seq
(.cond (.t 13)
.skip
(.exit 0))
(.seq
(.block 1
(.seq
(.reg false [
⟨some 14, .idxAddr none 2 (.t 10) (.t 12), none, 0, [], false⟩,
⟨some 15, .load true 2 (.t 14), none, 1, [], false⟩,
⟨some 5, .new [.str [], .bool false] 31, none, 2, [], false⟩,
⟨none, .store 2 (.t 5) (.t 15), none, 5, [], false⟩])
(.reg false [
⟨some 16, .mov (.t 3), none, 0, [], false⟩,
⟨some 17, .addOff 0 (.t 5), none, 0, [], false⟩,
⟨some 18, .load false 1 (.t 17), none, 1, [], false⟩,
⟨some 19, .mov (.t 3), none, 0, [], false⟩,
⟨some 20, .addOff 0 (.t 5), none, 0, [], false⟩,
⟨some 21, .load false 1 (.t 20), none, 1, [], false⟩,
⟨some 22, .lookup .str (.bool false) false (.t 19) (.t 21), none, 1, [], false⟩,
⟨some 23, .mov (.t 22), none, 0, [], false⟩,
⟨some 24, .addOff 1 (.t 5), some (23, false), 0, [], false⟩,
⟨some 25, .load false 1 (.t 24), some (23, false), 1, [], false⟩,
⟨some 26, .pick (.t 23) (.c (.bool true)) (.t 25), none, 0, [], false⟩,
⟨none, .mapUpd .str (.t 16) (.t 18) (.t 26), none, 5, [], false⟩])))
(.reg false [
⟨some 27, .bin .add .no (.t 12) (.c (.int .i64 1)), none, 0, [], false⟩,
⟨some 12, .mov (.t 27), none, 0, [], false⟩])))))))
(.seq
(.reg false [
⟨some 6, .mov (.c (.nils)), none, 0, [], false⟩])
(.seq
(.seq
(.reg false [
⟨some 28, .mov (.t 3), none, 0, [], false⟩,
⟨some 29, .range .map (.t 28), none, 5, [], false⟩])
(.block 2
(.loop [6, 29]
(.seq
(.reg false [
⟨some 30, .next false (.t 29), none, 5, [], false⟩,
⟨some 31, .extract (.t 30) 0, none, 0, [], false⟩])
(.seq
(.cond (.t 31)
.skip
(.exit 2))
(.block 3
(.seq
(.reg false [
⟨some 32, .entry (.t 29), none, 1, [], false⟩,
⟨some 33, .extract (.t 32) 0, none, 0, [], false⟩,
⟨some 34, .extract (.t 32) 1, none, 0, [], false⟩,
⟨some 7, .mov (.t 33), none, 0, [], false⟩,
⟨some 8, .mov (.t 34), none, 0, [], false⟩])
(.reg false [
⟨some 35, .mov (.t 6), none, 0, [], false⟩,
⟨some 36, .mov (.t 7), none, 0, [], false⟩,
⟨some 37, .mov (.t 8), none, 0, [], false⟩,
⟨some 38, .build [.str [], .bool false] [(0, 1, .t 36), (1, 1, .t 37)], none, 0, [], false⟩,
⟨some 39, .mkisl 1 2 [.str [], .bool false] [(0, .t 38)], none, 0, [], false⟩,
⟨some 40, .append 31 2 24 (.t 35) (.t 39), none, 5, [], false⟩,
⟨some 6, .mov (.t 40), none, 0, [], false⟩]))))))))
(.seq
(.reg false [
⟨some 41, .mov (.t 6), none, 0, [], false⟩,
⟨some 42, .call (.f 31) [.t 41, .f 32], none, 5, [], false⟩])
(.seq
(.reg false [
⟨some 43, .mov (.t 6), none, 0, [], false⟩,
⟨some 2, .mov (.t 43), none, 0, [], false⟩])
.ret))))))), 3, true⟩
def af14 : AFunc := ⟨4, [.cell 2 true 2],
  (.seq
(.reg false [
⟨some 1, .box (.t 0) 24 2, none, 2, [], false⟩,
⟨some 2, .new [.nils, .nils] 24, none, 2, [], false⟩])
(.seq
(.reg true [
⟨some 3, .addOff 0 (.t 1), none, 0, [], false⟩,
⟨some 4, .load false 1 (.t 3), none, 1, [], false⟩,
⟨some 5, .call (.f 34) [.t 4], none, 4, [], false⟩,
⟨some 6, .addOff 1 (.t 1), none, 0, [], false⟩,
⟨some 7, .load false 1 (.t 6), none, 1, [], true⟩,
⟨some 8, .call (.f 34) [.t 7], none, 4, [], false⟩,
⟨some 9, .build [.nils, .nils] [(0, 1, .t 5), (1, 1, .t 8)], none, 0, [], false⟩,
⟨none, .store 2 (.t 2) (.t 9), none, 5, [], false⟩])
.ret)), 1, true⟩
def af15 : AFunc := ⟨3, [.tmp 4],
  (.seq
(.reg false [
⟨some 2, .box (.t 0) 37 2, none, 2, [], false⟩,
⟨some 4, .mov (.c (.bool false)), none, 0, [], false⟩])
(.seq
(.reg false [
⟨some 5, .mov (.t 1), none, 0, [], false⟩,
⟨some 6, .mkfn (.func 36) [] [.t 2], none, 0, [], false⟩,
⟨some 7, .call (.f 35) [.t 5, .t 6], none, 5, [], false⟩,
⟨some 4, .mov (.t 7), none, 0, [], false⟩])
.ret)), 0, true⟩
def af16 : AFunc := ⟨6, [.tmp 6],
  (.seq
(.reg false [
⟨some 6, .mov (.c (.nils)), none, 0, [], false⟩])
(.seq
(.reg false [
⟨some 8, .mov (.t 0), none, 0, [], false⟩,
⟨some 9, .mov (.t 1), none, 0, [], false⟩,
⟨some 10, .mov (.t 2), none, 0, [], false⟩,
⟨some 11, .mov (.t 0), none, 0, [], false⟩,
⟨some 12, .len .slice (.t 11), none, 0, [], false⟩,
⟨some 13, .slice .slice 2 (.t 8) (some (.t 9)) (some (.t 10)) (some (.t 12)), none, 1, [], false⟩])
(.seq
(.seq
(.reg false [
⟨some 14, .mov (.t 1), none, 0, [], false⟩,
⟨some 15, .mov (.t 2), none, 0, [], false⟩,
⟨some 16, .bin .eql .int (.t 14) (.t 15), none, 0, [], false⟩])
(.cond (.t 16)
(.seq
(.reg false [
⟨some 17, .mov (.t 0), none, 0, [], false⟩,
⟨some 6, .mov (.t 17), none, 0, [], false⟩])
.ret)
.skip))
(.seq
(.reg false [
⟨some 18, .mov (.t 0), none, 0, [], false⟩,
⟨some 19, .len .slice (.t 18), none, 0, [], false⟩,
⟨some 7, .mov (.t 19), none, 0, [], false⟩])
(.seq
(.reg true [
⟨some 20, .mov (.t 0), none, 0, [], false⟩,
⟨some 21, .mov (.t 1), none, 0, [], false⟩,
⟨some 22, .slice .slice 2 (.t 20) none (some (.t 21)) none, none, 1, [], false⟩,
⟨some 23, .mov (.t 0), none, 0, [], false⟩,
⟨some 24, .mov (.t 2), none, 0, [], false⟩,
⟨some 25, .slice .slice 2 (.t 23) (some (.t 24)) none none, none, 1, [], false⟩,
⟨some 26, .append 37 2 32 (.t 22) (.t 25), none, 5, [], false⟩,
⟨some 0, .mov (.t 26), none, 0, [], false⟩])
(.seq
(.reg false [
⟨some 27, .mov (.t 0), none, 0, [], false⟩,
⟨some 28, .mov (.t 0), none, 0, [], false⟩,
⟨some 29, .len .slice (.t 28), none, 0, [], false⟩,
⟨some 30, .mov (.t 7), none, 0, [], false⟩,
⟨some 31, .slice .slice 2 (.t 27) (some (.t 29)) (some (.t 30)) none, none, 1, [], false⟩,
⟨none, .clear .slice [.int .i64 0, .nils] (.t 31), none, 5, [], false⟩])
(.seq
(.reg false [
⟨some 32, .mov (.t 0), none, 0, [], false⟩,
⟨some 6, .mov (.t 32), none, 0, [], false⟩])
.ret))))))), 2, true⟩
def af17 : AFunc := ⟨4, [.tmp 4],
  (.seq
(.reg false [
⟨some 4, .mov (.c (.bool false)), none, 0, [], false⟩])
(.seq
(.reg false [
⟨some 5, .mov (.t 0), none, 0, [], false⟩,
⟨some 6, .mov (.t 1), none, 0, [], false⟩,
⟨some 7, .call (.f 40) [.t 5, .t 6], none, 5, [], false⟩,
⟨some 8, .bin .geq .no (.t 7) (.c (.int .i64 0)), none, 0, [], false⟩,
⟨some 4, .mov (.t 8), none, 0, [], false⟩])
.ret)), 2, true⟩
def af18 : AFunc := ⟨4, [.tmp 3],
  (.seq
(.reg false [
⟨some 2, .box (.t 0) 39 5, none, 2, [], false⟩,
⟨some 3, .mov (.c (.bool false)), none, 0, [], false⟩])
(.seq
(.reg false [
⟨some 4, .addOff 0 (.t 2), none, 0, [], false⟩,
⟨some 5, .load false 1 (.t 4), none, 1, [], false⟩,
⟨some 6, .addOff 0 (.t 1), none, 0, [], false⟩,
⟨some 7, .load false 1 (.t 6), none, 1, [], false⟩,
⟨some 8, .bin .eql .int (.t 5) (.t 7), none, 0, [], false⟩,
⟨some 3, .mov (.t 8), none, 0, [], false⟩])
.ret)), 2, true⟩
def af19 : AFunc := ⟨4, [],
  (.seq
(.reg false [
⟨some 5, .mov (.t 0), none, 0, [], false⟩,
⟨some 6, .len .slice (.t 5), none, 0, [], false⟩,
⟨some 4, .mov (.t 6), none, 0, [], false⟩])
(.reg false [
⟨some 7, .mov (.t 0), none, 0, [], false⟩,
⟨some 8, .mov (.t 4), none, 0, [], false⟩,
⟨some 9, .mov (.t 4), none, 0, [], false⟩,
⟨some 10, .convI .u64 (.t 9), none, 0, [], false⟩,
⟨some 11, .call (.f 42) [.t 10], none, 3, [], false⟩,
⟨some 12, .mov (.t 1), none, 0, [], false⟩,
⟨some 13, .call (.f 41) [.t 7, .c (.int .i64 0), .t 8, .t 11, .t 12], none, 5, [], false⟩])), 2, true⟩
def af20 : AFunc := ⟨4, [.tmp 6],
  (.seq
(.reg false [
⟨some 4, .box (.t 1) 39 5, none, 2, [], false⟩,
⟨some 5, .box (.t 2) 39 5, none, 2, [], false⟩,
⟨some 6, .mov (.c (.int .i64 0)), none, 0, [], false⟩])
(.seq
(.reg false [
⟨some 7, .addOff 0 (.t 4), none, 0, [], false⟩,
⟨some 8, .load false 1 (.t 7), none, 1, [], false⟩,
⟨some 9, .addOff 0 (.t 5), none, 0, [], false⟩,
⟨some 10, .load false 1 (.t 9), none, 1, [], false⟩,
⟨some 11, .call (.f 43) [.t 8, .t 10], none, 3, [], false⟩,
⟨some 6, .mov (.t 11), none, 0, [], false⟩])
.ret)), 2, true⟩
def af21 : AFunc := ⟨3, [.tmp 3],
  (.seq
(.reg false [
⟨some 2, .box (.t 0) 39 5, none, 2, [], false⟩,
⟨some 3, .mov (.c (.bool false)), none, 0, [], false⟩])
(.seq
(.reg false [
⟨some 4, .load true 5 (.t 2), none, 1, [], false⟩,
⟨some 5, .load true 2 (.t 1), none, 1, [], false⟩,
⟨some 6, .call (.f 22) [.t 4, .t 5], none, 3, [], false⟩,
⟨some 3, .mov (.t 6), none, 0, [], false⟩])
.ret)), 2, true⟩
def af22 : AFunc := ⟨5, [.tmp 4],
  (.seq
(.reg false [
⟨some 2, .box (.t 0) 39 5, none, 2, [], false⟩,
⟨some 3, .box (.t 1) 44 2, none, 2, [], false⟩,
⟨some 4, .mov (.c (.bool false)), none, 0, [], false⟩])
(.seq
(.reg false [
⟨some 5, .addOff 1 (.t 2), none, 0, [], false⟩,
⟨some 6, .load false 1 (.t 5), none, 1, [], false⟩,
⟨some 7, .addOff 0 (.t 3), none, 0, [], false⟩,
⟨some 8, .load false 1 (.t 7), none, 1, [], false⟩,
⟨some 9, .bin .eql .int (.t 6) (.t 8), none, 0, [], false⟩,
⟨some 10, .mov (.t 9), none, 0, [], false⟩,
⟨some 11, .addOff 1 (.t 3), some (10, true), 0, [], false⟩,
⟨some 12, .load false 1 (.t 11), some (10, true), 1, [], false⟩,
⟨some 13, .bin .eql .str (.t 12) (.c (.str [])), some (10, true), 0, [], false⟩,
⟨some 14, .mov (.t 13), some (10, true), 0, [], false⟩,
⟨some 15, .addOff 1 (.t 3), some (14, false), 0, [], false⟩,
⟨some 16, .load false 1 (.t 15), some (14, false), 1, [], false⟩,
⟨some 17, .addOff 2 (.t 2), some (14, false), 0, [], false⟩,
⟨some 18, .load false 1 (.t 17), some (14, false), 1, [], false⟩,
⟨some 19, .bin .eql .str (.t 16) (.t 18), some (14, false), 0, [], false⟩,
⟨some 20, .pick (.t 14) (.c (.bool true)) (.t 19), some (10, true), 0, [], false⟩,
⟨some 21, .pick (.t 10) (.t 20) (.c (.bool false)), none, 0, [], false⟩,
⟨some 4, .mov (.t 21), none, 0, [], false⟩])
.ret)), 0, true⟩
def af23 : AFunc := ⟨7, [.tmp 4, .tmp 5],
  (.seq
(.reg false [
⟨some 3, .box (.t 1) 44 2, none, 2, [], false⟩,
⟨some 4, .mov (.c (.int .i64 0)), none, 0, [], false⟩,
⟨some 5, .mov (.c (.bool false)), none, 0, [], false⟩])
(.seq
(.seq
(.reg false [
⟨some 10, .mov (.t 0), none, 0, [], false⟩,
⟨some 11, .nilchk (.t 10), none, 0, [], false⟩,
⟨some 12, .addOff 0 (.t 11), none, 0, [], false⟩,
⟨some 13, .load false 1 (.t 12), none, 1, [], false⟩,
⟨some 14, .len .slice (.t 13), none, 0, [], false⟩,
⟨some 15, .mov (.c (.int .i64 0)), none, 0, [], false⟩])
(.block 0
(.loop [0, 3, 13, 14, 15]
(.seq
(.reg false [
⟨some 16, .bin .lss .no (.t 15) (.t 14), none, 0, [], false⟩])
(.seq
(.cond (.t 16)
.skip
(.exit 0))
(.seq
(.block 1
(.seq
(.reg false [
⟨some 17, .idxAddr none 5 (.t 13) (.t 15), none, 0, [], false⟩,
⟨some 18, .load true 5 (.t 17), none, 1, [], false⟩,
⟨some 7, .new [.int .i64 0, .int .i64 0, .str [], .int .i64 0, .int .i64 0] 39, none, 2, [], false⟩,
⟨none, .store 5 (.t 7) (.t 18), none, 5, [], false⟩])
(.seq
(.seq
(.reg false [
⟨some 19, .load true 5 (.t 7), none, 1, [], false⟩,
⟨some 20, .load true 2 (.t 3), none, 1, [], false⟩,
⟨some 21, .call (.f 22) [.t 19, .t 20], none, 3, [], false⟩,
⟨some 22, .un .not (.t 21), none, 0, [], false⟩])
(.cond (.t 22)
(.exit 1)
.skip))
(.seq
(.seq
(.reg false [
⟨some 23, .addOff 1 (.t 7), none, 0, [], false⟩,
⟨some 24, .load false 1 (.t 23), none, 1, [], false⟩,
⟨some 25, .bin .eql .int (.t 24) (.c (.int .i64 5)), none, 0, [], false⟩])
(.cond (.t 25)
(.seq
(.reg false [
⟨some 26, .addOff 0 (.t 7), none, 0, [], false⟩,
⟨some 27, .load false 1 (.t 26), none, 1, [], false⟩,
⟨some 4, .mov (.t 27), none, 0, [], false⟩,
⟨some 5, .mov (.c (.bool true)), none, 0, [], false⟩])
.ret)
.skip))
(.seq
(.reg true [
⟨some 29, .mov (.t 0), none, 0, [], false⟩,
⟨some 30, .nilchk (.t 29), none, 0, [], false⟩,
⟨some 31, .addOff 2 (.t 30), none, 0, [], false⟩,
⟨some 32, .load false 1 (.t 31), none, 1, [10], false⟩,
⟨some 33, .addOff 0 (.t 7), none, 0, [], false⟩,
⟨some 34, .load false 1 (.t 33), none, 1, [10], false⟩,
⟨some 35, .lookup .int (.agg [.int .i64 0, .str []]) true (.t 32) (.t 34), none, 1, [10], false⟩,
⟨some 28, .mov (.t 35), none, 0, [], false⟩,
⟨some 36, .extract (.t 28) 0, none, 0, [], false⟩,
⟨some 37, .extract (.t 28) 1, none, 0, [], false⟩,
⟨some 8, .new [.int .i64 0, .str []] 44, none, 2, [], false⟩,
⟨none, .store 2 (.t 8) (.t 36), none, 5, [], false⟩,
⟨some 9, .mov (.t 37), none, 0, [], false⟩])
(.seq
(.seq
(.reg true [
⟨some 38, .mov (.t 0), none, 0, [], false⟩,
⟨some 39, .nilchk (.t 38), none, 0, [], false⟩,
⟨some 40, .addOff 1 (.t 39), none, 0, [], false⟩,
⟨some 41, .load false 1 (.t 40), none, 1, [], false⟩,
⟨some 42, .addOff 0 (.t 7), none, 0, [], false⟩,
⟨some 43, .load false 1 (.t 42), none, 1, [], false⟩,
⟨some 44, .call (.f 44) [.t 41, .t 43], none, 3, [], false⟩,
⟨some 45, .mov (.t 44), none, 0, [], false⟩,
⟨some 46, .mov (.t 9), some (45, false), 0, [], false⟩,
⟨some 47, .mov (.t 46), some (45, false), 0, [], false⟩,
⟨some 48, .load true 2 (.t 8), some (47, true), 1, [], false⟩,
⟨some 49, .load true 2 (.t 3), some (47, true), 1, [], false⟩,
⟨some 50, .bin .neq (.struct [.int, .str]) (.t 48) (.t 49), some (47, true), 0, [], false⟩,
⟨some 51, .mov (.t 50), some (47, true), 0, [], false⟩,
⟨some 52, .addOff 1 (.t 3), some (51, false), 0, [], false⟩,
⟨some 53, .load false 1 (.t 52), some (51, false), 1, [], false⟩,
⟨some 54, .bin .eql .str (.t 53) (.c (.str [])), some (51, false), 0, [], false⟩,
⟨some 55, .pick (.t 51) (.c (.bool true)) (.t 54), some (47, true), 0, [], false⟩,
⟨some 56, .pick (.t 47) (.t 55) (.c (.bool false)), some (45, false), 0, [], false⟩,
⟨some 57, .pick (.t 45) (.c (.bool true)) (.t 56), none, 0, [], false⟩])
(.cond (.t 57)
(.exit 1)
.skip))
(.seq
(.reg true [
⟨some 58, .mov (.t 0), none, 0, [], false⟩,
⟨some 59, .nilchk (.t 58), none, 0, [], false⟩,
⟨some 60, .addOff 2 (.t 59), none, 0, [], false⟩,
⟨some 61, .load false 1 (.t 60), none, 1, [], false⟩,
⟨some 62, .addOff 0 (.t 7), none, 0, [], false⟩,
⟨some 63, .load false 1 (.t 62), none, 1, [], false⟩,
⟨some 64, .load true 2 (.t 3), none, 1, [], false⟩,
⟨none, .mapUpd .int (.t 61) (.t 63) (.t 64), none, 5, [], false⟩])
(.seq
(.reg false [
⟨some 65, .addOff 0 (.t 7), none, 0, [], false⟩,
⟨some 66, .load false 1 (.t 65), none, 1, [], false⟩,
⟨some 4, .mov (.t 66), none, 0, [], false⟩,
⟨some 5, .mov (.c (.bool true)), none, 0, [], false⟩])
.ret))))))))
(.reg false [
⟨some 67, .bin .add .no (.t 15) (.c (.int .i64 1)), none, 0, [], false⟩,
⟨some 15, .mov (.t 67), none, 0, [], false⟩])))))))
(.seq
(.reg false [
⟨some 4, .mov (.c (.int .i64 0)), none, 0, [], false⟩,
⟨some 5, .mov (.c (.bool false)), none, 0, [], false⟩])
.ret))), 2, true⟩
def af24 : AFunc := ⟨5, [.cell 2 true 25],
  (.seq
(.reg false [
⟨some 1, .box (.t 0) 51 25, none, 2, [], false⟩,
⟨some 2, .new [.str [], .str [], .str [], .int .i64 0, .bool false, .int .i64 0, .int .i64 0, .int .i64 0, .int .i64 0, .str [], .int .i64 0, .int .i64 0, .int .i64 0, .int .i64 0, .int .i64 0, .bool false, .bool false, .int .i64 0, .int .i64 0, .int .i64 0, .int .i64 0, .str [], .nils, .bool false, .bool false] 51, none, 2, [], false⟩])
(.seq
(.seq
(.reg false [
⟨some 4, .addOff 5 (.t 1), none, 0, [], false⟩,
⟨some 5, .load false 1 (.t 4), none, 1, [], false⟩,
⟨some 6, .bin .eql .int (.t 5) (.c (.int .i64 0)), none, 0, [], false⟩])
(.cond (.t 6)
(.reg false [
⟨some 7, .addOff 5 (.t 1), none, 0, [], false⟩,
⟨none, .store 1 (.t 7) (.c (.int .i64 1)), none, 5, [], false⟩])
.skip))
(.seq
(.reg false [
⟨some 3, .mov (.c (.int .i64 1)), none, 0, [], false⟩])
(.seq
(.seq
(.reg false [
⟨some 8, .addOff 5 (.t 1), none, 0, [], false⟩,
⟨some 9, .load false 1 (.t 8), none, 1, [], false⟩,
⟨some 10, .bin .eql .int (.t 9) (.c (.int .i64 1)), none, 0, [], false⟩])
(.cond (.t 10)
(.reg false [
⟨some 3, .mov (.c (.int .i64 2)), none, 0, [], false⟩])
.skip))
(.seq
(.seq
(.reg false [
⟨some 11, .addOff 6 (.t 1), none, 0, [], false⟩,
⟨some 12, .load false 1 (.t 11), none, 1, [], false⟩,
⟨some 13, .bin .eql .int (.t 12) (.c (.int .i64 0)), none, 0, [], false⟩])
(.cond (.t 13)
(.reg false [
⟨some 14, .mov (.t 3), none, 0, [], false⟩,
⟨some 15, .addOff 6 (.t 1), none, 0, [], false⟩,
⟨none, .store 1 (.t 15) (.t 14), none, 5, [], false⟩])
.skip))
(.seq
(.seq
(.reg false [
⟨some 16, .addOff 7 (.t 1), none, 0, [], false⟩,
⟨some 17, .load false 1 (.t 16), none, 1, [], false⟩,
⟨some 18, .bin .eql .int (.t 17) (.c (.int .i64 0)), none, 0, [], false⟩])
(.cond (.t 18)
(.seq
(.reg false [
⟨some 19, .addOff 6 (.t 1), none, 0, [], false⟩,
⟨some 20, .load false 1 (.t 19), none, 1, [], false⟩,
⟨some 21, .addOff 7 (.t 1), none, 0, [], false⟩,
⟨none, .store 1 (.t 21) (.t 20), none, 5, [], false⟩])
(.seq
(.reg false [
⟨some 22, .addOff 6 (.t 1), none, 0, [], false⟩,
⟨some 23, .load false 1 (.t 22), none, 1, [], false⟩,
⟨some 24, .bin .eql .int (.t 23) (.c (.int .i64 5)), none, 0, [], false⟩])
(.cond (.t 24)
(.reg false [
⟨some 25, .mov (.t 3), none, 0, [], false⟩,
⟨some 26, .addOff 7 (.t 1), none, 0, [], false⟩,
⟨none, .store 1 (.t 26) (.t 25), none, 5, [], false⟩])
.skip)))
.skip))
(.seq
(.reg false [
⟨some 27, .addOff 22 (.t 1), none, 0, [], false⟩,
⟨some 28, .load false 1 (.t 27), none, 1, [], false⟩,
⟨some 29, .append 9 1 16 (.c (.nils)) (.t 28), none, 5, [], false⟩,
⟨some 30, .addOff 22 (.t 1), none, 0, [], false⟩,
⟨none, .store 1 (.t 30) (.t 29), none, 5, [], false⟩])
(.seq
(.reg false [
⟨some 31, .load true 25 (.t 1), none, 1, [], false⟩,
⟨none, .store 25 (.t 2) (.t 31), none, 5, [], false⟩])
.ret)))))))), 0, true⟩
def af25 : AFunc := ⟨3, [.tmp 2],
  (.seq
(.reg false [
⟨some 2, .mov (.c (.bool false)), none, 0, [], false⟩])
(.seq
(.seq
(.reg false [
⟨some 3, .mov (.t 0), none, 0, [], false⟩])
(.block 0
(.seq
(.seq
(.reg false [
⟨some 5, .bin .eql .int (.t 3) (.c (.int .i64 2)), none, 0, [], false⟩,
⟨some 4, .mov (.t 5), none, 0, [], false⟩])
(.cond (.t 4)
.skip
(.seq
(.reg false [
⟨some 6, .bin .eql .int (.t 3) (.c (.int .i64 3)), none, 0, [], false⟩,
⟨some 4, .mov (.t 6), none, 0, [], false⟩])
(.cond (.t 4)
.skip
(.reg false [
⟨some 7, .bin .eql .int (.t 3) (.c (.int .i64 4)), none, 0, [], false⟩,
⟨some 4, .mov (.t 7), none, 0, [], false⟩])))))
(.cond (.t 4)
(.seq
(.reg false [
⟨some 2, .mov (.c (.bool true)), none, 0, [], false⟩])
.ret)
.skip))))
(.seq
(.reg false [
⟨some 2, .mov (.c (.bool false)), none, 0, [], false⟩])
.ret))), 0, true⟩
def af26 : AFunc := ⟨4, [.tmp 2],
  (.seq
(.reg false [
⟨some 1, .box (.t 0) 51 25, none, 2, [], false⟩,
⟨some 2, .mov (.c (.bool false)), none, 0, [], false⟩])
(.seq
(.reg false [
⟨some 3, .load true 25 (.t 1), none, 1, [], false⟩,
⟨some 4, .call (.f 45) [.t 3], none, 3, [], false⟩,
⟨some 5, .mov (.t 4), none, 0, [], false⟩,
⟨some 6, .addOff 5 (.t 1), some (5, true), 0, [], false⟩,
⟨some 7, .load false 1 (.t 6), some (5, true), 1, [], false⟩,
⟨some 8, .bin .neq .int (.t 7) (.c (.int .i64 3)), some (5, true), 0, [], false⟩,
⟨some 9, .pick (.t 5) (.t 8) (.c (.bool false)), none, 0, [], false⟩,
⟨some 2, .mov (.t 9), none, 0, [], false⟩])
.ret)), 0, true⟩
def af27 : AFunc := ⟨6, [.tmp 2, .tmp 3],
  (.seq
(.reg false [
⟨some 2, .mov (.c (.str [])), none, 0, [], false⟩,
⟨some 3, .mov (.c (.bool false)), none, 0, [], false⟩])
(.seq
(.reg false [
⟨some 5, .mov (.t 0), none, 0, [], false⟩,
⟨some 6, .len .str (.t 5), none, 0, [], false⟩,
⟨some 7, .bin .sub .no (.t 6) (.c (.int .i64 9)), none, 0, [], false⟩,
⟨some 4, .mov (.t 7), none, 0, [], false⟩])
(.seq
(.seq
(.reg false [
⟨some 8, .mov (.t 4), none, 0, [], false⟩,
⟨some 9, .bin .lss .no (.t 8) (.c (.int .i64 1)), none, 0, [], false⟩,
⟨some 10, .mov (.t 9), none, 0, [], false⟩,
⟨some 11, .mov (.t 0), some (10, false), 0, [], false⟩,
⟨some 12, .mov (.t 4), some (10, false), 0, [], false⟩,
⟨some 13, .mov (.t 4), some (10, false), 0, [], false⟩,
⟨some 14, .bin .add .no (.t 13) (.c (.int .i64 2)), some (10, false), 0, [], false⟩,
⟨some 15, .slice .str 1 (.t 11) (some (.t 12)) (some (.t 14)) none, some (10, false), 1, [], false⟩,
⟨some 16, .bin .neq .str (.t 15) (.c (.str [46, 71])), some (10, false), 0, [], false⟩,
⟨some 17, .pick (.t 10) (.c (.bool true)) (.t 16), none, 0, [], false⟩,
⟨some 18, .mov (.t 17), none, 0, [], false⟩,
⟨some 19, .mov (.t 0), some (18, false), 0, [], false⟩,
⟨some 20, .mov (.t 4), some (18, false), 0, [], false⟩,
⟨some 21, .bin .add .no (.t 20) (.c (.int .i64 6)), some (18, false), 0, [], false⟩,
⟨some 22, .slice .str 1 (.t 19) (some (.t 21)) none none, some (18, false), 1, [], false⟩,
⟨some 23, .bin .neq .str (.t 22) (.c (.str [86, 48, 48])), some (18, false), 0, [], false⟩,
⟨some 24, .pick (.t 18) (.c (.bool true)) (.t 23), none, 0, [], false⟩,
⟨some 25, .mov (.t 24), none, 0, [], false⟩,
⟨some 26, .mov (.t 0), some (25, false), 0, [], false⟩,
⟨some 27, .mov (.t 4), some (25, false), 0, [], false⟩,
⟨some 28, .bin .add .no (.t 27) (.c (.int .i64 2)), some (25, false), 0, [], false⟩,
⟨some 29, .mov (.t 4), some (25, false), 0, [], false⟩,
⟨some 30, .bin .add .no (.t 29) (.c (.int .i64 6)), some (25, false), 0, [], false⟩,
⟨some 31, .slice .str 1 (.t 26) (some (.t 28)) (some (.t 30)) none, some (25, false), 1, [], false⟩,
⟨some 32, .call (.f 46) [.t 31, .c (.str [48, 49, 50, 51, 52, 53, 54, 55, 56, 57])], some (25, false), 3, [], false⟩,
⟨some 33, .bin .neq .str (.t 32) (.c (.str [])), some (25, false), 0, [], false⟩,
⟨some 34, .pick (.t 25) (.c (.bool true)) (.t 33), none, 0, [], false⟩])
(.cond (.t 34)
(.seq
(.reg false [
⟨some 2, .mov (.c (.str [])), none, 0, [], false⟩,
⟨some 3, .mov (.c (.bool false)), none, 0, [], false⟩])
.ret)
.skip))
(.seq
(.reg false [
⟨some 35, .mov (.t 0), none, 0, [], false⟩,
⟨some 36, .mov (.t 4), none, 0, [], false⟩,
⟨some 37, .slice .str 1 (.t 35) none (some (.t 36)) none, none, 1, [], false⟩,
⟨some 2, .mov (.t 37), none, 0, [], false⟩,
⟨some 3, .mov (.c (.bool true)), none, 0, [], false⟩])
.ret)))), 0, true⟩
def af28 : AFunc := ⟨5, [.tmp 2],
  (.seq
(.reg false [
⟨some 1, .box (.t 0) 37 2, none, 2, [], false⟩,
⟨some 2, .mov (.c (.bool false)), none, 0, [], false⟩])
(.seq
(.seq
(.reg false [
⟨some 3, .mov (.c (.int .i64 1)), none, 0, [], false⟩])
(.block 0
(.loop [1, 3]
(.seq
(.seq
(.reg false [
⟨some 4, .mov (.t 3), none, 0, [], false⟩,
⟨some 5, .addOff 1 (.t 1), none, 0, [], false⟩,
⟨some 6, .load false 1 (.t 5), none, 1, [], false⟩,
⟨some 7, .len .slice (.t 6), none, 0, [], false⟩,
⟨some 8, .bin .lss .no (.t 4) (.t 7), none, 0, [], false⟩])
(.cond (.t 8)
.skip
(.exit 0)))
(.seq
(.block 1
(.seq
(.reg true [
⟨some 11, .addOff 1 (.t 1), none, 0, [], false⟩,
⟨some 12, .load false 1 (.t 11), none, 1, [], false⟩,
⟨some 13, .mov (.t 3), none, 0, [], false⟩,
⟨some 14, .bin .sub .no (.t 13) (.c (.int .i64 1)), none, 0, [], false⟩,
⟨some 15, .idxAddr none 2 (.t 12) (.t 14), none, 0, [], false⟩,
⟨some 16, .addOff 0 (.t 15), none, 0, [], false⟩,
⟨some 17, .load false 1 (.t 16), none, 1, [], false⟩,
⟨some 18, .addOff 1 (.t 1), none, 0, [], false⟩,
⟨some 19, .load false 1 (.t 18), none, 1, [], false⟩,
⟨some 20, .mov (.t 3), none, 0, [], false⟩,
⟨some 21, .idxAddr none 2 (.t 19) (.t 20), none, 0, [], false⟩,
⟨some 22, .addOff 0 (.t 21), none, 0, [], false⟩,
⟨some 23, .load false 1 (.t 22), none, 1, [], false⟩,
⟨some 24, .bin .geq .no (.t 17) (.t 23), none, 0, [], false⟩])
(.cond (.t 24)
(.seq
(.reg false [
⟨some 2, .mov (.c (.bool false)), none, 0, [], false⟩])
.ret)
.skip)))
(.reg false [
⟨some 9, .mov (.t 3), none, 0, [], false⟩,
⟨some 10, .bin .add .no (.t 9) (.c (.int .i64 1)), none, 0, [], false⟩,
⟨some 3, .mov (.t 10), none, 0, [], false⟩]))))))
(.seq
(.reg false [
⟨some 25, .addOff 1 (.t 1), none, 0, [], false⟩,
⟨some 26, .load false 1 (.t 25), none, 1, [], false⟩,
⟨some 27, .len .slice (.t 26), none, 0, [], false⟩,
⟨some 28, .bin .leq .no (.t 27) (.c (.int .i64 512)), none, 0, [], false⟩,
⟨some 2, .mov (.t 28), none, 0, [], false⟩])
.ret))), 0, true⟩
def af29 : AFunc := ⟨5, [.tmp 4],
  (.seq
(.reg false [
⟨some 4, .mov (.c (.int .i64 0)), none, 0, [], false⟩])
(.seq
(.seq
(.reg false [
⟨some 6, .mov (.t 0), none, 0, [], false⟩,
⟨some 7, .len .slice (.t 6), none, 0, [], false⟩,
⟨some 8, .mov (.c (.int .i64 0)), none, 0, [], false⟩])
(.block 0
(.loop [0, 1, 7, 8]
(.seq
(.reg false [
⟨some 9, .bin .lss .no (.t 8) (.t 7), none, 0, [], false⟩])
(.seq
(.cond (.t 9)
.skip
(.exit 0))
(.seq
(.block 1
(.seq
(.reg false [
⟨some 10, .mov (.t 8), none, 0, [], false⟩,
⟨some 5, .mov (.t 10), none, 0, [], false⟩])
(.seq
(.reg false [
⟨some 11, .mov (.t 1), none, 0, [], false⟩,
⟨some 12, .mov (.t 0), none, 0, [], false⟩,
⟨some 13, .mov (.t 5), none, 0, [], false⟩,
⟨some 14, .idxAddr none 2 (.t 12) (.t 13), none, 0, [], false⟩,
⟨some 15, .load true 2 (.t 14), none, 1, [], false⟩,
⟨some 16, .call (.t 11) [.t 15], none, 5, [], false⟩])
(.cond (.t 16)
(.seq
(.reg false [
⟨some 17, .mov (.t 5), none, 0, [], false⟩,
⟨some 4, .mov (.t 17), none, 0, [], false⟩])
.ret)
.skip))))
(.reg false [
⟨some 18, .bin .add .no (.t 8) (.c (.int .i64 1)), none, 0, [], false⟩,
⟨some 8, .mov (.t 18), none, 0, [], false⟩])))))))
(.seq
(.reg false [
⟨some 4, .mov (.c (.int .i64 (-1))), none, 0, [], false⟩])
.ret))), 2, true⟩
def af30 : AFunc := ⟨3, [.tmp 3],
  (.seq
(.reg false [
⟨some 2, .box (.t 0) 37 2, none, 2, [], false⟩,
⟨some 3, .mov (.c (.bool false)), none, 0, [], false⟩])
(.seq
(.reg false [
⟨some 4, .addOff 0 (.t 2), none, 0, [], false⟩,
⟨some 5, .load false 1 (.t 4), none, 1, [], false⟩,
⟨some 6, .load false 1 (.t 1), none, 1, [], false⟩,
⟨some 7, .bin .eql .int (.t 5) (.t 6), none, 0, [], false⟩,
⟨some 3, .mov (.t 7), none, 0, [], false⟩])
.ret)), 2, true⟩
def af31 : AFunc := ⟨4, [],
  (.seq
(.reg false [
⟨some 5, .mov (.t 0), none, 0, [], false⟩,
⟨some 6, .len .slice (.t 5), none, 0, [], false⟩,
⟨some 4, .mov (.t 6), none, 0, [], false⟩])
(.reg false [
⟨some 7, .mov (.t 0), none, 0, [], false⟩,
⟨some 8, .mov (.t 4), none, 0, [], false⟩,
⟨some 9, .mov (.t 4), none, 0, [], false⟩,
⟨some 10, .convI .u64 (.t 9), none, 0, [], false⟩,
⟨some 11, .call (.f 42) [.t 10], none, 3, [], false⟩,
⟨some 12, .mov (.t 1), none, 0, [], false⟩,
⟨some 13, .call (.f 47) [.t 7, .c (.int .i64 0), .t 8, .t 11, .t 12], none, 5, [], false⟩])), 2, true⟩
def af32 : AFunc := ⟨4, [.tmp 4],
  (.seq
(.reg false [
⟨some 2, .box (.t 0) 31 2, none, 2, [], false⟩,
⟨some 3, .box (.t 1) 31 2, none, 2, [], false⟩,
⟨some 4, .mov (.c (.int .i64 0)), none, 0, [], false⟩])
(.seq
(.reg false [
⟨some 5, .addOff 0 (.t 2), none, 0, [], false⟩,
⟨some 6, .load false 1 (.t 5), none, 1, [], false⟩,
⟨some 7, .addOff 0 (.t 3), none, 0, [], false⟩,
⟨some 8, .load false 1 (.t 7), none, 1, [], false⟩,
⟨some 9, .call (.f 33) [.t 6, .t 8], none, 3, [], false⟩,
⟨some 4, .mov (.t 9), none, 0, [], false⟩])
.ret)), 2, true⟩
def af33 : AFunc := ⟨3, [.tmp 4],
  (.seq
(.reg false [
⟨some 4, .mov (.c (.int .i64 0)), none, 0, [], false⟩])
(.seq
(.reg false [
⟨some 5, .mov (.t 0), none, 0, [], false⟩,
⟨some 6, .mov (.t 1), none, 0, [], false⟩,
⟨some 7, .call (.f 48) [.t 5, .t 6], none, 3, [], false⟩,
⟨some 4, .mov (.t 7), none, 0, [], false⟩])
.ret)), 0, true⟩
def af34 : AFunc := ⟨5, [.tmp 2],
  (.seq
(.reg false [
⟨some 2, .mov (.c (.nils)), none, 0, [], false⟩])
(.seq
(.reg false [
⟨some 3, .mov (.c (.nils)), none, 0, [], false⟩])
(.seq
(.seq
(.reg false [
⟨some 6, .mov (.t 0), none, 0, [], false⟩,
⟨some 7, .len .slice (.t 6), none, 0, [], false⟩,
⟨some 8, .mov (.c (.int .i64 0)), none, 0, [], false⟩])
(.block 0
(.loop [3, 6, 7, 8]
(.seq
(.reg false [
⟨some 9, .bin .lss .no (.t 8) (.t 7), none, 0, [], false⟩])
(.seq
(.cond (.t 9)
.skip
(.exit 0))
(.seq
(.block 1
(.seq
(.reg false [
⟨some 10, .idxAddr none 2 (.t 6) (.t 8), none, 0, [], false⟩,
⟨some 11, .load true 2 (.t 10), none, 1, [], false⟩,
⟨some 5, .new [.int .i64 0, .nils] 37, none, 2, [], false⟩,
⟨none, .store 2 (.t 5) (.t 11), none, 5, [], false⟩])
(.reg true [
⟨some 12, .mov (.t 3), none, 0, [], false⟩,
⟨some 13, .addOff 0 (.t 5), none, 0, [], false⟩,
⟨some 14, .load false 1 (.t 13), none, 1, [], false⟩,
⟨some 15, .addOff 1 (.t 5), none, 0, [], false⟩,
⟨some 16, .load false 1 (.t 15), none, 1, [], false⟩,
⟨some 17, .call (.f 49) [.t 16], none, 3, [], false⟩,
⟨some 18, .build [.int .i64 0, .nils] [(0, 1, .t 14), (1, 1, .t 17)], none, 0, [], false⟩,
⟨some 19, .mkisl 1 2 [.int .i64 0, .nils] [(0, .t 18)], none, 0, [], false⟩,
⟨some 20, .append 37 2 32 (.t 12) (.t 19), none, 5, [], false⟩,
⟨some 3, .mov (.t 20), none, 0, [], false⟩])))
(.reg false [
⟨some 21, .bin .add .no (.t 8) (.c (.int .i64 1)), none, 0, [], false⟩,
⟨some 8, .mov (.t 21), none, 0, [], false⟩])))))))
(.seq
(.reg false [
⟨some 22, .mov (.t 3), none, 0, [], false⟩,
⟨some 2, .mov (.t 22), none, 0, [], false⟩])
.ret)))), 1, true⟩
def af35 : AFunc := ⟨4, [.tmp 4],
  (.seq
(.reg false [
⟨some 4, .mov (.c (.bool false)), none, 0, [], false⟩])
(.seq
(.reg false [
⟨some 5, .mov (.t 0), none, 0, [], false⟩,
⟨some 6, .mov (.t 1), none, 0, [], false⟩,
⟨some 7, .call (.f 29) [.t 5, .t 6], none, 5, [], false⟩,
⟨some 8, .bin .geq .no (.t 7) (.c (.int .i64 0)), none, 0, [], false⟩,
⟨some 4, .mov (.t 8), none, 0, [], false⟩])
.ret)), 2, true⟩
def af36 : AFunc := ⟨3, [.tmp 3],
  (.seq
(.reg false [
⟨some 2, .box (.t 0) 37 2, none, 2, [], false⟩,
⟨some 3, .mov (.c (.bool false)), none, 0, [], false⟩])
(.seq
(.reg false [
⟨some 4, .addOff 1 (.t 1), none, 0, [], false⟩,
⟨some 5, .load false 1 (.t 4), none, 1, [], false⟩,
⟨some 6, .mkfn (.func 38) [] [.t 2], none, 0, [], false⟩,
⟨some 7, .call (.f 37) [.t 5, .t 6], none, 5, [], false⟩,
⟨some 3, .mov (.t 7), none, 0, [], false⟩])
.ret)), 2, true⟩
def af37 : AFunc := ⟨4, [.tmp 4],
  (.seq
(.reg false [
⟨some 4, .mov (.c (.bool false)), none, 0, [], false⟩])
(.seq
(.reg false [
⟨some 5, .mov (.t 0), none, 0, [], false⟩,
⟨some 6, .mov (.t 1), none, 0, [], false⟩,
⟨some 7, .call (.f 50) [.t 5, .t 6], none, 5, [], false⟩,
⟨some 8, .bin .geq .no (.t 7) (.c (.int .i64 0)), none, 0, [], false⟩,
⟨some 4, .mov (.t 8), none, 0, [], false⟩])
.ret)), 2, true⟩
def af38 : AFunc := ⟨3, [.tmp 3],
  (.seq
(.reg false [
⟨some 2, .box (.t 0) 31 2, none, 2, [], false⟩,
⟨some 3, .mov (.c (.bool false)), none, 0, [], false⟩])
(.seq
(.reg false [
⟨some 4, .addOff 1 (.t 1), none, 0, [], false⟩,
⟨some 5, .load false 1 (.t 4), none, 1, [], false⟩,
⟨some 6, .mkfn (.func 39) [] [.t 2], none, 0, [], false⟩,
⟨some 7, .call (.f 37) [.t 5, .t 6], none, 5, [], false⟩,
⟨some 3, .mov (.t 7), none, 0, [], false⟩])
.ret)), 2, true⟩
def af39 : AFunc := ⟨5, [.tmp 3],
  (.seq
(.reg false [
⟨some 2, .box (.t 0) 31 2, none, 2, [], false⟩,
⟨some 3, .mov (.c (.bool false)), none, 0, [], false⟩])
(.seq
(.reg false [
⟨some 4, .addOff 0 (.t 1), none, 0, [], false⟩,
⟨some 5, .load false 1 (.t 4), none, 1, [], false⟩,
⟨some 6, .addOff 0 (.t 2), none, 0, [], false⟩,
⟨some 7, .load false 1 (.t 6), none, 1, [], false⟩,
⟨some 8, .bin .eql .str (.t 5) (.t 7), none, 0, [], false⟩,
⟨some 9, .mov (.t 8), none, 0, [], false⟩,
⟨some 10, .addOff 1 (.t 1), some (9, true), 0, [], false⟩,
⟨some 11, .load false 1 (.t 10), some (9, true), 1, [], false⟩,
⟨some 12, .mov (.t 11), some (9, true), 0, [], false⟩,
⟨some 13, .addOff 1 (.t 2), some (12, false), 0, [], false⟩,
⟨some 14, .load false 1 (.t 13), some (12, false), 1, [], false⟩,
⟨some 15, .pick (.t 12) (.c (.bool true)) (.t 14), some (9, true), 0, [], false⟩,
⟨some 16, .pick (.t 9) (.t 15) (.c (.bool false)), none, 0, [], false⟩,
⟨some 3, .mov (.t 16), none, 0, [], false⟩])
.ret)), 2, true⟩
def af40 : AFunc := ⟨5, [.tmp 4],
  (.seq
(.reg false [
⟨some 4, .mov (.c (.int .i64 0)), none, 0, [], false⟩])
(.seq
(.seq
(.reg false [
⟨some 6, .mov (.t 0), none, 0, [], false⟩,
⟨some 7, .len .slice (.t 6), none, 0, [], false⟩,
⟨some 8, .mov (.c (.int .i64 0)), none, 0, [], false⟩])
(.block 0
(.loop [0, 1, 7, 8]
(.seq
(.reg false [
⟨some 9, .bin .lss .no (.t 8) (.t 7), none, 0, [], false⟩])
(.seq
(.cond (.t 9)
.skip
(.exit 0))
(.seq
(.block 1
(.seq
(.reg false [
⟨some 10, .mov (.t 8), none, 0, [], false⟩,
⟨some 5, .mov (.t 10), none, 0, [], false⟩])
(.seq
(.reg false [
⟨some 11, .mov (.t 1), none, 0, [], false⟩,
⟨some 12, .mov (.t 0), none, 0, [], false⟩,
⟨some 13, .mov (.t 5), none, 0, [], false⟩,
⟨some 14, .idxAddr none 5 (.t 12) (.t 13), none, 0, [], false⟩,
⟨some 15, .load true 5 (.t 14), none, 1, [], false⟩,
⟨some 16, .call (.t 11) [.t 15], none, 5, [], false⟩])
(.cond (.t 16)
(.seq
(.reg false [
⟨some 17, .mov (.t 5), none, 0, [], false⟩,
⟨some 4, .mov (.t 17), none, 0, [], false⟩])
.ret)
.skip))))
(.reg false [
⟨some 18, .bin .add .no (.t 8) (.c (.int .i64 1)), none, 0, [], false⟩,
⟨some 8, .mov (.t 18), none, 0, [], false⟩])))))))
(.seq
(.reg false [
⟨some 4, .mov (.c (.int .i64 (-1))), none, 0, [], false⟩])
.ret))), 2, true⟩
def af41 : AFunc := ⟨8, [],
  (.seq
(.reg false [
⟨some 10, .mov (.c (.bool true)), none, 0, [], false⟩])
(.seq
(.reg false [
⟨some 11, .mov (.c (.bool true)), none, 0, [], false⟩])
(.block 0
(.loop [0, 1, 2, 3, 4, 10, 11]
(.block 1
(.seq
(.reg false [
⟨some 21, .mov (.t 2), none, 0, [], false⟩,
⟨some 22, .mov (.t 1), none, 0, [], false⟩,
⟨some 23, .bin .sub .no (.t 21) (.t 22), none, 0, [], false⟩,
⟨some 12, .mov (.t 23), none, 0, [], false⟩])
(.seq
(.seq
(.reg false [
⟨some 24, .mov (.t 12), none, 0, [], false⟩,
⟨some 25, .bin .leq .no (.t 24) (.c (.int .i64 12)), none, 0, [], false⟩])
(.cond (.t 25)
(.seq
(.reg false [
⟨some 26, .mov (.t 0), none, 0, [], false⟩,
⟨some 27, .mov (.t 1), none, 0, [], false⟩,
⟨some 28, .mov (.t 2), none, 0, [], false⟩,
⟨some 29, .mov (.t 4), none, 0, [], false⟩,
⟨some 30, .call (.f 51) [.t 26, .t 27, .t 28, .t 29], none, 5, [], false⟩])
.ret)
.skip))
(.seq
(.seq
(.reg false [
⟨some 31, .mov (.t 3), none, 0, [], false⟩,
⟨some 32, .bin .eql .int (.t 31) (.c (.int .i64 0)), none, 0, [], false⟩])
(.cond (.t 32)
(.seq
(.reg false [
⟨some 33, .mov (.t 0), none, 0, [], false⟩,
⟨some 34, .mov (.t 1), none, 0, [], false⟩,
⟨some 35, .mov (.t 2), none, 0, [], false⟩,
⟨some 36, .mov (.t 4), none, 0, [], false⟩,
⟨some 37, .call (.f 52) [.t 33, .t 34, .t 35, .t 36], none, 5, [], false⟩])
.ret)
.skip))
(.seq
(.seq
(.reg false [
⟨some 38, .mov (.t 10), none, 0, [], false⟩,
⟨some 39, .un .not (.t 38), none, 0, [], false⟩])
(.cond (.t 39)
(.seq
(.reg false [
⟨some 40, .mov (.t 0), none, 0, [], false⟩,
⟨some 41, .mov (.t 1), none, 0, [], false⟩,
⟨some 42, .mov (.t 2), none, 0, [], false⟩,
⟨some 43, .mov (.t 4), none, 0, [], false⟩,
⟨some 44, .call (.f 53) [.t 40, .t 41, .t 42, .t 43], none, 5, [], false⟩])
(.reg false [
⟨some 45, .mov (.t 3), none, 0, [], false⟩,
⟨some 46, .bin .sub .no (.t 45) (.c (.int .i64 1)), none, 0, [], false⟩,
⟨some 3, .mov (.t 46), none, 0, [], false⟩]))
.skip))
(.seq
(.reg false [
⟨some 48, .mov (.t 0), none, 0, [], false⟩,
⟨some 49, .mov (.t 1), none, 0, [], false⟩,
⟨some 50, .mov (.t 2), none, 0, [], false⟩,
⟨some 51, .mov (.t 4), none, 0, [], false⟩,
⟨some 52, .call (.f 54) [.t 48, .t 49, .t 50, .t 51], none, 5, [], false⟩,
⟨some 47, .mov (.t 52), none, 0, [], false⟩,
⟨some 53, .extract (.t 47) 0, none, 0, [], false⟩,
⟨some 54, .extract (.t 47) 1, none, 0, [], false⟩,
⟨some 13, .mov (.t 53), none, 0, [], false⟩,
⟨some 14, .mov (.t 54), none, 0, [], false⟩])
(.seq
(.seq
(.reg false [
⟨some 55, .mov (.t 14), none, 0, [], false⟩,
⟨some 56, .bin .eql .int (.t 55) (.c (.int .i64 2)), none, 0, [], false⟩])
(.cond (.t 56)
(.seq
(.reg false [
⟨some 57, .mov (.t 0), none, 0, [], false⟩,
⟨some 58, .mov (.t 1), none, 0, [], false⟩,
⟨some 59, .mov (.t 2), none, 0, [], false⟩,
⟨some 60, .mov (.t 4), none, 0, [], false⟩,
⟨some 61, .call (.f 55) [.t 57, .t 58, .t 59, .t 60], none, 5, [], false⟩])
(.seq
(.reg false [
⟨some 62, .mov (.t 2), none, 0, [], false⟩,
⟨some 63, .bin .sub .no (.t 62) (.c (.int .i64 1)), none, 0, [], false⟩,
⟨some 64, .mov (.t 13), none, 0, [], false⟩,
⟨some 65, .mov (.t 1), none, 0, [], false⟩,
⟨some 66, .bin .sub .no (.t 64) (.t 65), none, 0, [], false⟩,
⟨some 67, .bin .sub .no (.t 63) (.t 66), none, 0, [], false⟩,
⟨some 13, .mov (.t 67), none, 0, [], false⟩])
(.reg false [
⟨some 14, .mov (.c (.int .i64 1)), none, 0, [], false⟩])))
.skip))
(.seq
(.seq
(.reg false [
⟨some 68, .mov (.t 10), none, 0, [], false⟩,
⟨some 69, .mov (.t 68), none, 0, [], false⟩,
⟨some 70, .mov (.t 11), some (69, true), 0, [], false⟩,
⟨some 71, .pick (.t 69) (.t 70) (.c (.bool false)), none, 0, [], false⟩,
⟨some 72, .mov (.t 71), none, 0, [], false⟩,
⟨some 73, .mov (.t 14), some (72, true), 0, [], false⟩,
⟨some 74, .bin .eql .int (.t 73) (.c (.int .i64 1)), some (72, true), 0, [], false⟩,
⟨some 75, .pick (.t 72) (.t 74) (.c (.bool false)), none, 0, [], false⟩])
(.cond (.t 75)
(.seq
(.reg false [
⟨some 76, .mov (.t 0), none, 0, [], false⟩,
⟨some 77, .mov (.t 1), none, 0, [], false⟩,
⟨some 78, .mov (.t 2), none, 0, [], false⟩,
⟨some 79, .mov (.t 4), none, 0, [], false⟩,
⟨some 80, .call (.f 56) [.t 76, .t 77, .t 78, .t 79], none, 5, [], false⟩])
(.cond (.t 80)
.ret
.skip))
.skip))
(.seq
(.seq
(.reg true [
⟨some 81, .mov (.t 1), none, 0, [], false⟩,
⟨some 82, .bin .gtr .no (.t 81) (.c (.int .i64 0)), none, 0, [], false⟩,
⟨some 83, .mov (.t 82), none, 0, [], false⟩,
⟨some 84, .mov (.t 4), some (83, true), 0, [], false⟩,
⟨some 85, .mov (.t 0), some (83, true), 0, [], false⟩,
⟨some 86, .mov (.t 1), some (83, true), 0, [], false⟩,
⟨some 87, .bin .sub .no (.t 86) (.c (.int .i64 1)), some (83, true), 0, [], false⟩,
⟨some 88, .idxAddr none 5 (.t 85) (.t 87), some (83, true), 0, [], false⟩,
⟨some 89, .load true 5 (.t 88), some (83, true), 1, [], false⟩,
⟨some 90, .mov (.t 0), some (83, true), 0, [], false⟩,
⟨some 91, .mov (.t 13), some (83, true), 0, [], false⟩,
⟨some 92, .idxAddr none 5 (.t 90) (.t 91), some (83, true), 0, [], false⟩,
⟨some 93, .load true 5 (.t 92), some (83, true), 1, [], false⟩,
⟨some 94, .call (.t 84) [.t 89, .t 93], some (83, true), 5, [], false⟩,
⟨some 95, .bin .lss .no (.t 94) (.c (.int .i64 0)), some (83, true), 0, [], false⟩,
⟨some 96, .un .not (.t 95), some (83, true), 0, [], false⟩,
⟨some 97, .pick (.t 83) (.t 96) (.c (.bool false)), none, 0, [], false⟩])
(.cond (.t 97)
(.seq
(.reg false [
⟨some 98, .mov (.t 0), none, 0, [], false⟩,
⟨some 99, .mov (.t 1), none, 0, [], false⟩,
⟨some 100, .mov (.t 2), none, 0, [], false⟩,
⟨some 101, .mov (.t 13), none, 0, [], false⟩,
⟨some 102, .mov (.t 4), none, 0, [], false⟩,
⟨some 103, .call (.f 57) [.t 98, .t 99, .t 100, .t 101, .t 102], none, 5, [], false⟩,
⟨some 15, .mov (.t 103), none, 0, [], false⟩])
(.seq
(.reg false [
⟨some 104, .mov (.t 15), none, 0, [], false⟩,
⟨some 1, .mov (.t 104), none, 0, [], false⟩])
(.exit 1)))
.skip))
(.seq
(.reg false [
⟨some 106, .mov (.t 0), none, 0, [], false⟩,
⟨some 107, .mov (.t 1), none, 0, [], false⟩,
⟨some 108, .mov (.t 2), none, 0, [], false⟩,
⟨some 109, .mov (.t 13), none, 0, [], false⟩,
⟨some 110, .mov (.t 4), none, 0, [], false⟩,
⟨some 111, .call (.f 58) [.t 106, .t 107, .t 108, .t 109, .t 110], none, 5, [], false⟩,
⟨some 105, .mov (.t 111), none, 0, [], false⟩,
⟨some 112, .extract (.t 105) 0, none, 0, [], false⟩,
⟨some 113, .extract (.t 105) 1, none, 0, [], false⟩,
⟨some 16, .mov (.t 112), none, 0, [], false⟩,
⟨some 17, .mov (.t 113), none, 0, [], false⟩])
(.seq
(.reg false [
⟨some 114, .mov (.t 17), none, 0, [], false⟩,
⟨some 11, .mov (.t 114), none, 0, [], false⟩])
(.seq
(.reg false [
⟨some 115, .mov (.t 16), none, 0, [], false⟩,
⟨some 116, .mov (.t 1), none, 0, [], false⟩,
⟨some 117, .bin .sub .no (.t 115) (.t 116), none, 0, [], false⟩,
⟨some 118, .mov (.t 2), none, 0, [], false⟩,
⟨some 119, .mov (.t 16), none, 0, [], false⟩,
⟨some 120, .bin .sub .no (.t 118) (.t 119), none, 0, [], false⟩,
⟨some 18, .mov (.t 117), none, 0, [], false⟩,
⟨some 19, .mov (.t 120), none, 0, [], false⟩])
(.seq
(.reg false [
⟨some 121, .mov (.t 12), none, 0, [], false⟩,
⟨some 122, .bin .quo .no (.t 121) (.c (.int .i64 8)), none, 0, [], false⟩,
⟨some 20, .mov (.t 122), none, 0, [], false⟩])
(.seq
(.reg false [
⟨some 123, .mov (.t 18), none, 0, [], false⟩,
⟨some 124, .mov (.t 19), none, 0, [], false⟩,
⟨some 125, .bin .lss .no (.t 123) (.t 124), none, 0, [], false⟩])
(.cond (.t 125)
(.seq
(.reg false [
⟨some 126, .mov (.t 18), none, 0, [], false⟩,
⟨some 127, .mov (.t 20), none, 0, [], false⟩,
⟨some 128, .bin .geq .no (.t 126) (.t 127), none, 0, [], false⟩,
⟨some 10, .mov (.t 128), none, 0, [], false⟩])
(.seq
(.reg false [
⟨some 129, .mov (.t 0), none, 0, [], false⟩,
⟨some 130, .mov (.t 1), none, 0, [], false⟩,
⟨some 131, .mov (.t 16), none, 0, [], false⟩,
⟨some 132, .mov (.t 3), none, 0, [], false⟩,
⟨some 133, .mov (.t 4), none, 0, [], false⟩,
⟨some 134, .call (.f 41) [.t 129, .t 130, .t 131, .t 132, .t 133], none, 5, [], false⟩])
(.reg false [
⟨some 135, .mov (.t 16), none, 0, [], false⟩,
⟨some 136, .bin .add .no (.t 135) (.c (.int .i64 1)), none, 0, [], false⟩,
⟨some 1, .mov (.t 136), none, 0, [], false⟩])))
(.seq
(.reg false [
⟨some 137, .mov (.t 19), none, 0, [], false⟩,
⟨some 138, .mov (.t 20), none, 0, [], false⟩,
⟨some 139, .bin .geq .no (.t 137) (.t 138), none, 0, [], false⟩,
⟨some 10, .mov (.t 139), none, 0, [], false⟩])
(.seq
(.reg false [
⟨some 140, .mov (.t 0), none, 0, [], false⟩,
⟨some 141, .mov (.t 16), none, 0, [], false⟩,
⟨some 142, .bin .add .no (.t 141) (.c (.int .i64 1)), none, 0, [], false⟩,
⟨some 143, .mov (.t 2), none, 0, [], false⟩,
⟨some 144, .mov (.t 3), none, 0, [], false⟩,
⟨some 145, .mov (.t 4), none, 0, [], false⟩,
⟨some 146, .call (.f 41) [.t 140, .t 142, .t 143, .t 144, .t 145], none, 5, [], false⟩])
(.reg false [
⟨some 147, .mov (.t 16), none, 0, [], false⟩,
⟨some 2, .mov (.t 147), none, 0, [], false⟩])))))))))))))))))))))), 2, true⟩
def af42 : AFunc := ⟨3, [.tmp 2],
  (.seq
(.reg false [
⟨some 2, .mov (.c (.int .i64 0)), none, 0, [], false⟩])
(.seq
(.cond (.c (.bool false))
(.seq
(.reg false [
⟨some 3, .mov (.t 0), none, 0, [], false⟩,
⟨some 4, .convI .u32 (.t 3), none, 0, [], false⟩,
⟨some 5, .call (.f 59) [.t 4], none, 3, [], false⟩,
⟨some 2, .mov (.t 5), none, 0, [], false⟩])
.ret)
.skip)
(.seq
(.reg false [
⟨some 6, .mov (.t 0), none, 0, [], false⟩,
⟨some 7, .call (.f 60) [.t 6], none, 3, [], false⟩,
⟨some 2, .mov (.t 7), none, 0, [], false⟩])
.ret))), 0, true⟩
def af43 : AFunc := ⟨5, [.tmp 4],
  (.seq
(.reg false [
⟨some 4, .mov (.c (.int .i64 0)), none, 0, [], false⟩])
(.seq
(.reg false [
⟨some 7, .mov (.t 0), none, 0, [], false⟩,
⟨some 8, .call (.f 61) [.t 7], none, 3, [], false⟩,
⟨some 5, .mov (.t 8), none, 0, [], false⟩])
(.seq
(.reg false [
⟨some 9, .mov (.t 1), none, 0, [], false⟩,
⟨some 10, .call (.f 61) [.t 9], none, 3, [], false⟩,
⟨some 6, .mov (.t 10), none, 0, [], false⟩])
(.seq
(.seq
(.reg false [
⟨some 11, .mov (.t 5), none, 0, [], false⟩])
(.cond (.t 11)
(.seq
(.seq
(.reg false [
⟨some 12, .mov (.t 6), none, 0, [], false⟩])
(.cond (.t 12)
(.seq
(.reg false [
⟨some 4, .mov (.c (.int .i64 0)), none, 0, [], false⟩])
.ret)
.skip))
(.seq
(.reg false [
⟨some 4, .mov (.c (.int .i64 (-1))), none, 0, [], false⟩])
.ret))
.skip))
(.seq
(.seq
(.reg false [
⟨some 13, .mov (.t 6), none, 0, [], false⟩])
(.cond (.t 13)
(.seq
(.reg false [
⟨some 4, .mov (.c (.int .i64 1)), none, 0, [], false⟩])
.ret)
.skip))
(.seq
(.seq
(.reg false [
⟨some 14, .mov (.t 0), none, 0, [], false⟩,
⟨some 15, .mov (.t 1), none, 0, [], false⟩,
⟨some 16, .bin .lss .no (.t 14) (.t 15), none, 0, [], false⟩])
(.cond (.t 16)
(.seq
(.reg false [
⟨some 4, .mov (.c (.int .i64 (-1))), none, 0, [], false⟩])
.ret)
.skip))
(.seq
(.seq
(.reg false [
⟨some 17, .mov (.t 0), none, 0, [], false⟩,
⟨some 18, .mov (.t 1), none, 0, [], false⟩,
⟨some 19, .bin .gtr .no (.t 17) (.t 18), none, 0, [], false⟩])
(.cond (.t 19)
(.seq
(.reg false [
⟨some 4, .mov (.c (.int .i64 1)), none, 0, [], false⟩])
.ret)
.skip))
(.seq
(.reg false [
⟨some 4, .mov (.c (.int .i64 0)), none, 0, [], false⟩])
.ret)))))))), 0, true⟩
def af44 : AFunc := ⟨4, [.tmp 4],
  (.seq
(.reg false [
⟨some 4, .mov (.c (.bool false)), none, 0, [], false⟩])
(.seq
(.reg false [
⟨some 5, .mov (.t 0), none, 0, [], false⟩,
⟨some 6, .mov (.t 1), none, 0, [], false⟩,
⟨some 7, .call (.f 62) [.t 5, .t 6], none, 3, [], false⟩,
⟨some 8, .bin .geq .no (.t 7) (.c (.int .i64 0)), none, 0, [], false⟩,
⟨some 4, .mov (.t 8), none, 0, [], false⟩])
.ret)), 0, true⟩
def af45 : AFunc := ⟨5, [.tmp 2],
  (.seq
(.reg false [
⟨some 1, .box (.t 0) 51 25, none, 2, [], false⟩,
⟨some 2, .mov (.c (.bool false)), none, 0, [], false⟩])
(.seq
(.reg false [
⟨some 3, .addOff 1 (.t 1), none, 0, [], false⟩,
⟨some 4, .load false 1 (.t 3), none, 1, [], false⟩,
⟨some 5, .bin .neq .str (.t 4) (.c (.str [])), none, 0, [], false⟩,
⟨some 6, .mov (.t 5), none, 0, [], false⟩,
⟨some 7, .addOff 24 (.t 1), some (6, true), 0, [], false⟩,
⟨some 8, .load false 1 (.t 7), some (6, true), 1, [], false⟩,
⟨some 9, .un .not (.t 8), some (6, true), 0, [], false⟩,
⟨some 10, .pick (.t 6) (.t 9) (.c (.bool false)), none, 0, [], false⟩,
⟨some 11, .mov (.t 10), none, 0, [], false⟩,
⟨some 12, .addOff 21 (.t 1), some (11, true), 0, [], false⟩,
⟨some 13, .load false 1 (.t 12), some (11, true), 1, [], false⟩,
⟨some 14, .bin .eql .str (.t 13) (.c (.str [])), some (11, true), 0, [], false⟩,
⟨some 15, .pick (.t 11) (.t 14) (.c (.bool false)), none, 0, [], false⟩,
⟨some 16, .mov (.t 15), none, 0, [], false⟩,
⟨some 17, .addOff 23 (.t 1), some (16, true), 0, [], false⟩,
⟨some 18, .load false 1 (.t 17), some (16, true), 1, [], false⟩,
⟨some 19, .un .not (.t 18), some (16, true), 0, [], false⟩,
⟨some 20, .pick (.t 16) (.t 19) (.c (.bool false)), none, 0, [], false⟩,
⟨some 2, .mov (.t 20), none, 0, [], false⟩])
.ret)), 0, true⟩
def af46 : AFunc := ⟨6, [.tmp 4],
  (.seq
(.reg false [
⟨some 4, .mov (.c (.str [])), none, 0, [], false⟩])
(.seq
(.seq
(.reg false [
⟨some 7, .mov (.t 0), none, 0, [], false⟩,
⟨some 8, .bin .eql .str (.t 7) (.c (.str [])), none, 0, [], false⟩,
⟨some 9, .mov (.t 8), none, 0, [], false⟩,
⟨some 10, .mov (.t 1), some (9, false), 0, [], false⟩,
⟨some 11, .bin .eql .str (.t 10) (.c (.str [])), some (9, false), 0, [], false⟩,
⟨some 12, .pick (.t 9) (.c (.bool true)) (.t 11), none, 0, [], false⟩])
(.cond (.t 12)
(.seq
(.reg false [
⟨some 13, .mov (.t 0), none, 0, [], false⟩,
⟨some 4, .mov (.t 13), none, 0, [], false⟩])
.ret)
.skip))
(.seq
(.seq
(.reg false [
⟨some 14, .mov (.t 1), none, 0, [], false⟩,
⟨some 15, .len .str (.t 14), none, 0, [], false⟩,
⟨some 16, .bin .eql .int (.t 15) (.c (.int .i64 1)), none, 0, [], false⟩,
⟨some 17, .mov (.t 16), none, 0, [], false⟩,
⟨some 18, .mov (.t 1), some (17, true), 0, [], false⟩,
⟨some 19, .idxStr (.t 18) (.c (.int .i64 0)), some (17, true), 0, [], false⟩,
⟨some 20, .bin .lss .no (.t 19) (.c (.int .u8 128)), some (17, true), 0, [], false⟩,
⟨some 21, .pick (.t 17) (.t 20) (.c (.bool false)), none, 0, [], false⟩])
(.cond (.t 21)
(.seq
(.reg true [
⟨some 22, .mov (.t 0), none, 0, [], false⟩,
⟨some 23, .mov (.t 1), none, 0, [], false⟩,
⟨some 24, .idxStr (.t 23) (.c (.int .i64 0)), none, 0, [], false⟩,
⟨some 25, .call (.f 64) [.t 22, .t 24], none, 3, [], false⟩,
⟨some 26, .mov (.t 1), none, 0, [], false⟩,
⟨some 27, .idxStr (.t 26) (.c (.int .i64 0)), none, 0, [], false⟩,
⟨some 28, .call (.f 63) [.t 25, .t 27], none, 3, [], false⟩,
⟨some 4, .mov (.t 28), none, 0, [], false⟩])
.ret)
.skip))
(.seq
(.seq
(.reg false [
⟨some 30, .mov (.t 1), none, 0, [], false⟩,
⟨some 31, .call (.f 65) [.t 30], none, 3, [], false⟩,
⟨some 29, .mov (.t 31), none, 0, [], false⟩,
⟨some 32, .extract (.t 29) 0, none, 0, [], false⟩,
⟨some 33, .extract (.t 29) 1, none, 0, [], false⟩,
⟨some 5, .new [.bool false, .bool false, .bool false, .bool false, .bool false, .bool false, .bool false, .bool false, .bool false, .bool false, .bool false, .bool false, .bool false, .bool false, .bool false, .bool false, .bool false, .bool false, .bool false, .bool false, .bool false, .bool false, .bool false, .bool false, .bool false, .bool false, .bool false, .bool false, .bool false, .bool false, .bool false, .bool false, .bool false, .bool false, .bool false, .bool false, .bool false, .bool false, .bool false, .bool false, .bool false, .bool false, .bool false, .bool false, .bool false, .bool false, .bool false, .bool false, .bool false, .bool false, .bool false, .bool false, .bool false, .bool false, .bool false, .bool false, .bool false, .bool false, .bool false, .bool false, .bool false, .bool false, .bool false, .bool false, .bool false, .bool false, .bool false, .bool false, .bool false, .bool false, .bool false, .bool false, .bool false, .bool false, .bool false, .bool false, .bool false, .bool false, .bool false, .bool false, .bool false, .bool false, .bool false, .bool false, .bool false, .bool false, .bool false, .bool false, .bool false, .bool false, .bool false, .bool false, .bool false, .bool false, .bool false, .bool false, .bool false, .bool false, .bool false, .bool false, .bool false, .bool false, .bool false, .bool false, .bool false, .bool false, .bool false, .bool false, .bool false, .bool false, .bool false, .bool false, .bool false, .bool false, .bool false, .bool false, .bool false, .bool false, .bool false, .bool false, .bool false, .bool false, .bool false, .bool false, .bool false, .bool false, .bool false, .bool false, .bool false, .bool false, .bool false, .bool false, .bool false, .bool false, .bool false, .bool false, .bool false, .bool false, .bool false, .bool false, .bool false, .bool false, .bool false, .bool false, .bool false, .bool false, .bool false, .bool false, .bool false, .bool false, .bool false, .bool false, .bool false, .bool false, .bool false, .bool false, .bool false, .bool false, .bool false, .bool false, .bool false, .bool false, .bool false, .bool false, .bool false, .bool false, .bool false, .bool false, .bool false, .bool false, .bool false, .bool false, .bool false, .bool false, .bool false, .bool false, .bool false, .bool false, .bool false, .bool false, .bool false, .bool false, .bool false, .bool false, .bool false, .bool false, .bool false, .bool false, .bool false, .bool false, .bool false, .bool false, .bool false, .bool false, .bool false, .bool false, .bool false, .bool false, .bool false, .bool false, .bool false, .bool false, .bool false, .bool false, .bool false, .bool false, .bool false, .bool false, .bool false, .bool false, .bool false, .bool false, .bool false, .bool false, .bool false, .bool false, .bool false, .bool false, .bool false, .bool false, .bool false, .bool false, .bool false, .bool false, .bool false, .bool false, .bool false, .bool false, .bool false, .bool false, .bool false, .bool false, .bool false, .bool false, .bool false, .bool false, .bool false, .bool false, .bool false, .bool false, .bool false, .bool false, .bool false, .bool false, .bool false, .bool false, .bool false, .bool false, .bool false, .bool false, .bool false, .bool false, .bool false, .bool false, .bool false, .bool false] 118, none, 2, [], false⟩,
⟨none, .store 256 (.t 5) (.t 32), none, 5, [], false⟩,
⟨some 6, .mov (.t 33), none, 0, [], false⟩])
(.seq
(.reg false [
⟨some 34, .mov (.t 6), none, 0, [], false⟩])
(.cond (.t 34)
(.seq
(.reg false [
⟨some 35, .mov (.t 0), none, 0, [], false⟩,
⟨some 36, .call (.f 67) [.t 35, .t 5], none, 5, [], false⟩,
⟨some 37, .call (.f 66) [.t 36, .t 5], none, 5, [], false⟩,
⟨some 4, .mov (.t 37), none, 0, [], false⟩])
.ret)
.skip)))
(.seq
(.reg false [
⟨some 38, .mov (.t 0), none, 0, [], false⟩,
⟨some 39, .mov (.t 1), none, 0, [], false⟩,
⟨some 40, .call (.f 69) [.t 38, .t 39], none, 3, [], false⟩,
⟨some 41, .mov (.t 1), none, 0, [], false⟩,
⟨some 42, .call (.f 68) [.t 40, .t 41], none, 3, [], false⟩,
⟨some 4, .mov (.t 42), none, 0, [], false⟩])
.ret))))), 0, true⟩
def af47 : AFunc := ⟨8, [],
  (.seq
(.reg false [
⟨some 10, .mov (.c (.bool true)), none, 0, [], false⟩])
(.seq
(.reg false [
⟨some 11, .mov (.c (.bool true)), none, 0, [], false⟩])
(.block 0
(.loop [0, 1, 2, 3, 4, 10, 11]
(.block 1
(.seq
(.reg false [
⟨some 21, .mov (.t 2), none, 0, [], false⟩,
⟨some 22, .mov (.t 1), none, 0, [], false⟩,
⟨some 23, .bin .sub .no (.t 21) (.t 22), none, 0, [], false⟩,
⟨some 12, .mov (.t 23), none, 0, [], false⟩])
(.seq
(.seq
(.reg false [
⟨some 24, .mov (.t 12), none, 0, [], false⟩,
⟨some 25, .bin .leq .no (.t 24) (.c (.int .i64 12)), none, 0, [], false⟩])
(.cond (.t 25)
(.seq
(.reg false [
⟨some 26, .mov (.t 0), none, 0, [], false⟩,
⟨some 27, .mov (.t 1), none, 0, [], false⟩,
⟨some 28, .mov (.t 2), none, 0, [], false⟩,
⟨some 29, .mov (.t 4), none, 0, [], false⟩,
⟨some 30, .call (.f 70) [.t 26, .t 27, .t 28, .t 29], none, 5, [], false⟩])
.ret)
.skip))
(.seq
(.seq
(.reg false [
⟨some 31, .mov (.t 3), none, 0, [], false⟩,
⟨some 32, .bin .eql .int (.t 31) (.c (.int .i64 0)), none, 0, [], false⟩])
(.cond (.t 32)
(.seq
(.reg false [
⟨some 33, .mov (.t 0), none, 0, [], false⟩,
⟨some 34, .mov (.t 1), none, 0, [], false⟩,
⟨some 35, .mov (.t 2), none, 0, [], false⟩,
⟨some 36, .mov (.t 4), none, 0, [], false⟩,
⟨some 37, .call (.f 71) [.t 33, .t 34, .t 35, .t 36], none, 5, [], false⟩])
.ret)
.skip))
(.seq
(.seq
(.reg false [
⟨some 38, .mov (.t 10), none, 0, [], false⟩,
⟨some 39, .un .not (.t 38), none, 0, [], false⟩])
(.cond (.t 39)
(.seq
(.reg false [
⟨some 40, .mov (.t 0), none, 0, [], false⟩,
⟨some 41, .mov (.t 1), none, 0, [], false⟩,
⟨some 42, .mov (.t 2), none, 0, [], false⟩,
⟨some 43, .mov (.t 4), none, 0, [], false⟩,
⟨some 44, .call (.f 72) [.t 40, .t 41, .t 42, .t 43], none, 5, [], false⟩])
(.reg false [
⟨some 45, .mov (.t 3), none, 0, [], false⟩,
⟨some 46, .bin .sub .no (.t 45) (.c (.int .i64 1)), none, 0, [], false⟩,
⟨some 3, .mov (.t 46), none, 0, [], false⟩]))
.skip))
(.seq
(.reg false [
⟨some 48, .mov (.t 0), none, 0, [], false⟩,
⟨some 49, .mov (.t 1), none, 0, [], false⟩,
⟨some 50, .mov (.t 2), none, 0, [], false⟩,
⟨some 51, .mov (.t 4), none, 0, [], false⟩,
⟨some 52, .call (.f 73) [.t 48, .t 49, .t 50, .t 51], none, 5, [], false⟩,
⟨some 47, .mov (.t 52), none, 0, [], false⟩,
⟨some 53, .extract (.t 47) 0, none, 0, [], false⟩,
⟨some 54, .extract (.t 47) 1, none, 0, [], false⟩,
⟨some 13, .mov (.t 53), none, 0, [], false⟩,
⟨some 14, .mov (.t 54), none, 0, [], false⟩])
(.seq
(.seq
(.reg false [
⟨some 55, .mov (.t 14), none, 0, [], false⟩,
⟨some 56, .bin .eql .int (.t 55) (.c (.int .i64 2)), none, 0, [], false⟩])
(.cond (.t 56)
(.seq
(.reg false [
⟨some 57, .mov (.t 0), none, 0, [], false⟩,
⟨some 58, .mov (.t 1), none, 0, [], false⟩,
⟨some 59, .mov (.t 2), none, 0, [], false⟩,
⟨some 60, .mov (.t 4), none, 0, [], false⟩,
⟨some 61, .call (.f 74) [.t 57, .t 58, .t 59, .t 60], none, 5, [], false⟩])
(.seq
(.reg false [
⟨some 62, .mov (.t 2), none, 0, [], false⟩,
⟨some 63, .bin .sub .no (.t 62) (.c (.int .i64 1)), none, 0, [], false⟩,
⟨some 64, .mov (.t 13), none, 0, [], false⟩,
⟨some 65, .mov (.t 1), none, 0, [], false⟩,
⟨some 66, .bin .sub .no (.t 64) (.t 65), none, 0, [], false⟩,
⟨some 67, .bin .sub .no (.t 63) (.t 66), none, 0, [], false⟩,
⟨some 13, .mov (.t 67), none, 0, [], false⟩])
(.reg false [
⟨some 14, .mov (.c (.int .i64 1)), none, 0, [], false⟩])))
.skip))
(.seq
(.seq
(.reg false [
⟨some 68, .mov (.t 10), none, 0, [], false⟩,
⟨some 69, .mov (.t 68), none, 0, [], false⟩,
⟨some 70, .mov (.t 11), some (69, true), 0, [], false⟩,
⟨some 71, .pick (.t 69) (.t 70) (.c (.bool false)), none, 0, [], false⟩,
⟨some 72, .mov (.t 71), none, 0, [], false⟩,
⟨some 73, .mov (.t 14), some (72, true), 0, [], false⟩,
⟨some 74, .bin .eql .int (.t 73) (.c (.int .i64 1)), some (72, true), 0, [], false⟩,
⟨some 75, .pick (.t 72) (.t 74) (.c (.bool false)), none, 0, [], false⟩])
(.cond (.t 75)
(.seq
(.reg false [
⟨some 76, .mov (.t 0), none, 0, [], false⟩,
⟨some 77, .mov (.t 1), none, 0, [], false⟩,
⟨some 78, .mov (.t 2), none, 0, [], false⟩,
⟨some 79, .mov (.t 4), none, 0, [], false⟩,
⟨some 80, .call (.f 75) [.t 76, .t 77, .t 78, .t 79], none, 5, [], false⟩])
(.cond (.t 80)
.ret
.skip))
.skip))
(.seq
(.seq
(.reg true [
⟨some 81, .mov (.t 1), none, 0, [], false⟩,
⟨some 82, .bin .gtr .no (.t 81) (.c (.int .i64 0)), none, 0, [], false⟩,
⟨some 83, .mov (.t 82), none, 0, [], false⟩,
⟨some 84, .mov (.t 4), some (83, true), 0, [], false⟩,
⟨some 85, .mov (.t 0), some (83, true), 0, [], false⟩,
⟨some 86, .mov (.t 1), some (83, true), 0, [], false⟩,
⟨some 87, .bin .sub .no (.t 86) (.c (.int .i64 1)), some (83, true), 0, [], false⟩,
⟨some 88, .idxAddr none 2 (.t 85) (.t 87), some (83, true), 0, [], false⟩,
⟨some 89, .load true 2 (.t 88), some (83, true), 1, [], false⟩,
⟨some 90, .mov (.t 0), some (83, true), 0, [], false⟩,
⟨some 91, .mov (.t 13), some (83, true), 0, [], false⟩,
⟨some 92, .idxAddr none 2 (.t 90) (.t 91), some (83, true), 0, [], false⟩,
⟨some 93, .load true 2 (.t 92), some (83, true), 1, [], false⟩,
⟨some 94, .call (.t 84) [.t 89, .t 93], some (83, true), 5, [], false⟩,
⟨some 95, .bin .lss .no (.t 94) (.c (.int .i64 0)), some (83, true), 0, [], false⟩,
⟨some 96, .un .not (.t 95), some (83, true), 0, [], false⟩,
⟨some 97, .pick (.t 83) (.t 96) (.c (.bool false)), none, 0, [], false⟩])
(.cond (.t 97)
(.seq
(.reg false [
⟨some 98, .mov (.t 0), none, 0, [], false⟩,
⟨some 99, .mov (.t 1), none, 0, [], false⟩,
⟨some 100, .mov (.t 2), none, 0, [], false⟩,
⟨some 101, .mov (.t 13), none, 0, [], false⟩,
⟨some 102, .mov (.t 4), none, 0, [], false⟩,
⟨some 103, .call (.f 76) [.t 98, .t 99, .t 100, .t 101, .t 102], none, 5, [], false⟩,
⟨some 15, .mov (.t 103), none, 0, [], false⟩])
(.seq
(.reg false [
⟨some 104, .mov (.t 15), none, 0, [], false⟩,
⟨some 1, .mov (.t 104), none, 0, [], false⟩])
(.exit 1)))
.skip))
(.seq
(.reg false [
⟨some 106, .mov (.t 0), none, 0, [], false⟩,
⟨some 107, .mov (.t 1), none, 0, [], false⟩,
⟨some 108, .mov (.t 2), none, 0, [], false⟩,
⟨some 109, .mov (.t 13), none, 0, [], false⟩,
⟨some 110, .mov (.t 4), none, 0, [], false⟩,
⟨some 111, .call (.f 77) [.t 106, .t 107, .t 108, .t 109, .t 110], none, 5, [], false⟩,
⟨some 105, .mov (.t 111), none, 0, [], false⟩,
⟨some 112, .extract (.t 105) 0, none, 0, [], false⟩,
⟨some 113, .extract (.t 105) 1, none, 0, [], false⟩,
⟨some 16, .mov (.t 112), none, 0, [], false⟩,
⟨some 17, .mov (.t 113), none, 0, [], false⟩])
(.seq
(.reg false [
⟨some 114, .mov (.t 17), none, 0, [], false⟩,
⟨some 11, .mov (.t 114), none, 0, [], false⟩])
(.seq
(.reg false [
⟨some 115, .mov (.t 16), none, 0, [], false⟩,
⟨some 116, .mov (.t 1), none, 0, [], false⟩,
⟨some 117, .bin .sub .no (.t 115) (.t 116), none, 0, [], false⟩,
⟨some 118, .mov (.t 2), none, 0, [], false⟩,
⟨some 119, .mov (.t 16), none, 0, [], false⟩,
⟨some 120, .bin .sub .no (.t 118) (.t 119), none, 0, [], false⟩,
⟨some 18, .mov (.t 117), none, 0, [], false⟩,
⟨some 19, .mov (.t 120), none, 0, [], false⟩])
(.seq
(.reg false [
⟨some 121, .mov (.t 12), none, 0, [], false⟩,
⟨some 122, .bin .quo .no (.t 121) (.c (.int .i64 8)), none, 0, [], false⟩,
⟨some 20, .mov (.t 122), none, 0, [], false⟩])
(.seq
(.reg false [
⟨some 123, .mov (.t 18), none, 0, [], false⟩,
⟨some 124, .mov (.t 19), none, 0, [], false⟩,
⟨some 125, .bin .lss .no (.t 123) (.t 124), none, 0, [], false⟩])
(.cond (.t 125)
(.seq
(.reg false [
⟨some 126, .mov (.t 18), none, 0, [], false⟩,
⟨some 127, .mov (.t 20), none, 0, [], false⟩,
⟨some 128, .bin .geq .no (.t 126) (.t 127), none, 0, [], false⟩,
⟨some 10, .mov (.t 128), none, 0, [], false⟩])
(.seq
(.reg false [
⟨some 129, .mov (.t 0), none, 0, [], false⟩,
⟨some 130, .mov (.t 1), none, 0, [], false⟩,
⟨some 131, .mov (.t 16), none, 0, [], false⟩,
⟨some 132, .mov (.t 3), none, 0, [], false⟩,
⟨some 133, .mov (.t 4), none, 0, [], false⟩,
⟨some 134, .call (.f 47) [.t 129, .t 130, .t 131, .t 132, .t 133], none, 5, [], false⟩])
(.reg false [
⟨some 135, .mov (.t 16), none, 0, [], false⟩,
⟨some 136, .bin .add .no (.t 135) (.c (.int .i64 1)), none, 0, [], false⟩,
⟨some 1, .mov (.t 136), none, 0, [], false⟩])))
(.seq
(.reg false [
⟨some 137, .mov (.t 19), none, 0, [], false⟩,
⟨some 138, .mov (.t 20), none, 0, [], false⟩,
⟨some 139, .bin .geq .no (.t 137) (.t 138), none, 0, [], false⟩,
⟨some 10, .mov (.t 139), none, 0, [], false⟩])
(.seq
(.reg false [
⟨some 140, .mov (.t 0), none, 0, [], false⟩,
⟨some 141, .mov (.t 16), none, 0, [], false⟩,
⟨some 142, .bin .add .no (.t 141) (.c (.int .i64 1)), none, 0, [], false⟩,
⟨some 143, .mov (.t 2), none, 0, [], false⟩,
⟨some 144, .mov (.t 3), none, 0, [], false⟩,
⟨some 145, .mov (.t 4), none, 0, [], false⟩,
⟨some 146, .call (.f 47) [.t 140, .t 142, .t 143, .t 144, .t 145], none, 5, [], false⟩])
(.reg false [
⟨some 147, .mov (.t 16), none, 0, [], false⟩,
⟨some 2, .mov (.t 147), none, 0, [], false⟩])))))))))))))))))))))), 2, true⟩
def af48 : AFunc := ⟨3, [.tmp 4],
  (.seq
(.reg false [
⟨some 4, .mov (.c (.int .i64 0)), none, 0, [], false⟩])
(.seq
(.reg false [
⟨some 5, .mov (.t 0), none, 0, [], false⟩,
⟨some 6, .mov (.t 1), none, 0, [], false⟩,
⟨some 7, .ext 0 (.t 5) (.t 6), none, 0, [], false⟩,
⟨some 4, .mov (.t 7), none, 0, [], false⟩])
.ret)), 0, true⟩
def af49 : AFunc := ⟨3, [.tmp 2],
  (.seq
(.reg false [
⟨some 2, .mov (.c (.nils)), none, 0, [], false⟩])
(.seq
(.seq
(.reg false [
⟨some 3, .mov (.t 0), none, 0, [], false⟩,
⟨some 4, .bin .eql .slice (.t 3) (.c (.nils)), none, 0, [], false⟩])
(.cond (.t 4)
(.seq
(.reg false [
⟨some 2, .mov (.c (.nils)), none, 0, [], false⟩])
.ret)
.skip))
(.seq
(.reg false [
⟨some 5, .mkisl 0 2 [.str [], .bool false] [], none, 0, [], false⟩,
⟨some 6, .mov (.t 0), none, 0, [], false⟩,
⟨some 7, .append 31 2 24 (.t 5) (.t 6), none, 5, [], false⟩,
⟨some 2, .mov (.t 7), none, 0, [], false⟩])
.ret))), 0, true⟩
def af50 : AFunc := ⟨5, [.tmp 4],
  (.seq
(.reg false [
⟨some 4, .mov (.c (.int .i64 0)), none, 0, [], false⟩])
(.seq
(.seq
(.reg false [
⟨some 6, .mov (.t 0), none, 0, [], false⟩,
⟨some 7, .len .slice (.t 6), none, 0, [], false⟩,
⟨some 8, .mov (.c (.int .i64 0)), none, 0, [], false⟩])
(.block 0
(.loop [0, 1, 7, 8]
(.seq
(.reg false [
⟨some 9, .bin .lss .no (.t 8) (.t 7), none, 0, [], false⟩])
(.seq
(.cond (.t 9)
.skip
(.exit 0))
(.seq
(.block 1
(.seq
(.reg false [
⟨some 10, .mov (.t 8), none, 0, [], false⟩,
⟨some 5, .mov (.t 10), none, 0, [], false⟩])
(.seq
(.reg false [
⟨some 11, .mov (.t 1), none, 0, [], false⟩,
⟨some 12, .mov (.t 0), none, 0, [], false⟩,
⟨some 13, .mov (.t 5), none, 0, [], false⟩,
⟨some 14, .idxAddr none 2 (.t 12) (.t 13), none, 0, [], false⟩,
⟨some 15, .load true 2 (.t 14), none, 1, [], false⟩,
⟨some 16, .call (.t 11) [.t 15], none, 5, [], false⟩])
(.cond (.t 16)
(.seq
(.reg false [
⟨some 17, .mov (.t 5), none, 0, [], false⟩,
⟨some 4, .mov (.t 17), none, 0, [], false⟩])
.ret)
.skip))))
(.reg false [
⟨some 18, .bin .add .no (.t 8) (.c (.int .i64 1)), none, 0, [], false⟩,
⟨some 8, .mov (.t 18), none, 0, [], false⟩])))))))
(.seq
(.reg false [
⟨some 4, .mov (.c (.int .i64 (-1))), none, 0, [], false⟩])
.ret))), 2, true⟩
def af51 : AFunc := ⟨6, [],
  (.seq
(.reg false [
⟨some 10, .mov (.t 1), none, 0, [], false⟩,
⟨some 11, .bin .add .no (.t 10) (.c (.int .i64 1)), none, 0, [], false⟩,
⟨some 8, .mov (.t 11), none, 0, [], false⟩])
(.block 0
(.loop [0, 1, 2, 3, 8]
(.seq
(.seq
(.reg false [
⟨some 12, .mov (.t 8), none, 0, [], false⟩,
⟨some 13, .mov (.t 2), none, 0, [], false⟩,
⟨some 14, .bin .lss .no (.t 12) (.t 13), none, 0, [], false⟩])
(.cond (.t 14)
.skip
(.exit 0)))
(.seq
(.block 1
(.seq
(.reg false [
⟨some 17, .mov (.t 8), none, 0, [], false⟩,
⟨some 9, .mov (.t 17), none, 0, [], false⟩])
(.block 2
(.loop [0, 1, 2, 3, 8, 9]
(.seq
(.seq
(.reg true [
⟨some 18, .mov (.t 9), none, 0, [], false⟩,
⟨some 19, .mov (.t 1), none, 0, [], false⟩,
⟨some 20, .bin .gtr .no (.t 18) (.t 19), none, 0, [], false⟩,
⟨some 21, .mov (.t 20), none, 0, [], false⟩,
⟨some 22, .mov (.t 3), some (21, true), 0, [], false⟩,
⟨some 23, .mov (.t 0), some (21, true), 0, [], false⟩,
⟨some 24, .mov (.t 9), some (21, true), 0, [], false⟩,
⟨some 25, .idxAddr none 5 (.t 23) (.t 24), some (21, true), 0, [], false⟩,
⟨some 26, .load true 5 (.t 25), some (21, true), 1, [], false⟩,
⟨some 27, .mov (.t 0), some (21, true), 0, [], false⟩,
⟨some 28, .mov (.t 9), some (21, true), 0, [], false⟩,
⟨some 29, .bin .sub .no (.t 28) (.c (.int .i64 1)), some (21, true), 0, [], false⟩,
⟨some 30, .idxAddr none 5 (.t 27) (.t 29), some (21, true), 0, [], false⟩,
⟨some 31, .load true 5 (.t 30), some (21, true), 1, [], false⟩,
⟨some 32, .call (.t 22) [.t 26, .t 31], some (21, true), 5, [], false⟩,
⟨some 33, .bin .lss .no (.t 32) (.c (.int .i64 0)), some (21, true), 0, [], false⟩,
⟨some 34, .pick (.t 21) (.t 33) (.c (.bool false)), none, 0, [], false⟩])
(.cond (.t 34)
.skip
(.exit 2)))
(.seq
(.block 3
(.reg true [
⟨some 37, .mov (.t 0), none, 0, [], false⟩,
⟨some 38, .mov (.t 9), none, 0, [], false⟩,
⟨some 39, .mov (.t 0), none, 0, [], false⟩,
⟨some 40, .mov (.t 9), none, 0, [], false⟩,
⟨some 41, .bin .sub .no (.t 40) (.c (.int .i64 1)), none, 0, [], false⟩,
⟨some 42, .mov (.t 0), none, 0, [], false⟩,
⟨some 43, .mov (.t 9), none, 0, [], false⟩,
⟨some 44, .bin .sub .no (.t 43) (.c (.int .i64 1)), none, 0, [], false⟩,
⟨some 45, .idxAddr none 5 (.t 42) (.t 44), none, 0, [], false⟩,
⟨some 46, .load true 5 (.t 45), none, 1, [], false⟩,
⟨some 47, .mov (.t 0), none, 0, [], false⟩,
⟨some 48, .mov (.t 9), none, 0, [], false⟩,
⟨some 49, .idxAddr none 5 (.t 47) (.t 48), none, 0, [], false⟩,
⟨some 50, .load true 5 (.t 49), none, 1, [], false⟩,
⟨some 51, .idxAddr none 5 (.t 37) (.t 38), none, 0, [], false⟩,
⟨none, .store 5 (.t 51) (.t 46), none, 5, [], false⟩,
⟨some 52, .idxAddr none 5 (.t 39) (.t 41), none, 0, [], false⟩,
⟨none, .store 5 (.t 52) (.t 50), none, 5, [], false⟩]))
(.reg false [
⟨some 35, .mov (.t 9), none, 0, [], false⟩,
⟨some 36, .bin .sub .no (.t 35) (.c (.int .i64 1)), none, 0, [], false⟩,
⟨some 9, .mov (.t 36), none, 0, [], false⟩])))))))
(.reg false [
⟨some 15, .mov (.t 8), none, 0, [], false⟩,
⟨some 16, .bin .add .no (.t 15) (.c (.int .i64 1)), none, 0, [], false⟩,
⟨some 8, .mov (.t 16), none, 0, [], false⟩])))))), 2, true⟩
def af52 : AFunc := ⟨6, [],
  (.seq
(.reg false [
⟨some 13, .mov (.t 1), none, 0, [], false⟩,
⟨some 8, .mov (.t 13), none, 0, [], false⟩])
(.seq
(.reg false [
⟨some 9, .mov (.c (.int .i64 0)), none, 0, [], false⟩])
(.seq
(.reg false [
⟨some 14, .mov (.t 2), none, 0, [], false⟩,
⟨some 15, .mov (.t 1), none, 0, [], false⟩,
⟨some 16, .bin .sub .no (.t 14) (.t 15), none, 0, [], false⟩,
⟨some 10, .mov (.t 16), none, 0, [], false⟩])
(.seq
(.seq
(.reg false [
⟨some 17, .mov (.t 10), none, 0, [], false⟩,
⟨some 18, .bin .sub .no (.t 17) (.c (.int .i64 1)), none, 0, [], false⟩,
⟨some 19, .bin .quo .no (.t 18) (.c (.int .i64 2)), none, 0, [], false⟩,
⟨some 11, .mov (.t 19), none, 0, [], false⟩])
(.block 0
(.loop [0, 3, 8, 9, 10, 11]
(.seq
(.seq
(.reg false [
⟨some 20, .mov (.t 11), none, 0, [], false⟩,
⟨some 21, .bin .geq .no (.t 20) (.c (.int .i64 0)), none, 0, [], false⟩])
(.cond (.t 21)
.skip
(.exit 0)))
(.seq
(.block 1
(.reg false [
⟨some 24, .mov (.t 0), none, 0, [], false⟩,
⟨some 25, .mov (.t 11), none, 0, [], false⟩,
⟨some 26, .mov (.t 10), none, 0, [], false⟩,
⟨some 27, .mov (.t 8), none, 0, [], false⟩,
⟨some 28, .mov (.t 3), none, 0, [], false⟩,
⟨some 29, .call (.f 79) [.t 24, .t 25, .t 26, .t 27, .t 28], none, 5, [], false⟩]))
(.reg false [
⟨some 22, .mov (.t 11), none, 0, [], false⟩,
⟨some 23, .bin .sub .no (.t 22) (.c (.int .i64 1)), none, 0, [], false⟩,
⟨some 11, .mov (.t 23), none, 0, [], false⟩]))))))
(.seq
(.reg false [
⟨some 30, .mov (.t 10), none, 0, [], false⟩,
⟨some 31, .bin .sub .no (.t 30) (.c (.int .i64 1)), none, 0, [], false⟩,
⟨some 12, .mov (.t 31), none, 0, [], false⟩])
(.block 2
(.loop [0, 3, 8, 9, 12]
(.seq
(.seq
(.reg false [
⟨some 32, .mov (.t 12), none, 0, [], false⟩,
⟨some 33, .bin .geq .no (.t 32) (.c (.int .i64 0)), none, 0, [], false⟩])
(.cond (.t 33)
.skip
(.exit 2)))
(.seq
(.block 3
(.seq
(.reg true [
⟨some 36, .mov (.t 0), none, 0, [], false⟩,
⟨some 37, .mov (.t 8), none, 0, [], false⟩,
⟨some 38, .mov (.t 0), none, 0, [], false⟩,
⟨some 39, .mov (.t 8), none, 0, [], false⟩,
⟨some 40, .mov (.t 12), none, 0, [], false⟩,
⟨some 41, .bin .add .no (.t 39) (.t 40), none, 0, [], false⟩,
⟨some 42, .mov (.t 0), none, 0, [], false⟩,
⟨some 43, .mov (.t 8), none, 0, [], false⟩,
⟨some 44, .mov (.t 12), none, 0, [], false⟩,
⟨some 45, .bin .add .no (.t 43) (.t 44), none, 0, [], false⟩,
⟨some 46, .idxAddr none 5 (.t 42) (.t 45), none, 0, [], false⟩,
⟨some 47, .load true 5 (.t 46), none, 1, [], false⟩,
⟨some 48, .mov (.t 0), none, 0, [], false⟩,
⟨some 49, .mov (.t 8), none, 0, [], false⟩,
⟨some 50, .idxAddr none 5 (.t 48) (.t 49), none, 0, [], false⟩,
⟨some 51, .load true 5 (.t 50), none, 1, [], false⟩,
⟨some 52, .idxAddr none 5 (.t 36) (.t 37), none, 0, [], false⟩,
⟨none, .store 5 (.t 52) (.t 47), none, 5, [], false⟩,
⟨some 53, .idxAddr none 5 (.t 38) (.t 41), none, 0, [], false⟩,
⟨none, .store 5 (.t 53) (.t 51), none, 5, [], false⟩])
(.reg false [
⟨some 54, .mov (.t 0), none, 0, [], false⟩,
⟨some 55, .mov (.t 9), none, 0, [], false⟩,
⟨some 56, .mov (.t 12), none, 0, [], false⟩,
⟨some 57, .mov (.t 8), none, 0, [], false⟩,
⟨some 58, .mov (.t 3), none, 0, [], false⟩,
⟨some 59, .call (.f 79) [.t 54, .t 55, .t 56, .t 57, .t 58], none, 5, [], false⟩])))
(.reg false [
⟨some 34, .mov (.t 12), none, 0, [], false⟩,
⟨some 35, .bin .sub .no (.t 34) (.c (.int .i64 1)), none, 0, [], false⟩,
⟨some 12, .mov (.t 35), none, 0, [], false⟩])))))))))), 2, true⟩
def af53 : AFunc := ⟨7, [],
  (.seq
(.reg false [
⟨some 13, .mov (.t 2), none, 0, [], false⟩,
⟨some 14, .mov (.t 1), none, 0, [], false⟩,
⟨some 15, .bin .sub .no (.t 13) (.t 14), none, 0, [], false⟩,
⟨some 8, .mov (.t 15), none, 0, [], false⟩])
(.seq
(.reg false [
⟨some 16, .mov (.t 8), none, 0, [], false⟩,
⟨some 17, .bin .geq .no (.t 16) (.c (.int .i64 8)), none, 0, [], false⟩])
(.cond (.t 17)
(.seq
(.reg false [
⟨some 18, .mov (.t 8), none, 0, [], false⟩,
⟨some 19, .convI .u64 (.t 18), none, 0, [], false⟩,
⟨some 9, .new [.int .u64 0] 128, none, 2, [], false⟩,
⟨none, .store 1 (.t 9) (.t 19), none, 5, [], false⟩])
(.seq
(.reg false [
⟨some 20, .mov (.t 8), none, 0, [], false⟩,
⟨some 21, .call (.f 80) [.t 20], none, 3, [], false⟩,
⟨some 10, .mov (.t 21), none, 0, [], false⟩])
(.seq
(.reg false [
⟨some 22, .mov (.t 1), none, 0, [], false⟩,
⟨some 23, .mov (.t 8), none, 0, [], false⟩,
⟨some 24, .bin .quo .no (.t 23) (.c (.int .i64 4)), none, 0, [], false⟩,
⟨some 25, .bin .mul .no (.t 24) (.c (.int .i64 2)), none, 0, [], false⟩,
⟨some 26, .bin .add .no (.t 22) (.t 25), none, 0, [], false⟩,
⟨some 27, .bin .sub .no (.t 26) (.c (.int .i64 1)), none, 0, [], false⟩,
⟨some 11, .mov (.t 27), none, 0, [], false⟩])
(.block 0
(.loop [0, 1, 8, 9, 10, 11]
(.seq
(.seq
(.reg false [
⟨some 28, .mov (.t 11), none, 0, [], false⟩,
⟨some 29, .mov (.t 1), none, 0, [], false⟩,
⟨some 30, .mov (.t 8), none, 0, [], false⟩,
⟨some 31, .bin .quo .no (.t 30) (.c (.int .i64 4)), none, 0, [], false⟩,
⟨some 32, .bin .mul .no (.t 31) (.c (.int .i64 2)), none, 0, [], false⟩,
⟨some 33, .bin .add .no (.t 29) (.t 32), none, 0, [], false⟩,
⟨some 34, .bin .add .no (.t 33) (.c (.int .i64 1)), none, 0, [], false⟩,
⟨some 35, .bin .leq .no (.t 28) (.t 34), none, 0, [], false⟩])
(.cond (.t 35)
.skip
(.exit 0)))
(.seq
(.block 1
(.seq
(.reg false [
⟨some 38, .call (.f 81) [.t 9], none, 5, [], false⟩,
⟨some 39, .mov (.t 10), none, 0, [], false⟩,
⟨some 40, .bin .sub .no (.t 39) (.c (.int .u64 1)), none, 0, [], false⟩,
⟨some 41, .bin .and .no (.t 38) (.t 40), none, 0, [], false⟩,
⟨some 42, .convI .i64 (.t 41), none, 0, [], false⟩,
⟨some 12, .mov (.t 42), none, 0, [], false⟩])
(.seq
(.seq
(.reg false [
⟨some 43, .mov (.t 12), none, 0, [], false⟩,
⟨some 44, .mov (.t 8), none, 0, [], false⟩,
⟨some 45, .bin .geq .no (.t 43) (.t 44), none, 0, [], false⟩])
(.cond (.t 45)
(.reg false [
⟨some 46, .mov (.t 12), none, 0, [], false⟩,
⟨some 47, .mov (.t 8), none, 0, [], false⟩,
⟨some 48, .bin .sub .no (.t 46) (.t 47), none, 0, [], false⟩,
⟨some 12, .mov (.t 48), none, 0, [], false⟩])
.skip))
(.reg true [
⟨some 49, .mov (.t 0), none, 0, [], false⟩,
⟨some 50, .mov (.t 11), none, 0, [], false⟩,
⟨some 51, .mov (.t 0), none, 0, [], false⟩,
⟨some 52, .mov (.t 1), none, 0, [], false⟩,
⟨some 53, .mov (.t 12), none, 0, [], false⟩,
⟨some 54, .bin .add .no (.t 52) (.t 53), none, 0, [], false⟩,
⟨some 55, .mov (.t 0), none, 0, [], false⟩,
⟨some 56, .mov (.t 1), none, 0, [], false⟩,
⟨some 57, .mov (.t 12), none, 0, [], false⟩,
⟨some 58, .bin .add .no (.t 56) (.t 57), none, 0, [], false⟩,
⟨some 59, .idxAddr none 5 (.t 55) (.t 58), none, 0, [], false⟩,
⟨some 60, .load true 5 (.t 59), none, 1, [], false⟩,
⟨some 61, .mov (.t 0), none, 0, [], false⟩,
⟨some 62, .mov (.t 11), none, 0, [], false⟩,
⟨some 63, .idxAddr none 5 (.t 61) (.t 62), none, 0, [], false⟩,
⟨some 64, .load true 5 (.t 63), none, 1, [], false⟩,
⟨some 65, .idxAddr none 5 (.t 49) (.t 50), none, 0, [], false⟩,
⟨none, .store 5 (.t 65) (.t 60), none, 5, [], false⟩,
⟨some 66, .idxAddr none 5 (.t 51) (.t 54), none, 0, [], false⟩,
⟨none, .store 5 (.t 66) (.t 64), none, 5, [], false⟩]))))
(.reg false [
⟨some 36, .mov (.t 11), none, 0, [], false⟩,
⟨some 37, .bin .add .no (.t 36) (.c (.int .i64 1)), none, 0, [], false⟩,
⟨some 11, .mov (.t 37), none, 0, [], false⟩]))))))))
.skip))), 2, true⟩
def af54 : AFunc := ⟨6, [.tmp 8, .tmp 9],
  (.seq
(.reg false [
⟨some 8, .mov (.c (.int .i64 0)), none, 0, [], false⟩,
⟨some 9, .mov (.c (.int .i64 0)), none, 0, [], false⟩])
(.seq
(.reg false [
⟨some 15, .mov (.t 2), none, 0, [], false⟩,
⟨some 16, .mov (.t 1), none, 0, [], false⟩,
⟨some 17, .bin .sub .no (.t 15) (.t 16), none, 0, [], false⟩,
⟨some 10, .mov (.t 17), none, 0, [], false⟩])
(.seq
(.reg false [
⟨some 11, .new [.int .i64 0] 3, none, 2, [], false⟩])
(.seq
(.reg false [
⟨some 18, .mov (.t 1), none, 0, [], false⟩,
⟨some 19, .mov (.t 10), none, 0, [], false⟩,
⟨some 20, .bin .quo .no (.t 19) (.c (.int .i64 4)), none, 0, [], false⟩,
⟨some 21, .bin .mul .no (.t 20) (.c (.int .i64 1)), none, 0, [], false⟩,
⟨some 22, .bin .add .no (.t 18) (.t 21), none, 0, [], false⟩,
⟨some 12, .mov (.t 22), none, 0, [], false⟩])
(.seq
(.reg false [
⟨some 23, .mov (.t 1), none, 0, [], false⟩,
⟨some 24, .mov (.t 10), none, 0, [], false⟩,
⟨some 25, .bin .quo .no (.t 24) (.c (.int .i64 4)), none, 0, [], false⟩,
⟨some 26, .bin .mul .no (.t 25) (.c (.int .i64 2)), none, 0, [], false⟩,
⟨some 27, .bin .add .no (.t 23) (.t 26), none, 0, [], false⟩,
⟨some 13, .mov (.t 27), none, 0, [], false⟩])
(.seq
(.reg false [
⟨some 28, .mov (.t 1), none, 0, [], false⟩,
⟨some 29, .mov (.t 10), none, 0, [], false⟩,
⟨some 30, .bin .quo .no (.t 29) (.c (.int .i64 4)), none, 0, [], false⟩,
⟨some 31, .bin .mul .no (.t 30) (.c (.int .i64 3)), none, 0, [], false⟩,
⟨some 32, .bin .add .no (.t 28) (.t 31), none, 0, [], false⟩,
⟨some 14, .mov (.t 32), none, 0, [], false⟩])
(.seq
(.seq
(.reg false [
⟨some 33, .mov (.t 10), none, 0, [], false⟩,
⟨some 34, .bin .geq .no (.t 33) (.c (.int .i64 8)), none, 0, [], false⟩])
(.cond (.t 34)
(.seq
(.seq
(.reg false [
⟨some 35, .mov (.t 10), none, 0, [], false⟩,
⟨some 36, .bin .geq .no (.t 35) (.c (.int .i64 50)), none, 0, [], false⟩])
(.cond (.t 36)
(.seq
(.reg false [
⟨some 37, .mov (.t 0), none, 0, [], false⟩,
⟨some 38, .mov (.t 12), none, 0, [], false⟩,
⟨some 39, .mov (.t 3), none, 0, [], false⟩,
⟨some 40, .call (.f 82) [.t 37, .t 38, .t 11, .t 39], none, 5, [], false⟩,
⟨some 12, .mov (.t 40), none, 0, [], false⟩])
(.seq
(.reg false [
⟨some 41, .mov (.t 0), none, 0, [], false⟩,
⟨some 42, .mov (.t 13), none, 0, [], false⟩,
⟨some 43, .mov (.t 3), none, 0, [], false⟩,
⟨some 44, .call (.f 82) [.t 41, .t 42, .t 11, .t 43], none, 5, [], false⟩,
⟨some 13, .mov (.t 44), none, 0, [], false⟩])
(.reg false [
⟨some 45, .mov (.t 0), none, 0, [], false⟩,
⟨some 46, .mov (.t 14), none, 0, [], false⟩,
⟨some 47, .mov (.t 3), none, 0, [], false⟩,
⟨some 48, .call (.f 82) [.t 45, .t 46, .t 11, .t 47], none, 5, [], false⟩,
⟨some 14, .mov (.t 48), none, 0, [], false⟩])))
.skip))
(.reg false [
⟨some 49, .mov (.t 0), none, 0, [], false⟩,
⟨some 50, .mov (.t 12), none, 0, [], false⟩,
⟨some 51, .mov (.t 13), none, 0, [], false⟩,
⟨some 52, .mov (.t 14), none, 0, [], false⟩,
⟨some 53, .mov (.t 3), none, 0, [], false⟩,
⟨some 54, .call (.f 83) [.t 49, .t 50, .t 51, .t 52, .t 11, .t 53], none, 5, [], false⟩,
⟨some 13, .mov (.t 54), none, 0, [], false⟩]))
.skip))
(.seq
(.reg false [
⟨some 55, .load false 1 (.t 11), none, 1, [], false⟩])
(.block 0
(.seq
(.reg false [
⟨some 58, .bin .eql .int (.t 55) (.c (.int .i64 0)), none, 0, [], false⟩,
⟨some 57, .mov (.t 58), none, 0, [], false⟩])
(.cond (.t 57)
(.seq
(.reg false [
⟨some 59, .mov (.t 13), none, 0, [], false⟩,
⟨some 8, .mov (.t 59), none, 0, [], false⟩,
⟨some 9, .mov (.c (.int .i64 1)), none, 0, [], false⟩])
.ret)
(.seq
(.reg false [
⟨some 61, .bin .eql .int (.t 55) (.c (.int .i64 12)), none, 0, [], false⟩,
⟨some 60, .mov (.t 61), none, 0, [], false⟩])
(.cond (.t 60)
(.seq
(.reg false [
⟨some 62, .mov (.t 13), none, 0, [], false⟩,
⟨some 8, .mov (.t 62), none, 0, [], false⟩,
⟨some 9, .mov (.c (.int .i64 2)), none, 0, [], false⟩])
.ret)
(.seq
(.reg false [
⟨some 56, .mov (.t 13), none, 0, [], false⟩,
⟨some 8, .mov (.t 56), none, 0, [], false⟩,
⟨some 9, .mov (.c (.int .i64 0)), none, 0, [], false⟩])
.ret)))))))))))))), 2, true⟩
def af55 : AFunc := ⟨6, [],
  (.seq
(.reg false [
⟨some 10, .mov (.t 1), none, 0, [], false⟩,
⟨some 8, .mov (.t 10), none, 0, [], false⟩])
(.seq
(.reg false [
⟨some 11, .mov (.t 2), none, 0, [], false⟩,
⟨some 12, .bin .sub .no (.t 11) (.c (.int .i64 1)), none, 0, [], false⟩,
⟨some 9, .mov (.t 12), none, 0, [], false⟩])
(.block 0
(.loop [0, 8, 9]
(.seq
(.seq
(.reg false [
⟨some 13, .mov (.t 8), none, 0, [], false⟩,
⟨some 14, .mov (.t 9), none, 0, [], false⟩,
⟨some 15, .bin .lss .no (.t 13) (.t 14), none, 0, [], false⟩])
(.cond (.t 15)
.skip
(.exit 0)))
(.block 1
(.seq
(.reg true [
⟨some 16, .mov (.t 0), none, 0, [], false⟩,
⟨some 17, .mov (.t 8), none, 0, [], false⟩,
⟨some 18, .mov (.t 0), none, 0, [], false⟩,
⟨some 19, .mov (.t 9), none, 0, [], false⟩,
⟨some 20, .mov (.t 0), none, 0, [], false⟩,
⟨some 21, .mov (.t 9), none, 0, [], false⟩,
⟨some 22, .idxAddr none 5 (.t 20) (.t 21), none, 0, [], false⟩,
⟨some 23, .load true 5 (.t 22), none, 1, [], false⟩,
⟨some 24, .mov (.t 0), none, 0, [], false⟩,
⟨some 25, .mov (.t 8), none, 0, [], false⟩,
⟨some 26, .idxAddr none 5 (.t 24) (.t 25), none, 0, [], false⟩,
⟨some 27, .load true 5 (.t 26), none, 1, [], false⟩,
⟨some 28, .idxAddr none 5 (.t 16) (.t 17), none, 0, [], false⟩,
⟨none, .store 5 (.t 28) (.t 23), none, 5, [], false⟩,
⟨some 29, .idxAddr none 5 (.t 18) (.t 19), none, 0, [], false⟩,
⟨none, .store 5 (.t 29) (.t 27), none, 5, [], false⟩])
(.seq
(.reg false [
⟨some 30, .mov (.t 8), none, 0, [], false⟩,
⟨some 31, .bin .add .no (.t 30) (.c (.int .i64 1)), none, 0, [], false⟩,
⟨some 8, .mov (.t 31), none, 0, [], false⟩])
(.reg false [
⟨some 32, .mov (.t 9), none, 0, [], false⟩,
⟨some 33, .bin .sub .no (.t 32) (.c (.int .i64 1)), none, 0, [], false⟩,
⟨some 9, .mov (.t 33), none, 0, [], false⟩]))))))))), 2, true⟩
def af56 : AFunc := ⟨8, [.tmp 8],
  (.seq
(.reg false [
⟨some 8, .mov (.c (.bool false)), none, 0, [], false⟩])
(.seq
(.reg false [
⟨some 13, .mov (.t 1), none, 0, [], false⟩,
⟨some 14, .bin .add .no (.t 13) (.c (.int .i64 1)), none, 0, [], false⟩,
⟨some 9, .mov (.t 14), none, 0, [], false⟩])
(.seq
(.seq
(.reg false [
⟨some 10, .mov (.c (.int .i64 0)), none, 0, [], false⟩])
(.block 0
(.loop [0, 1, 2, 3, 9, 10]
(.seq
(.seq
(.reg false [
⟨some 15, .mov (.t 10), none, 0, [], false⟩,
⟨some 16, .bin .lss .no (.t 15) (.c (.int .i64 5)), none, 0, [], false⟩])
(.cond (.t 16)
.skip
(.exit 0)))
(.seq
(.block 1
(.seq
(.block 2
(.loop [0, 1, 2, 3, 9, 10]
(.seq
(.seq
(.reg true [
⟨some 19, .mov (.t 9), none, 0, [], false⟩,
⟨some 20, .mov (.t 2), none, 0, [], false⟩,
⟨some 21, .bin .lss .no (.t 19) (.t 20), none, 0, [], false⟩,
⟨some 22, .mov (.t 21), none, 0, [], false⟩,
⟨some 23, .mov (.t 3), some (22, true), 0, [], false⟩,
⟨some 24, .mov (.t 0), some (22, true), 0, [], false⟩,
⟨some 25, .mov (.t 9), some (22, true), 0, [], false⟩,
⟨some 26, .idxAddr none 5 (.t 24) (.t 25), some (22, true), 0, [], false⟩,
⟨some 27, .load true 5 (.t 26), some (22, true), 1, [], false⟩,
⟨some 28, .mov (.t 0), some (22, true), 0, [], false⟩,
⟨some 29, .mov (.t 9), some (22, true), 0, [], false⟩,
⟨some 30, .bin .sub .no (.t 29) (.c (.int .i64 1)), some (22, true), 0, [], false⟩,
⟨some 31, .idxAddr none 5 (.t 28) (.t 30), some (22, true), 0, [], false⟩,
⟨some 32, .load true 5 (.t 31), some (22, true), 1, [], false⟩,
⟨some 33, .call (.t 23) [.t 27, .t 32], some (22, true), 5, [], false⟩,
⟨some 34, .bin .lss .no (.t 33) (.c (.int .i64 0)), some (22, true), 0, [], false⟩,
⟨some 35, .un .not (.t 34), some (22, true), 0, [], false⟩,
⟨some 36, .pick (.t 22) (.t 35) (.c (.bool false)), none, 0, [], false⟩])
(.cond (.t 36)
.skip
(.exit 2)))
(.block 3
(.reg false [
⟨some 37, .mov (.t 9), none, 0, [], false⟩,
⟨some 38, .bin .add .no (.t 37) (.c (.int .i64 1)), none, 0, [], false⟩,
⟨some 9, .mov (.t 38), none, 0, [], false⟩])))))
(.seq
(.seq
(.reg false [
⟨some 39, .mov (.t 9), none, 0, [], false⟩,
⟨some 40, .mov (.t 2), none, 0, [], false⟩,
⟨some 41, .bin .eql .int (.t 39) (.t 40), none, 0, [], false⟩])
(.cond (.t 41)
(.seq
(.reg false [
⟨some 8, .mov (.c (.bool true)), none, 0, [], false⟩])
.ret)
.skip))
(.seq
(.seq
(.reg false [
⟨some 42, .mov (.t 2), none, 0, [], false⟩,
⟨some 43, .mov (.t 1), none, 0, [], false⟩,
⟨some 44, .bin .sub .no (.t 42) (.t 43), none, 0, [], false⟩,
⟨some 45, .bin .lss .no (.t 44) (.c (.int .i64 50)), none, 0, [], false⟩])
(.cond (.t 45)
(.seq
(.reg false [
⟨some 8, .mov (.c (.bool false)), none, 0, [], false⟩])
.ret)
.skip))
(.seq
(.reg true [
⟨some 46, .mov (.t 0), none, 0, [], false⟩,
⟨some 47, .mov (.t 9), none, 0, [], false⟩,
⟨some 48, .mov (.t 0), none, 0, [], false⟩,
⟨some 49, .mov (.t 9), none, 0, [], false⟩,
⟨some 50, .bin .sub .no (.t 49) (.c (.int .i64 1)), none, 0, [], false⟩,
⟨some 51, .mov (.t 0), none, 0, [], false⟩,
⟨some 52, .mov (.t 9), none, 0, [], false⟩,
⟨some 53, .bin .sub .no (.t 52) (.c (.int .i64 1)), none, 0, [], false⟩,
⟨some 54, .idxAddr none 5 (.t 51) (.t 53), none, 0, [], false⟩,
⟨some 55, .load true 5 (.t 54), none, 1, [], false⟩,
⟨some 56, .mov (.t 0), none, 0, [], false⟩,
⟨some 57, .mov (.t 9), none, 0, [], false⟩,
⟨some 58, .idxAddr none 5 (.t 56) (.t 57), none, 0, [], false⟩,
⟨some 59, .load true 5 (.t 58), none, 1, [], false⟩,
⟨some 60, .idxAddr none 5 (.t 46) (.t 47), none, 0, [], false⟩,
⟨none, .store 5 (.t 60) (.t 55), none, 5, [], false⟩,
⟨some 61, .idxAddr none 5 (.t 48) (.t 50), none, 0, [], false⟩,
⟨none, .store 5 (.t 61) (.t 59), none, 5, [], false⟩])
(.seq
(.seq
(.reg false [
⟨some 62, .mov (.t 9), none, 0, [], false⟩,
⟨some 63, .mov (.t 1), none, 0, [], false⟩,
⟨some 64, .bin .sub .no (.t 62) (.t 63), none, 0, [], false⟩,
⟨some 65, .bin .geq .no (.t 64) (.c (.int .i64 2)), none, 0, [], false⟩])
(.cond (.t 65)
(.seq
(.reg false [
⟨some 66, .mov (.t 9), none, 0, [], false⟩,
⟨some 67, .bin .sub .no (.t 66) (.c (.int .i64 1)), none, 0, [], false⟩,
⟨some 11, .mov (.t 67), none, 0, [], false⟩])
(.block 4
(.loop [0, 1, 2, 3, 9, 10, 11]
(.seq
(.seq
(.reg false [
⟨some 68, .mov (.t 11), none, 0, [], false⟩,
⟨some 69, .bin .geq .no (.t 68) (.c (.int .i64 1)), none, 0, [], false⟩])
(.cond (.t 69)
.skip
(.exit 4)))
(.seq
(.block 5
(.seq
(.seq
(.reg true [
⟨some 72, .mov (.t 3), none, 0, [], false⟩,
⟨some 73, .mov (.t 0), none, 0, [], false⟩,
⟨some 74, .mov (.t 11), none, 0, [], false⟩,
⟨some 75, .idxAddr none 5 (.t 73) (.t 74), none, 0, [], false⟩,
⟨some 76, .load true 5 (.t 75), none, 1, [], false⟩,
⟨some 77, .mov (.t 0), none, 0, [], false⟩,
⟨some 78, .mov (.t 11), none, 0, [], false⟩,
⟨some 79, .bin .sub .no (.t 78) (.c (.int .i64 1)), none, 0, [], false⟩,
⟨some 80, .idxAddr none 5 (.t 77) (.t 79), none, 0, [], false⟩,
⟨some 81, .load true 5 (.t 80), none, 1, [], false⟩,
⟨some 82, .call (.t 72) [.t 76, .t 81], none, 5, [], false⟩,
⟨some 83, .bin .lss .no (.t 82) (.c (.int .i64 0)), none, 0, [], false⟩,
⟨some 84, .un .not (.t 83), none, 0, [], false⟩])
(.cond (.t 84)
(.exit 4)
.skip))
(.reg true [
⟨some 85, .mov (.t 0), none, 0, [], false⟩,
⟨some 86, .mov (.t 11), none, 0, [], false⟩,
⟨some 87, .mov (.t 0), none, 0, [], false⟩,
⟨some 88, .mov (.t 11), none, 0, [], false⟩,
⟨some 89, .bin .sub .no (.t 88) (.c (.int .i64 1)), none, 0, [], false⟩,
⟨some 90, .mov (.t 0), none, 0, [], false⟩,
⟨some 91, .mov (.t 11), none, 0, [], false⟩,
⟨some 92, .bin .sub .no (.t 91) (.c (.int .i64 1)), none, 0, [], false⟩,
⟨some 93, .idxAddr none 5 (.t 90) (.t 92), none, 0, [], false⟩,
⟨some 94, .load true 5 (.t 93), none, 1, [], false⟩,
⟨some 95, .mov (.t 0), none, 0, [], false⟩,
⟨some 96, .mov (.t 11), none, 0, [], false⟩,
⟨some 97, .idxAddr none 5 (.t 95) (.t 96), none, 0, [], false⟩,
⟨some 98, .load true 5 (.t 97), none, 1, [], false⟩,
⟨some 99, .idxAddr none 5 (.t 85) (.t 86), none, 0, [], false⟩,
⟨none, .store 5 (.t 99) (.t 94), none, 5, [], false⟩,
⟨some 100, .idxAddr none 5 (.t 87) (.t 89), none, 0, [], false⟩,
⟨none, .store 5 (.t 100) (.t 98), none, 5, [], false⟩])))
(.reg false [
⟨some 70, .mov (.t 11), none, 0, [], false⟩,
⟨some 71, .bin .sub .no (.t 70) (.c (.int .i64 1)), none, 0, [], false⟩,
⟨some 11, .mov (.t 71), none, 0, [], false⟩]))))))
.skip))
(.seq
(.reg false [
⟨some 101, .mov (.t 2), none, 0, [], false⟩,
⟨some 102, .mov (.t 9), none, 0, [], false⟩,
⟨some 103, .bin .sub .no (.t 101) (.t 102), none, 0, [], false⟩,
⟨some 104, .bin .geq .no (.t 103) (.c (.int .i64 2)), none, 0, [], false⟩])
(.cond (.t 104)
(.seq
(.reg false [
⟨some 105, .mov (.t 9), none, 0, [], false⟩,
⟨some 106, .bin .add .no (.t 105) (.c (.int .i64 1)), none, 0, [], false⟩,
⟨some 12, .mov (.t 106), none, 0, [], false⟩])
(.block 6
(.loop [0, 1, 2, 3, 9, 10, 12]
(.seq
(.seq
(.reg false [
⟨some 107, .mov (.t 12), none, 0, [], false⟩,
⟨some 108, .mov (.t 2), none, 0, [], false⟩,
⟨some 109, .bin .lss .no (.t 107) (.t 108), none, 0, [], false⟩])
(.cond (.t 109)
.skip
(.exit 6)))
(.seq
(.block 7
(.seq
(.seq
(.reg true [
⟨some 112, .mov (.t 3), none, 0, [], false⟩,
⟨some 113, .mov (.t 0), none, 0, [], false⟩,
⟨some 114, .mov (.t 12), none, 0, [], false⟩,
⟨some 115, .idxAddr none 5 (.t 113) (.t 114), none, 0, [], false⟩,
⟨some 116, .load true 5 (.t 115), none, 1, [], false⟩,
⟨some 117, .mov (.t 0), none, 0, [], false⟩,
⟨some 118, .mov (.t 12), none, 0, [], false⟩,
⟨some 119, .bin .sub .no (.t 118) (.c (.int .i64 1)), none, 0, [], false⟩,
⟨some 120, .idxAddr none 5 (.t 117) (.t 119), none, 0, [], false⟩,
⟨some 121, .load true 5 (.t 120), none, 1, [], false⟩,
⟨some 122, .call (.t 112) [.t 116, .t 121], none, 5, [], false⟩,
⟨some 123, .bin .lss .no (.t 122) (.c (.int .i64 0)), none, 0, [], false⟩,
⟨some 124, .un .not (.t 123), none, 0, [], false⟩])
(.cond (.t 124)
(.exit 6)
.skip))
(.reg true [
⟨some 125, .mov (.t 0), none, 0, [], false⟩,
⟨some 126, .mov (.t 12), none, 0, [], false⟩,
⟨some 127, .mov (.t 0), none, 0, [], false⟩,
⟨some 128, .mov (.t 12), none, 0, [], false⟩,
⟨some 129, .bin .sub .no (.t 128) (.c (.int .i64 1)), none, 0, [], false⟩,
⟨some 130, .mov (.t 0), none, 0, [], false⟩,
⟨some 131, .mov (.t 12), none, 0, [], false⟩,
⟨some 132, .bin .sub .no (.t 131) (.c (.int .i64 1)), none, 0, [], false⟩,
⟨some 133, .idxAddr none 5 (.t 130) (.t 132), none, 0, [], false⟩,
⟨some 134, .load true 5 (.t 133), none, 1, [], false⟩,
⟨some 135, .mov (.t 0), none, 0, [], false⟩,
⟨some 136, .mov (.t 12), none, 0, [], false⟩,
⟨some 137, .idxAddr none 5 (.t 135) (.t 136), none, 0, [], false⟩,
⟨some 138, .load true 5 (.t 137), none, 1, [], false⟩,
⟨some 139, .idxAddr none 5 (.t 125) (.t 126), none, 0, [], false⟩,
⟨none, .store 5 (.t 139) (.t 134), none, 5, [], false⟩,
⟨some 140, .idxAddr none 5 (.t 127) (.t 129), none, 0, [], false⟩,
⟨none, .store 5 (.t 140) (.t 138), none, 5, [], false⟩])))
(.reg false [
⟨some 110, .mov (.t 12), none, 0, [], false⟩,
⟨some 111, .bin .add .no (.t 110) (.c (.int .i64 1)), none, 0, [], false⟩,
⟨some 12, .mov (.t 111), none, 0, [], false⟩]))))))
.skip))))))))
(.reg false [
⟨some 17, .mov (.t 10), none, 0, [], false⟩,
⟨some 18, .bin .add .no (.t 17) (.c (.int .i64 1)), none, 0, [], false⟩,
⟨some 10, .mov (.t 18), none, 0, [], false⟩]))))))
(.seq
(.reg false [
⟨some 8, .mov (.c (.bool false)), none, 0, [], false⟩])
.ret)))), 2, true⟩
def af57 : AFunc := ⟨7, [.tmp 10],
  (.seq
(.reg false [
⟨some 10, .mov (.c (.int .i64 0)), none, 0, [], false⟩])
(.seq
(.reg true [
⟨some 13, .mov (.t 0), none, 0, [], false⟩,
⟨some 14, .mov (.t 1), none, 0, [], false⟩,
⟨some 15, .mov (.t 0), none, 0, [], false⟩,
⟨some 16, .mov (.t 3), none, 0, [], false⟩,
⟨some 17, .mov (.t 0), none, 0, [], false⟩,
⟨some 18, .mov (.t 3), none, 0, [], false⟩,
⟨some 19, .idxAddr none 5 (.t 17) (.t 18), none, 0, [], false⟩,
⟨some 20, .load true 5 (.t 19), none, 1, [], false⟩,
⟨some 21, .mov (.t 0), none, 0, [], false⟩,
⟨some 22, .mov (.t 1), none, 0, [], false⟩,
⟨some 23, .idxAddr none 5 (.t 21) (.t 22), none, 0, [], false⟩,
⟨some 24, .load true 5 (.t 23), none, 1, [], false⟩,
⟨some 25, .idxAddr none 5 (.t 13) (.t 14), none, 0, [], false⟩,
⟨none, .store 5 (.t 25) (.t 20), none, 5, [], false⟩,
⟨some 26, .idxAddr none 5 (.t 15) (.t 16), none, 0, [], false⟩,
⟨none, .store 5 (.t 26) (.t 24), none, 5, [], false⟩])
(.seq
(.reg false [
⟨some 27, .mov (.t 1), none, 0, [], false⟩,
⟨some 28, .bin .add .no (.t 27) (.c (.int .i64 1)), none, 0, [], false⟩,
⟨some 29, .mov (.t 2), none, 0, [], false⟩,
⟨some 30, .bin .sub .no (.t 29) (.c (.int .i64 1)), none, 0, [], false⟩,
⟨some 11, .mov (.t 28), none, 0, [], false⟩,
⟨some 12, .mov (.t 30), none, 0, [], false⟩])
(.seq
(.block 0
(.loop [0, 1, 4, 11, 12]
(.block 1
(.seq
(.block 2
(.loop [0, 1, 4, 11, 12]
(.seq
(.seq
(.reg true [
⟨some 31, .mov (.t 11), none, 0, [], false⟩,
⟨some 32, .mov (.t 12), none, 0, [], false⟩,
⟨some 33, .bin .leq .no (.t 31) (.t 32), none, 0, [], false⟩,
⟨some 34, .mov (.t 33), none, 0, [], false⟩,
⟨some 35, .mov (.t 4), some (34, true), 0, [], false⟩,
⟨some 36, .mov (.t 0), some (34, true), 0, [], false⟩,
⟨some 37, .mov (.t 1), some (34, true), 0, [], false⟩,
⟨some 38, .idxAddr none 5 (.t 36) (.t 37), some (34, true), 0, [], false⟩,
⟨some 39, .load true 5 (.t 38), some (34, true), 1, [], false⟩,
⟨some 40, .mov (.t 0), some (34, true), 0, [], false⟩,
⟨some 41, .mov (.t 11), some (34, true), 0, [], false⟩,
⟨some 42, .idxAddr none 5 (.t 40) (.t 41), some (34, true), 0, [], false⟩,
⟨some 43, .load true 5 (.t 42), some (34, true), 1, [], false⟩,
⟨some 44, .call (.t 35) [.t 39, .t 43], some (34, true), 5, [], false⟩,
⟨some 45, .bin .lss .no (.t 44) (.c (.int .i64 0)), some (34, true), 0, [], false⟩,
⟨some 46, .un .not (.t 45), some (34, true), 0, [], false⟩,
⟨some 47, .pick (.t 34) (.t 46) (.c (.bool false)), none, 0, [], false⟩])
(.cond (.t 47)
.skip
(.exit 2)))
(.block 3
(.reg false [
⟨some 48, .mov (.t 11), none, 0, [], false⟩,
⟨some 49, .bin .add .no (.t 48) (.c (.int .i64 1)), none, 0, [], false⟩,
⟨some 11, .mov (.t 49), none, 0, [], false⟩])))))
(.seq
(.block 4
(.loop [0, 1, 4, 11, 12]
(.seq
(.seq
(.reg true [
⟨some 50, .mov (.t 11), none, 0, [], false⟩,
⟨some 51, .mov (.t 12), none, 0, [], false⟩,
⟨some 52, .bin .leq .no (.t 50) (.t 51), none, 0, [], false⟩,
⟨some 53, .mov (.t 52), none, 0, [], false⟩,
⟨some 54, .mov (.t 4), some (53, true), 0, [], false⟩,
⟨some 55, .mov (.t 0), some (53, true), 0, [], false⟩,
⟨some 56, .mov (.t 1), some (53, true), 0, [], false⟩,
⟨some 57, .idxAddr none 5 (.t 55) (.t 56), some (53, true), 0, [], false⟩,
⟨some 58, .load true 5 (.t 57), some (53, true), 1, [], false⟩,
⟨some 59, .mov (.t 0), some (53, true), 0, [], false⟩,
⟨some 60, .mov (.t 12), some (53, true), 0, [], false⟩,
⟨some 61, .idxAddr none 5 (.t 59) (.t 60), some (53, true), 0, [], false⟩,
⟨some 62, .load true 5 (.t 61), some (53, true), 1, [], false⟩,
⟨some 63, .call (.t 54) [.t 58, .t 62], some (53, true), 5, [], false⟩,
⟨some 64, .bin .lss .no (.t 63) (.c (.int .i64 0)), some (53, true), 0, [], false⟩,
⟨some 65, .pick (.t 53) (.t 64) (.c (.bool false)), none, 0, [], false⟩])
(.cond (.t 65)
.skip
(.exit 4)))
(.block 5
(.reg false [
⟨some 66, .mov (.t 12), none, 0, [], false⟩,
⟨some 67, .bin .sub .no (.t 66) (.c (.int .i64 1)), none, 0, [], false⟩,
⟨some 12, .mov (.t 67), none, 0, [], false⟩])))))
(.seq
(.seq
(.reg false [
⟨some 68, .mov (.t 11), none, 0, [], false⟩,
⟨some 69, .mov (.t 12), none, 0, [], false⟩,
⟨some 70, .bin .gtr .no (.t 68) (.t 69), none, 0, [], false⟩])
(.cond (.t 70)
(.exit 0)
.skip))
(.seq
(.reg true [
⟨some 71, .mov (.t 0), none, 0, [], false⟩,
⟨some 72, .mov (.t 11), none, 0, [], false⟩,
⟨some 73, .mov (.t 0), none, 0, [], false⟩,
⟨some 74, .mov (.t 12), none, 0, [], false⟩,
⟨some 75, .mov (.t 0), none, 0, [], false⟩,
⟨some 76, .mov (.t 12), none, 0, [], false⟩,
⟨some 77, .idxAddr none 5 (.t 75) (.t 76), none, 0, [], false⟩,
⟨some 78, .load true 5 (.t 77), none, 1, [], false⟩,
⟨some 79, .mov (.t 0), none, 0, [], false⟩,
⟨some 80, .mov (.t 11), none, 0, [], false⟩,
⟨some 81, .idxAddr none 5 (.t 79) (.t 80), none, 0, [], false⟩,
⟨some 82, .load true 5 (.t 81), none, 1, [], false⟩,
⟨some 83, .idxAddr none 5 (.t 71) (.t 72), none, 0, [], false⟩,
⟨none, .store 5 (.t 83) (.t 78), none, 5, [], false⟩,
⟨some 84, .idxAddr none 5 (.t 73) (.t 74), none, 0, [], false⟩,
⟨none, .store 5 (.t 84) (.t 82), none, 5, [], false⟩])
(.seq
(.reg false [
⟨some 85, .mov (.t 11), none, 0, [], false⟩,
⟨some 86, .bin .add .no (.t 85) (.c (.int .i64 1)), none, 0, [], false⟩,
⟨some 11, .mov (.t 86), none, 0, [], false⟩])
(.reg false [
⟨some 87, .mov (.t 12), none, 0, [], false⟩,
⟨some 88, .bin .sub .no (.t 87) (.c (.int .i64 1)), none, 0, [], false⟩,
⟨some 12, .mov (.t 88), none, 0, [], false⟩])))))))))
(.seq
(.reg false [
⟨some 89, .mov (.t 11), none, 0, [], false⟩,
⟨some 10, .mov (.t 89), none, 0, [], false⟩])
.ret))))), 2, true⟩
def af58 : AFunc := ⟨8, [.tmp 10, .tmp 11],
  (.seq
(.reg false [
⟨some 10, .mov (.c (.int .i64 0)), none, 0, [], false⟩,
⟨some 11, .mov (.c (.bool false)), none, 0, [], false⟩])
(.seq
(.reg true [
⟨some 14, .mov (.t 0), none, 0, [], false⟩,
⟨some 15, .mov (.t 1), none, 0, [], false⟩,
⟨some 16, .mov (.t 0), none, 0, [], false⟩,
⟨some 17, .mov (.t 3), none, 0, [], false⟩,
⟨some 18, .mov (.t 0), none, 0, [], false⟩,
⟨some 19, .mov (.t 3), none, 0, [], false⟩,
⟨some 20, .idxAddr none 5 (.t 18) (.t 19), none, 0, [], false⟩,
⟨some 21, .load true 5 (.t 20), none, 1, [], false⟩,
⟨some 22, .mov (.t 0), none, 0, [], false⟩,
⟨some 23, .mov (.t 1), none, 0, [], false⟩,
⟨some 24, .idxAddr none 5 (.t 22) (.t 23), none, 0, [], false⟩,
⟨some 25, .load true 5 (.t 24), none, 1, [], false⟩,
⟨some 26, .idxAddr none 5 (.t 14) (.t 15), none, 0, [], false⟩,
⟨none, .store 5 (.t 26) (.t 21), none, 5, [], false⟩,
⟨some 27, .idxAddr none 5 (.t 16) (.t 17), none, 0, [], false⟩,
⟨none, .store 5 (.t 27) (.t 25), none, 5, [], false⟩])
(.seq
(.reg false [
⟨some 28, .mov (.t 1), none, 0, [], false⟩,
⟨some 29, .bin .add .no (.t 28) (.c (.int .i64 1)), none, 0, [], false⟩,
⟨some 30, .mov (.t 2), none, 0, [], false⟩,
⟨some 31, .bin .sub .no (.t 30) (.c (.int .i64 1)), none, 0, [], false⟩,
⟨some 12, .mov (.t 29), none, 0, [], false⟩,
⟨some 13, .mov (.t 31), none, 0, [], false⟩])
(.seq
(.block 0
(.loop [0, 1, 4, 12, 13]
(.seq
(.seq
(.reg true [
⟨some 32, .mov (.t 12), none, 0, [], false⟩,
⟨some 33, .mov (.t 13), none, 0, [], false⟩,
⟨some 34, .bin .leq .no (.t 32) (.t 33), none, 0, [], false⟩,
⟨some 35, .mov (.t 34), none, 0, [], false⟩,
⟨some 36, .mov (.t 4), some (35, true), 0, [], false⟩,
⟨some 37, .mov (.t 0), some (35, true), 0, [], false⟩,
⟨some 38, .mov (.t 12), some (35, true), 0, [], false⟩,
⟨some 39, .idxAddr none 5 (.t 37) (.t 38), some (35, true), 0, [], false⟩,
⟨some 40, .load true 5 (.t 39), some (35, true), 1, [], false⟩,
⟨some 41, .mov (.t 0), some (35, true), 0, [], false⟩,
⟨some 42, .mov (.t 1), some (35, true), 0, [], false⟩,
⟨some 43, .idxAddr none 5 (.t 41) (.t 42), some (35, true), 0, [], false⟩,
⟨some 44, .load true 5 (.t 43), some (35, true), 1, [], false⟩,
⟨some 45, .call (.t 36) [.t 40, .t 44], some (35, true), 5, [], false⟩,
⟨some 46, .bin .lss .no (.t 45) (.c (.int .i64 0)), some (35, true), 0, [], false⟩,
⟨some 47, .pick (.t 35) (.t 46) (.c (.bool false)), none, 0, [], false⟩])
(.cond (.t 47)
.skip
(.exit 0)))
(.block 1
(.reg false [
⟨some 48, .mov (.t 12), none, 0, [], false⟩,
⟨some 49, .bin .add .no (.t 48) (.c (.int .i64 1)), none, 0, [], false⟩,
⟨some 12, .mov (.t 49), none, 0, [], false⟩])))))
(.seq
(.block 2
(.loop [0, 1, 4, 12, 13]
(.seq
(.seq
(.reg true [
⟨some 50, .mov (.t 12), none, 0, [], false⟩,
⟨some 51, .mov (.t 13), none, 0, [], false⟩,
⟨some 52, .bin .leq .no (.t 50) (.t 51), none, 0, [], false⟩,
⟨some 53, .mov (.t 52), none, 0, [], false⟩,
⟨some 54, .mov (.t 4), some (53, true), 0, [], false⟩,
⟨some 55, .mov (.t 0), some (53, true), 0, [], false⟩,
⟨some 56, .mov (.t 13), some (53, true), 0, [], false⟩,
⟨some 57, .idxAddr none 5 (.t 55) (.t 56), some (53, true), 0, [], false⟩,
⟨some 58, .load true 5 (.t 57), some (53, true), 1, [], false⟩,
⟨some 59, .mov (.t 0), some (53, true), 0, [], false⟩,
⟨some 60, .mov (.t 1), some (53, true), 0, [], false⟩,
⟨some 61, .idxAddr none 5 (.t 59) (.t 60), some (53, true), 0, [], false⟩,
⟨some 62, .load true 5 (.t 61), some (53, true), 1, [], false⟩,
⟨some 63, .call (.t 54) [.t 58, .t 62], some (53, true), 5, [], false⟩,
⟨some 64, .bin .lss .no (.t 63) (.c (.int .i64 0)), some (53, true), 0, [], false⟩,
⟨some 65, .un .not (.t 64), some (53, true), 0, [], false⟩,
⟨some 66, .pick (.t 53) (.t 65) (.c (.bool false)), none, 0, [], false⟩])
(.cond (.t 66)
.skip
(.exit 2)))
(.block 3
(.reg false [
⟨some 67, .mov (.t 13), none, 0, [], false⟩,
⟨some 68, .bin .sub .no (.t 67) (.c (.int .i64 1)), none, 0, [], false⟩,
⟨some 13, .mov (.t 68), none, 0, [], false⟩])))))
(.seq
(.seq
(.reg false [
⟨some 69, .mov (.t 12), none, 0, [], false⟩,
⟨some 70, .mov (.t 13), none, 0, [], false⟩,
⟨some 71, .bin .gtr .no (.t 69) (.t 70), none, 0, [], false⟩])
(.cond (.t 71)
(.seq
(.reg true [
⟨some 72, .mov (.t 0), none, 0, [], false⟩,
⟨some 73, .mov (.t 13), none, 0, [], false⟩,
⟨some 74, .mov (.t 0), none, 0, [], false⟩,
⟨some 75, .mov (.t 1), none, 0, [], false⟩,
⟨some 76, .mov (.t 0), none, 0, [], false⟩,
⟨some 77, .mov (.t 1), none, 0, [], false⟩,
⟨some 78, .idxAddr none 5 (.t 76) (.t 77), none, 0, [], false⟩,
⟨some 79, .load true 5 (.t 78), none, 1, [], false⟩,
⟨some 80, .mov (.t 0), none, 0, [], false⟩,
⟨some 81, .mov (.t 13), none, 0, [], false⟩,
⟨some 82, .idxAddr none 5 (.t 80) (.t 81), none, 0, [], false⟩,
⟨some 83, .load true 5 (.t 82), none, 1, [], false⟩,
⟨some 84, .idxAddr none 5 (.t 72) (.t 73), none, 0, [], false⟩,
⟨none, .store 5 (.t 84) (.t 79), none, 5, [], false⟩,
⟨some 85, .idxAddr none 5 (.t 74) (.t 75), none, 0, [], false⟩,
⟨none, .store 5 (.t 85) (.t 83), none, 5, [], false⟩])
(.seq
(.reg false [
⟨some 86, .mov (.t 13), none, 0, [], false⟩,
⟨some 10, .mov (.t 86), none, 0, [], false⟩,
⟨some 11, .mov (.c (.bool true)), none, 0, [], false⟩])
.ret))
.skip))
(.seq
(.reg true [
⟨some 87, .mov (.t 0), none, 0, [], false⟩,
⟨some 88, .mov (.t 12), none, 0, [], false⟩,
⟨some 89, .mov (.t 0), none, 0, [], false⟩,
⟨some 90, .mov (.t 13), none, 0, [], false⟩,
⟨some 91, .mov (.t 0), none, 0, [], false⟩,
⟨some 92, .mov (.t 13), none, 0, [], false⟩,
⟨some 93, .idxAddr none 5 (.t 91) (.t 92), none, 0, [], false⟩,
⟨some 94, .load true 5 (.t 93), none, 1, [], false⟩,
⟨some 95, .mov (.t 0), none, 0, [], false⟩,
⟨some 96, .mov (.t 12), none, 0, [], false⟩,
⟨some 97, .idxAddr none 5 (.t 95) (.t 96), none, 0, [], false⟩,
⟨some 98, .load true 5 (.t 97), none, 1, [], false⟩,
⟨some 99, .idxAddr none 5 (.t 87) (.t 88), none, 0, [], false⟩,
⟨none, .store 5 (.t 99) (.t 94), none, 5, [], false⟩,
⟨some 100, .idxAddr none 5 (.t 89) (.t 90), none, 0, [], false⟩,
⟨none, .store 5 (.t 100) (.t 98), none, 5, [], false⟩])
(.seq
(.reg false [
⟨some 101, .mov (.t 12), none, 0, [], false⟩,
⟨some 102, .bin .add .no (.t 101) (.c (.int .i64 1)), none, 0, [], false⟩,
⟨some 12, .mov (.t 102), none, 0, [], false⟩])
(.seq
(.reg false [
⟨some 103, .mov (.t 13), none, 0, [], false⟩,
⟨some 104, .bin .sub .no (.t 103) (.c (.int .i64 1)), none, 0, [], false⟩,
⟨some 13, .mov (.t 104), none, 0, [], false⟩])
(.seq
(.block 4
(.loop [0, 1, 4, 12, 13]
(.block 5
(.seq
(.block 6
(.loop [0, 1, 4, 12, 13]
(.seq
(.seq
(.reg true [
⟨some 105, .mov (.t 12), none, 0, [], false⟩,
⟨some 106, .mov (.t 13), none, 0, [], false⟩,
⟨some 107, .bin .leq .no (.t 105) (.t 106), none, 0, [], false⟩,
⟨some 108, .mov (.t 107), none, 0, [], false⟩,
⟨some 109, .mov (.t 4), some (108, true), 0, [], false⟩,
⟨some 110, .mov (.t 0), some (108, true), 0, [], false⟩,
⟨some 111, .mov (.t 12), some (108, true), 0, [], false⟩,
⟨some 112, .idxAddr none 5 (.t 110) (.t 111), some (108, true), 0, [], false⟩,
⟨some 113, .load true 5 (.t 112), some (108, true), 1, [], false⟩,
⟨some 114, .mov (.t 0), some (108, true), 0, [], false⟩,
⟨some 115, .mov (.t 1), some (108, true), 0, [], false⟩,
⟨some 116, .idxAddr none 5 (.t 114) (.t 115), some (108, true), 0, [], false⟩,
⟨some 117, .load true 5 (.t 116), some (108, true), 1, [], false⟩,
⟨some 118, .call (.t 109) [.t 113, .t 117], some (108, true), 5, [], false⟩,
⟨some 119, .bin .lss .no (.t 118) (.c (.int .i64 0)), some (108, true), 0, [], false⟩,
⟨some 120, .pick (.t 108) (.t 119) (.c (.bool false)), none, 0, [], false⟩])
(.cond (.t 120)
.skip
(.exit 6)))
(.block 7
(.reg false [
⟨some 121, .mov (.t 12), none, 0, [], false⟩,
⟨some 122, .bin .add .no (.t 121) (.c (.int .i64 1)), none, 0, [], false⟩,
⟨some 12, .mov (.t 122), none, 0, [], false⟩])))))
(.seq
(.block 8
(.loop [0, 1, 4, 12, 13]
(.seq
(.seq
(.reg true [
⟨some 123, .mov (.t 12), none, 0, [], false⟩,
⟨some 124, .mov (.t 13), none, 0, [], false⟩,
⟨some 125, .bin .leq .no (.t 123) (.t 124), none, 0, [], false⟩,
⟨some 126, .mov (.t 125), none, 0, [], false⟩,
⟨some 127, .mov (.t 4), some (126, true), 0, [], false⟩,
⟨some 128, .mov (.t 0), some (126, true), 0, [], false⟩,
⟨some 129, .mov (.t 13), some (126, true), 0, [], false⟩,
⟨some 130, .idxAddr none 5 (.t 128) (.t 129), some (126, true), 0, [], false⟩,
⟨some 131, .load true 5 (.t 130), some (126, true), 1, [], false⟩,
⟨some 132, .mov (.t 0), some (126, true), 0, [], false⟩,
⟨some 133, .mov (.t 1), some (126, true), 0, [], false⟩,
⟨some 134, .idxAddr none 5 (.t 132) (.t 133), some (126, true), 0, [], false⟩,
⟨some 135, .load true 5 (.t 134), some (126, true), 1, [], false⟩,
⟨some 136, .call (.t 127) [.t 131, .t 135], some (126, true), 5, [], false⟩,
⟨some 137, .bin .lss .no (.t 136) (.c (.int .i64 0)), some (126, true), 0, [], false⟩,
⟨some 138, .un .not (.t 137), some (126, true), 0, [], false⟩,
⟨some 139, .pick (.t 126) (.t 138) (.c (.bool false)), none, 0, [], false⟩])
(.cond (.t 139)
.skip
(.exit 8)))
(.block 9
(.reg false [
⟨some 140, .mov (.t 13), none, 0, [], false⟩,
⟨some 141, .bin .sub .no (.t 140) (.c (.int .i64 1)), none, 0, [], false⟩,
⟨some 13, .mov (.t 141), none, 0, [], false⟩])))))
(.seq
(.seq
(.reg false [
⟨some 142, .mov (.t 12), none, 0, [], false⟩,
⟨some 143, .mov (.t 13), none, 0, [], false⟩,
⟨some 144, .bin .gtr .no (.t 142) (.t 143), none, 0, [], false⟩])
(.cond (.t 144)
(.exit 4)
.skip))
(.seq
(.reg true [
⟨some 145, .mov (.t 0), none, 0, [], false⟩,
⟨some 146, .mov (.t 12), none, 0, [], false⟩,
⟨some 147, .mov (.t 0), none, 0, [], false⟩,
⟨some 148, .mov (.t 13), none, 0, [], false⟩,
⟨some 149, .mov (.t 0), none, 0, [], false⟩,
⟨some 150, .mov (.t 13), none, 0, [], false⟩,
⟨some 151, .idxAddr none 5 (.t 149) (.t 150), none, 0, [], false⟩,
⟨some 152, .load true 5 (.t 151), none, 1, [], false⟩,
⟨some 153, .mov (.t 0), none, 0, [], false⟩,
⟨some 154, .mov (.t 12), none, 0, [], false⟩,
⟨some 155, .idxAddr none 5 (.t 153) (.t 154), none, 0, [], false⟩,
⟨some 156, .load true 5 (.t 155), none, 1, [], false⟩,
⟨some 157, .idxAddr none 5 (.t 145) (.t 146), none, 0, [], false⟩,
⟨none, .store 5 (.t 157) (.t 152), none, 5, [], false⟩,
⟨some 158, .idxAddr none 5 (.t 147) (.t 148), none, 0, [], false⟩,
⟨none, .store 5 (.t 158) (.t 156), none, 5, [], false⟩])
(.seq
(.reg false [
⟨some 159, .mov (.t 12), none, 0, [], false⟩,
⟨some 160, .bin .add .no (.t 159) (.c (.int .i64 1)), none, 0, [], false⟩,
⟨some 12, .mov (.t 160), none, 0, [], false⟩])
(.reg false [
⟨some 161, .mov (.t 13), none, 0, [], false⟩,
⟨some 162, .bin .sub .no (.t 161) (.c (.int .i64 1)), none, 0, [], false⟩,
⟨some 13, .mov (.t 162), none, 0, [], false⟩])))))))))
(.seq
(.reg true [
⟨some 163, .mov (.t 0), none, 0, [], false⟩,
⟨some 164, .mov (.t 13), none, 0, [], false⟩,
⟨some 165, .mov (.t 0), none, 0, [], false⟩,
⟨some 166, .mov (.t 1), none, 0, [], false⟩,
⟨some 167, .mov (.t 0), none, 0, [], false⟩,
⟨some 168, .mov (.t 1), none, 0, [], false⟩,
⟨some 169, .idxAddr none 5 (.t 167) (.t 168), none, 0, [], false⟩,
⟨some 170, .load true 5 (.t 169), none, 1, [], false⟩,
⟨some 171, .mov (.t 0), none, 0, [], false⟩,
⟨some 172, .mov (.t 13), none, 0, [], false⟩,
⟨some 173, .idxAddr none 5 (.t 171) (.t 172), none, 0, [], false⟩,
⟨some 174, .load true 5 (.t 173), none, 1, [], false⟩,
⟨some 175, .idxAddr none 5 (.t 163) (.t 164), none, 0, [], false⟩,
⟨none, .store 5 (.t 175) (.t 170), none, 5, [], false⟩,
⟨some 176, .idxAddr none 5 (.t 165) (.t 166), none, 0, [], false⟩,
⟨none, .store 5 (.t 176) (.t 174), none, 5, [], false⟩])
(.seq
(.reg false [
⟨some 177, .mov (.t 13), none, 0, [], false⟩,
⟨some 10, .mov (.t 177), none, 0, [], false⟩,
⟨some 11, .mov (.c (.bool false)), none, 0, [], false⟩])
.ret)))))))))))), 2, true⟩
def af59 : AFunc := ⟨5, [.tmp 2],
  (.seq
(.reg false [
⟨some 2, .mov (.c (.int .i64 0)), none, 0, [], false⟩])
(.seq
(.seq
(.reg false [
⟨some 3, .mov (.t 0), none, 0, [], false⟩,
⟨some 4, .bin .geq .no (.t 3) (.c (.int .u32 65536)), none, 0, [], false⟩])
(.cond (.t 4)
(.seq
(.reg false [
⟨some 5, .mov (.t 0), none, 0, [], false⟩,
⟨some 6, .bin .shr .no (.t 5) (.c (.int .u64 16)), none, 0, [], false⟩,
⟨some 0, .mov (.t 6), none, 0, [], false⟩])
(.reg false [
⟨some 2, .mov (.c (.int .i64 16)), none, 0, [], false⟩]))
.skip))
(.seq
(.seq
(.reg false [
⟨some 7, .mov (.t 0), none, 0, [], false⟩,
⟨some 8, .bin .geq .no (.t 7) (.c (.int .u32 256)), none, 0, [], false⟩])
(.cond (.t 8)
(.seq
(.reg false [
⟨some 9, .mov (.t 0), none, 0, [], false⟩,
⟨some 10, .bin .shr .no (.t 9) (.c (.int .u64 8)), none, 0, [], false⟩,
⟨some 0, .mov (.t 10), none, 0, [], false⟩])
(.reg false [
⟨some 11, .mov (.t 2), none, 0, [], false⟩,
⟨some 12, .bin .add .no (.t 11) (.c (.int .i64 8)), none, 0, [], false⟩,
⟨some 2, .mov (.t 12), none, 0, [], false⟩]))
.skip))
(.seq
(.reg false [
⟨some 13, .mov (.t 2), none, 0, [], false⟩,
⟨some 14, .mov (.t 0), none, 0, [], false⟩,
⟨some 15, .convI .u8 (.t 14), none, 0, [], false⟩,
⟨some 16, .idxStr (.c (.str [0, 1, 2, 2, 3, 3, 3, 3, 4, 4, 4, 4, 4, 4, 4, 4, 5, 5, 5, 5, 5, 5, 5, 5, 5, 5, 5, 5, 5, 5, 5, 5, 6, 6, 6, 6, 6, 6, 6, 6, 6, 6, 6, 6, 6, 6, 6, 6, 6, 6, 6, 6, 6, 6, 6, 6, 6, 6, 6, 6, 6, 6, 6, 6, 7, 7, 7, 7, 7, 7, 7, 7, 7, 7, 7, 7, 7, 7, 7, 7, 7, 7, 7, 7, 7, 7, 7, 7, 7, 7, 7, 7, 7, 7, 7, 7, 7, 7, 7, 7, 7, 7, 7, 7, 7, 7, 7, 7, 7, 7, 7, 7, 7, 7, 7, 7, 7, 7, 7, 7, 7, 7, 7, 7, 7, 7, 7, 7, 8, 8, 8, 8, 8, 8, 8, 8, 8, 8, 8, 8, 8, 8, 8, 8, 8, 8, 8, 8, 8, 8, 8, 8, 8, 8, 8, 8, 8, 8, 8, 8, 8, 8, 8, 8, 8, 8, 8, 8, 8, 8, 8, 8, 8, 8, 8, 8, 8, 8, 8, 8, 8, 8, 8, 8, 8, 8, 8, 8, 8, 8, 8, 8, 8, 8, 8, 8, 8, 8, 8, 8, 8, 8, 8, 8, 8, 8, 8, 8, 8, 8, 8, 8, 8, 8, 8, 8, 8, 8, 8, 8, 8, 8, 8, 8, 8, 8, 8, 8, 8, 8, 8, 8, 8, 8, 8, 8, 8, 8, 8, 8, 8, 8, 8, 8, 8, 8, 8, 8, 8, 8, 8, 8, 8, 8, 8, 8])) (.t 15), none, 0, [], false⟩,
⟨some 17, .convI .i64 (.t 16), none, 0, [], false⟩,
⟨some 18, .bin .add .no (.t 13) (.t 17), none, 0, [], false⟩,
⟨some 2, .mov (.t 18), none, 0, [], false⟩])
.ret)))), 0, true⟩
def af60 : AFunc := ⟨5, [.tmp 2],
  (.seq
(.reg false [
⟨some 2, .mov (.c (.int .i64 0)), none, 0, [], false⟩])
(.seq
(.seq
(.reg false [
⟨some 3, .mov (.t 0), none, 0, [], false⟩,
⟨some 4, .bin .geq .no (.t 3) (.c (.int .u64 4294967296)), none, 0, [], false⟩])
(.cond (.t 4)
(.seq
(.reg false [
⟨some 5, .mov (.t 0), none, 0, [], false⟩,
⟨some 6, .bin .shr .no (.t 5) (.c (.int .u64 32)), none, 0, [], false⟩,
⟨some 0, .mov (.t 6), none, 0, [], false⟩])
(.reg false [
⟨some 2, .mov (.c (.int .i64 32)), none, 0, [], false⟩]))
.skip))
(.seq
(.seq
(.reg false [
⟨some 7, .mov (.t 0), none, 0, [], false⟩,
⟨some 8, .bin .geq .no (.t 7) (.c (.int .u64 65536)), none, 0, [], false⟩])
(.cond (.t 8)
(.seq
(.reg false [
⟨some 9, .mov (.t 0), none, 0, [], false⟩,
⟨some 10, .bin .shr .no (.t 9) (.c (.int .u64 16)), none, 0, [], false⟩,
⟨some 0, .mov (.t 10), none, 0, [], false⟩])
(.reg false [
⟨some 11, .mov (.t 2), none, 0, [], false⟩,
⟨some 12, .bin .add .no (.t 11) (.c (.int .i64 16)), none, 0, [], false⟩,
⟨some 2, .mov (.t 12), none, 0, [], false⟩]))
.skip))
(.seq
(.seq
(.reg false [
⟨some 13, .mov (.t 0), none, 0, [], false⟩,
⟨some 14, .bin .geq .no (.t 13) (.c (.int .u64 256)), none, 0, [], false⟩])
(.cond (.t 14)
(.seq
(.reg false [
⟨some 15, .mov (.t 0), none, 0, [], false⟩,
⟨some 16, .bin .shr .no (.t 15) (.c (.int .u64 8)), none, 0, [], false⟩,
⟨some 0, .mov (.t 16), none, 0, [], false⟩])
(.reg false [
⟨some 17, .mov (.t 2), none, 0, [], false⟩,
⟨some 18, .bin .add .no (.t 17) (.c (.int .i64 8)), none, 0, [], false⟩,
⟨some 2, .mov (.t 18), none, 0, [], false⟩]))
.skip))
(.seq
(.reg false [
⟨some 19, .mov (.t 2), none, 0, [], false⟩,
⟨some 20, .mov (.t 0), none, 0, [], false⟩,
⟨some 21, .convI .u8 (.t 20), none, 0, [], false⟩,
⟨some 22, .idxStr (.c (.str [0, 1, 2, 2, 3, 3, 3, 3, 4, 4, 4, 4, 4, 4, 4, 4, 5, 5, 5, 5, 5, 5, 5, 5, 5, 5, 5, 5, 5, 5, 5, 5, 6, 6, 6, 6, 6, 6, 6, 6, 6, 6, 6, 6, 6, 6, 6, 6, 6, 6, 6, 6, 6, 6, 6, 6, 6, 6, 6, 6, 6, 6, 6, 6, 7, 7, 7, 7, 7, 7, 7, 7, 7, 7, 7, 7, 7, 7, 7, 7, 7, 7, 7, 7, 7, 7, 7, 7, 7, 7, 7, 7, 7, 7, 7, 7, 7, 7, 7, 7, 7, 7, 7, 7, 7, 7, 7, 7, 7, 7, 7, 7, 7, 7, 7, 7, 7, 7, 7, 7, 7, 7, 7, 7, 7, 7, 7, 7, 8, 8, 8, 8, 8, 8, 8, 8, 8, 8, 8, 8, 8, 8, 8, 8, 8, 8, 8, 8, 8, 8, 8, 8, 8, 8, 8, 8, 8, 8, 8, 8, 8, 8, 8, 8, 8, 8, 8, 8, 8, 8, 8, 8, 8, 8, 8, 8, 8, 8, 8, 8, 8, 8, 8, 8, 8, 8, 8, 8, 8, 8, 8, 8, 8, 8, 8, 8, 8, 8, 8, 8, 8, 8, 8, 8, 8, 8, 8, 8, 8, 8, 8, 8, 8, 8, 8, 8, 8, 8, 8, 8, 8, 8, 8, 8, 8, 8, 8, 8, 8, 8, 8, 8, 8, 8, 8, 8, 8, 8, 8, 8, 8, 8, 8, 8, 8, 8, 8, 8, 8, 8, 8, 8, 8, 8, 8, 8])) (.t 21), none, 0, [], false⟩,
⟨some 23, .convI .i64 (.t 22), none, 0, [], false⟩,
⟨some 24, .bin .add .no (.t 19) (.t 23), none, 0, [], false⟩,
⟨some 2, .mov (.t 24), none, 0, [], false⟩])
.ret))))), 0, true⟩
def af61 : AFunc := ⟨3, [.tmp 2],
  (.seq
(.reg false [
⟨some 2, .mov (.c (.bool false)), none, 0, [], false⟩])
(.seq
(.reg false [
⟨some 3, .mov (.t 0), none, 0, [], false⟩,
⟨some 4, .mov (.t 0), none, 0, [], false⟩,
⟨some 5, .bin .neq .int (.t 3) (.t 4), none, 0, [], false⟩,
⟨some 2, .mov (.t 5), none, 0, [], false⟩])
.ret)), 0, true⟩
def af62 : AFunc := ⟨5, [.tmp 4],
  (.seq
(.reg false [
⟨some 4, .mov (.c (.int .i64 0)), none, 0, [], false⟩])
(.seq
(.seq
(.reg false [
⟨some 6, .mov (.t 0), none, 0, [], false⟩,
⟨some 7, .len .slice (.t 6), none, 0, [], false⟩,
⟨some 8, .mov (.c (.int .i64 0)), none, 0, [], false⟩])
(.block 0
(.loop [0, 1, 7, 8]
(.seq
(.reg false [
⟨some 9, .bin .lss .no (.t 8) (.t 7), none, 0, [], false⟩])
(.seq
(.cond (.t 9)
.skip
(.exit 0))
(.seq
(.block 1
(.seq
(.reg false [
⟨some 10, .mov (.t 8), none, 0, [], false⟩,
⟨some 5, .mov (.t 10), none, 0, [], false⟩])
(.seq
(.reg false [
⟨some 11, .mov (.t 1), none, 0, [], false⟩,
⟨some 12, .mov (.t 0), none, 0, [], false⟩,
⟨some 13, .mov (.t 5), none, 0, [], false⟩,
⟨some 14, .idxAddr none 1 (.t 12) (.t 13), none, 0, [], false⟩,
⟨some 15, .load false 1 (.t 14), none, 1, [], false⟩,
⟨some 16, .bin .eql .int (.t 11) (.t 15), none, 0, [], false⟩])
(.cond (.t 16)
(.seq
(.reg false [
⟨some 17, .mov (.t 5), none, 0, [], false⟩,
⟨some 4, .mov (.t 17), none, 0, [], false⟩])
.ret)
.skip))))
(.reg false [
⟨some 18, .bin .add .no (.t 8) (.c (.int .i64 1)), none, 0, [], false⟩,
⟨some 8, .mov (.t 18), none, 0, [], false⟩])))))))
(.seq
(.reg false [
⟨some 4, .mov (.c (.int .i64 (-1))), none, 0, [], false⟩])
.ret))), 0, true⟩
def af63 : AFunc := ⟨5, [.tmp 4],
  (.seq
(.reg false [
⟨some 4, .mov (.c (.str [])), none, 0, [], false⟩])
(.seq
(.block 0
(.loop [0, 1]
(.seq
(.seq
(.reg false [
⟨some 5, .mov (.t 0), none, 0, [], false⟩,
⟨some 6, .len .str (.t 5), none, 0, [], false⟩,
⟨some 7, .bin .gtr .no (.t 6) (.c (.int .i64 0)), none, 0, [], false⟩,
⟨some 8, .mov (.t 7), none, 0, [], false⟩,
⟨some 9, .mov (.t 0), some (8, true), 0, [], false⟩,
⟨some 10, .idxStr (.t 9) (.c (.int .i64 0)), some (8, true), 0, [], false⟩,
⟨some 11, .mov (.t 1), some (8, true), 0, [], false⟩,
⟨some 12, .bin .eql .int (.t 10) (.t 11), some (8, true), 0, [], false⟩,
⟨some 13, .pick (.t 8) (.t 12) (.c (.bool false)), none, 0, [], false⟩])
(.cond (.t 13)
.skip
(.exit 0)))
(.block 1
(.reg false [
⟨some 14, .mov (.t 0), none, 0, [], false⟩,
⟨some 15, .slice .str 1 (.t 14) (some (.c (.int .i64 1))) none none, none, 1, [], false⟩,
⟨some 0, .mov (.t 15), none, 0, [], false⟩])))))
(.seq
(.reg false [
⟨some 16, .mov (.t 0), none, 0, [], false⟩,
⟨some 4, .mov (.t 16), none, 0, [], false⟩])
.ret))), 0, true⟩
def af64 : AFunc := ⟨5, [.tmp 4],
  (.seq
(.reg false [
⟨some 4, .mov (.c (.str [])), none, 0, [], false⟩])
(.seq
(.block 0
(.loop [0, 1]
(.seq
(.seq
(.reg false [
⟨some 5, .mov (.t 0), none, 0, [], false⟩,
⟨some 6, .len .str (.t 5), none, 0, [], false⟩,
⟨some 7, .bin .gtr .no (.t 6) (.c (.int .i64 0)), none, 0, [], false⟩,
⟨some 8, .mov (.t 7), none, 0, [], false⟩,
⟨some 9, .mov (.t 0), some (8, true), 0, [], false⟩,
⟨some 10, .mov (.t 0), some (8, true), 0, [], false⟩,
⟨some 11, .len .str (.t 10), some (8, true), 0, [], false⟩,
⟨some 12, .bin .sub .no (.t 11) (.c (.int .i64 1)), some (8, true), 0, [], false⟩,
⟨some 13, .idxStr (.t 9) (.t 12), some (8, true), 0, [], false⟩,
⟨some 14, .mov (.t 1), some (8, true), 0, [], false⟩,
⟨some 15, .bin .eql .int (.t 13) (.t 14), some (8, true), 0, [], false⟩,
⟨some 16, .pick (.t 8) (.t 15) (.c (.bool false)), none, 0, [], false⟩])
(.cond (.t 16)
.skip
(.exit 0)))
(.block 1
(.reg false [
⟨some 17, .mov (.t 0), none, 0, [], false⟩,
⟨some 18, .mov (.t 0), none, 0, [], false⟩,
⟨some 19, .len .str (.t 18), none, 0, [], false⟩,
⟨some 20, .bin .sub .no (.t 19) (.c (.int .i64 1)), none, 0, [], false⟩,
⟨some 21, .slice .str 1 (.t 17) none (some (.t 20)) none, none, 1, [], false⟩,
⟨some 0, .mov (.t 21), none, 0, [], false⟩])))))
(.seq
(.reg false [
⟨some 22, .mov (.t 0), none, 0, [], false⟩,
⟨some 4, .mov (.t 22), none, 0, [], false⟩])
.ret))), 0, true⟩
def af65 : AFunc := ⟨5, [.cell 2 true 256, .tmp 3],
  (.seq
(.reg false [
⟨some 2, .new [.bool false, .bool false, .bool false, .bool false, .bool false, .bool false, .bool false, .bool false, .bool false, .bool false, .bool false, .bool false, .bool false, .bool false, .bool false, .bool false, .bool false, .bool false, .bool false, .bool false, .bool false, .bool false, .bool false, .bool false, .bool false, .bool false, .bool false, .bool false, .bool false, .bool false, .bool false, .bool false, .bool false, .bool false, .bool false, .bool false, .bool false, .bool false, .bool false, .bool false, .bool false, .bool false, .bool false, .bool false, .bool false, .bool false, .bool false, .bool false, .bool false, .bool false, .bool false, .bool false, .bool false, .bool false, .bool false, .bool false, .bool false, .bool false, .bool false, .bool false, .bool false, .bool false, .bool false, .bool false, .bool false, .bool false, .bool false, .bool false, .bool false, .bool false, .bool false, .bool false, .bool false, .bool false, .bool false, .bool false, .bool false, .bool false, .bool false, .bool false, .bool false, .bool false, .bool false, .bool false, .bool false, .bool false, .bool false, .bool false, .bool false, .bool false, .bool false, .bool false, .bool false, .bool false, .bool false, .bool false, .bool false, .bool false, .bool false, .bool false, .bool false, .bool false, .bool false, .bool false, .bool false, .bool false, .bool false, .bool false, .bool false, .bool false, .bool false, .bool false, .bool false, .bool false, .bool false, .bool false, .bool false, .bool false, .bool false, .bool false, .bool false, .bool false, .bool false, .bool false, .bool false, .bool false, .bool false, .bool false, .bool false, .bool false, .bool false, .bool false, .bool false, .bool false, .bool false, .bool false, .bool false, .bool false, .bool false, .bool false, .bool false, .bool false, .bool false, .bool false, .bool false, .bool false, .bool false, .bool false, .bool false, .bool false, .bool false, .bool false, .bool false, .bool false, .bool false, .bool false, .bool false, .bool false, .bool false, .bool false, .bool false, .bool false, .bool false, .bool false, .bool false, .bool false, .bool false, .bool false, .bool false, .bool false, .bool false, .bool false, .bool false, .bool false, .bool false, .bool false, .bool false, .bool false, .bool false, .bool false, .bool false, .bool false, .bool false, .bool false, .bool false, .bool false, .bool false, .bool false, .bool false, .bool false, .bool false, .bool false, .bool false, .bool false, .bool false, .bool false, .bool false, .bool false, .bool false, .bool false, .bool false, .bool false, .bool false, .bool false, .bool false, .bool false, .bool false, .bool false, .bool false, .bool false, .bool false, .bool false, .bool false, .bool false, .bool false, .bool false, .bool false, .bool false, .bool false, .bool false, .bool false, .bool false, .bool false, .bool false, .bool false, .bool false, .bool false, .bool false, .bool false, .bool false, .bool false, .bool false, .bool false, .bool false, .bool false, .bool false, .bool false, .bool false, .bool false, .bool false, .bool false, .bool false, .bool false, .bool false, .bool false, .bool false, .bool false, .bool false, .bool false, .bool false, .bool false, .bool false, .bool false, .bool false, .bool false, .bool false] 118, none, 2, [], false⟩,
⟨some 3, .mov (.c (.bool false)), none, 0, [], false⟩])
(.seq
(.seq
(.reg false [
⟨some 4, .mov (.c (.int .i64 0)), none, 0, [], false⟩])
(.block 0
(.loop [0, 2, 4]
(.seq
(.seq
(.reg false [
⟨some 6, .mov (.t 4), none, 0, [], false⟩,
⟨some 7, .mov (.t 0), none, 0, [], false⟩,
⟨some 8, .len .str (.t 7), none, 0, [], false⟩,
⟨some 9, .bin .lss .no (.t 6) (.t 8), none, 0, [], false⟩])
(.cond (.t 9)
.skip
(.exit 0)))
(.seq
(.block 1
(.seq
(.reg false [
⟨some 12, .mov (.t 0), none, 0, [], false⟩,
⟨some 13, .mov (.t 4), none, 0, [], false⟩,
⟨some 14, .idxStr (.t 12) (.t 13), none, 0, [], false⟩,
⟨some 5, .mov (.t 14), none, 0, [], false⟩])
(.seq
(.seq
(.reg false [
⟨some 15, .mov (.t 5), none, 0, [], false⟩,
⟨some 16, .bin .geq .no (.t 15) (.c (.int .u8 128)), none, 0, [], false⟩])
(.cond (.t 16)
(.seq
(.reg false [
⟨some 17, .load true 256 (.t 2), none, 1, [], false⟩,
⟨none, .store 256 (.t 2) (.t 17), none, 5, [], false⟩,
⟨some 3, .mov (.c (.bool false)), none, 0, [], false⟩])
.ret)
.skip))
(.reg false [
⟨some 18, .mov (.t 5), none, 0, [], false⟩,
⟨some 19, .idxAddr (some 256) 1 (.t 2) (.t 18), none, 0, [], false⟩,
⟨none, .store 1 (.t 19) (.c (.bool true)), none, 5, [], false⟩]))))
(.reg false [
⟨some 10, .mov (.t 4), none, 0, [], false⟩,
⟨some 11, .bin .add .no (.t 10) (.c (.int .i64 1)), none, 0, [], false⟩,
⟨some 4, .mov (.t 11), none, 0, [], false⟩]))))))
(.seq
(.reg false [
⟨some 20, .load true 256 (.t 2), none, 1, [], false⟩,
⟨none, .store 256 (.t 2) (.t 20), none, 5, [], false⟩,
⟨some 3, .mov (.c (.bool true)), none, 0, [], false⟩])
.ret))), 0, true⟩
def af66 : AFunc := ⟨4, [.tmp 4],
  (.seq
(.reg false [
⟨some 4, .mov (.c (.str [])), none, 0, [], false⟩])
(.seq
(.block 0
(.loop [0, 1]
(.seq
(.seq
(.reg false [
⟨some 5, .mov (.t 0), none, 0, [], false⟩,
⟨some 6, .len .str (.t 5), none, 0, [], false⟩,
⟨some 7, .bin .gtr .no (.t 6) (.c (.int .i64 0)), none, 0, [], false⟩])
(.cond (.t 7)
.skip
(.exit 0)))
(.block 1
(.seq
(.seq
(.reg false [
⟨some 8, .mov (.t 1), none, 0, [], false⟩,
⟨some 9, .mov (.t 0), none, 0, [], false⟩,
⟨some 10, .idxStr (.t 9) (.c (.int .i64 0)), none, 0, [], false⟩,
⟨some 11, .call (.f 84) [.t 8, .t 10], none, 5, [], false⟩,
⟨some 12, .un .not (.t 11), none, 0, [], false⟩])
(.cond (.t 12)
(.exit 0)
.skip))
(.reg false [
⟨some 13, .mov (.t 0), none, 0, [], false⟩,
⟨some 14, .slice .str 1 (.t 13) (some (.c (.int .i64 1))) none none, none, 1, [], false⟩,
⟨some 0, .mov (.t 14), none, 0, [], false⟩]))))))
(.seq
(.reg false [
⟨some 15, .mov (.t 0), none, 0, [], false⟩,
⟨some 4, .mov (.t 15), none, 0, [], false⟩])
.ret))), 2, true⟩
def af67 : AFunc := ⟨5, [.tmp 4],
  (.seq
(.reg false [
⟨some 4, .mov (.c (.str [])), none, 0, [], false⟩])
(.seq
(.block 0
(.loop [0, 1]
(.seq
(.seq
(.reg false [
⟨some 5, .mov (.t 0), none, 0, [], false⟩,
⟨some 6, .len .str (.t 5), none, 0, [], false⟩,
⟨some 7, .bin .gtr .no (.t 6) (.c (.int .i64 0)), none, 0, [], false⟩])
(.cond (.t 7)
.skip
(.exit 0)))
(.block 1
(.seq
(.seq
(.reg false [
⟨some 8, .mov (.t 1), none, 0, [], false⟩,
⟨some 9, .mov (.t 0), none, 0, [], false⟩,
⟨some 10, .mov (.t 0), none, 0, [], false⟩,
⟨some 11, .len .str (.t 10), none, 0, [], false⟩,
⟨some 12, .bin .sub .no (.t 11) (.c (.int .i64 1)), none, 0, [], false⟩,
⟨some 13, .idxStr (.t 9) (.t 12), none, 0, [], false⟩,
⟨some 14, .call (.f 84) [.t 8, .t 13], none, 5, [], false⟩,
⟨some 15, .un .not (.t 14), none, 0, [], false⟩])
(.cond (.t 15)
(.exit 0)
.skip))
(.reg false [
⟨some 16, .mov (.t 0), none, 0, [], false⟩,
⟨some 17, .mov (.t 0), none, 0, [], false⟩,
⟨some 18, .len .str (.t 17), none, 0, [], false⟩,
⟨some 19, .bin .sub .no (.t 18) (.c (.int .i64 1)), none, 0, [], false⟩,
⟨some 20, .slice .str 1 (.t 16) none (some (.t 19)) none, none, 1, [], false⟩,
⟨some 0, .mov (.t 20), none, 0, [], false⟩]))))))
(.seq
(.reg false [
⟨some 21, .mov (.t 0), none, 0, [], false⟩,
⟨some 4, .mov (.t 21), none, 0, [], false⟩])
.ret))), 2, true⟩
def af68 : AFunc := ⟨5, [.tmp 4],
  (.seq
(.reg false [
⟨some 4, .mov (.c (.str [])), none, 0, [], false⟩])
(.seq
(.block 0
(.loop [0, 1]
(.seq
(.seq
(.reg false [
⟨some 7, .mov (.t 0), none, 0, [], false⟩,
⟨some 8, .len .str (.t 7), none, 0, [], false⟩,
⟨some 9, .bin .gtr .no (.t 8) (.c (.int .i64 0)), none, 0, [], false⟩])
(.cond (.t 9)
.skip
(.exit 0)))
(.block 1
(.seq
(.reg false [
⟨some 11, .mov (.t 0), none, 0, [], false⟩,
⟨some 12, .call (.f 85) [.t 11], none, 3, [], false⟩,
⟨some 10, .mov (.t 12), none, 0, [], false⟩,
⟨some 13, .extract (.t 10) 0, none, 0, [], false⟩,
⟨some 14, .extract (.t 10) 1, none, 0, [], false⟩,
⟨some 5, .mov (.t 13), none, 0, [], false⟩,
⟨some 6, .mov (.t 14), none, 0, [], false⟩])
(.seq
(.seq
(.reg false [
⟨some 15, .mov (.t 1), none, 0, [], false⟩,
⟨some 16, .mov (.t 5), none, 0, [], false⟩,
⟨some 17, .call (.f 86) [.t 15, .t 16], none, 3, [], false⟩,
⟨some 18, .un .not (.t 17), none, 0, [], false⟩])
(.cond (.t 18)
(.exit 0)
.skip))
(.reg false [
⟨some 19, .mov (.t 0), none, 0, [], false⟩,
⟨some 20, .mov (.t 6), none, 0, [], false⟩,
⟨some 21, .slice .str 1 (.t 19) (some (.t 20)) none none, none, 1, [], false⟩,
⟨some 0, .mov (.t 21), none, 0, [], false⟩])))))))
(.seq
(.reg false [
⟨some 22, .mov (.t 0), none, 0, [], false⟩,
⟨some 4, .mov (.t 22), none, 0, [], false⟩])
.ret))), 0, true⟩
def af69 : AFunc := ⟨6, [.tmp 4],
  (.seq
(.reg false [
⟨some 4, .mov (.c (.str [])), none, 0, [], false⟩])
(.seq
(.block 0
(.loop [0, 1]
(.seq
(.seq
(.reg false [
⟨some 7, .mov (.t 0), none, 0, [], false⟩,
⟨some 8, .len .str (.t 7), none, 0, [], false⟩,
⟨some 9, .bin .gtr .no (.t 8) (.c (.int .i64 0)), none, 0, [], false⟩])
(.cond (.t 9)
.skip
(.exit 0)))
(.block 1
(.seq
(.reg false [
⟨some 10, .mov (.t 0), none, 0, [], false⟩,
⟨some 11, .mov (.t 0), none, 0, [], false⟩,
⟨some 12, .len .str (.t 11), none, 0, [], false⟩,
⟨some 13, .bin .sub .no (.t 12) (.c (.int .i64 1)), none, 0, [], false⟩,
⟨some 14, .idxStr (.t 10) (.t 13), none, 0, [], false⟩,
⟨some 15, .convI .i32 (.t 14), none, 0, [], false⟩,
⟨some 5, .mov (.t 15), none, 0, [], false⟩,
⟨some 6, .mov (.c (.int .i64 1)), none, 0, [], false⟩])
(.seq
(.seq
(.reg false [
⟨some 16, .mov (.t 5), none, 0, [], false⟩,
⟨some 17, .bin .geq .no (.t 16) (.c (.int .i32 128)), none, 0, [], false⟩])
(.cond (.t 17)
(.reg false [
⟨some 19, .mov (.t 0), none, 0, [], false⟩,
⟨some 20, .call (.f 87) [.t 19], none, 3, [], false⟩,
⟨some 18, .mov (.t 20), none, 0, [], false⟩,
⟨some 21, .extract (.t 18) 0, none, 0, [], false⟩,
⟨some 22, .extract (.t 18) 1, none, 0, [], false⟩,
⟨some 5, .mov (.t 21), none, 0, [], false⟩,
⟨some 6, .mov (.t 22), none, 0, [], false⟩])
.skip))
(.seq
(.seq
(.reg false [
⟨some 23, .mov (.t 1), none, 0, [], false⟩,
⟨some 24, .mov (.t 5), none, 0, [], false⟩,
⟨some 25, .call (.f 86) [.t 23, .t 24], none, 3, [], false⟩,
⟨some 26, .un .not (.t 25), none, 0, [], false⟩])
(.cond (.t 26)
(.exit 0)
.skip))
(.reg false [
⟨some 27, .mov (.t 0), none, 0, [], false⟩,
⟨some 28, .mov (.t 0), none, 0, [], false⟩,
⟨some 29, .len .str (.t 28), none, 0, [], false⟩,
⟨some 30, .mov (.t 6), none, 0, [], false⟩,
⟨some 31, .bin .sub .no (.t 29) (.t 30), none, 0, [], false⟩,
⟨some 32, .slice .str 1 (.t 27) none (some (.t 31)) none, none, 1, [], false⟩,
⟨some 0, .mov (.t 32), none, 0, [], false⟩]))))))))
(.seq
(.reg false [
⟨some 33, .mov (.t 0), none, 0, [], false⟩,
⟨some 4, .mov (.t 33), none, 0, [], false⟩])
.ret))), 0, true⟩
def af70 : AFunc := ⟨6, [],
  (.seq
(.reg false [
⟨some 10, .mov (.t 1), none, 0, [], false⟩,
⟨some 11, .bin .add .no (.t 10) (.c (.int .i64 1)), none, 0, [], false⟩,
⟨some 8, .mov (.t 11), none, 0, [], false⟩])
(.block 0
(.loop [0, 1, 2, 3, 8]
(.seq
(.seq
(.reg false [
⟨some 12, .mov (.t 8), none, 0, [], false⟩,
⟨some 13, .mov (.t 2), none, 0, [], false⟩,
⟨some 14, .bin .lss .no (.t 12) (.t 13), none, 0, [], false⟩])
(.cond (.t 14)
.skip
(.exit 0)))
(.seq
(.block 1
(.seq
(.reg false [
⟨some 17, .mov (.t 8), none, 0, [], false⟩,
⟨some 9, .mov (.t 17), none, 0, [], false⟩])
(.block 2
(.loop [0, 1, 2, 3, 8, 9]
(.seq
(.seq
(.reg true [
⟨some 18, .mov (.t 9), none, 0, [], false⟩,
⟨some 19, .mov (.t 1), none, 0, [], false⟩,
⟨some 20, .bin .gtr .no (.t 18) (.t 19), none, 0, [], false⟩,
⟨some 21, .mov (.t 20), none, 0, [], false⟩,
⟨some 22, .mov (.t 3), some (21, true), 0, [], false⟩,
⟨some 23, .mov (.t 0), some (21, true), 0, [], false⟩,
⟨some 24, .mov (.t 9), some (21, true), 0, [], false⟩,
⟨some 25, .idxAddr none 2 (.t 23) (.t 24), some (21, true), 0, [], false⟩,
⟨some 26, .load true 2 (.t 25), some (21, true), 1, [], false⟩,
⟨some 27, .mov (.t 0), some (21, true), 0, [], false⟩,
⟨some 28, .mov (.t 9), some (21, true), 0, [], false⟩,
⟨some 29, .bin .sub .no (.t 28) (.c (.int .i64 1)), some (21, true), 0, [], false⟩,
⟨some 30, .idxAddr none 2 (.t 27) (.t 29), some (21, true), 0, [], false⟩,
⟨some 31, .load true 2 (.t 30), some (21, true), 1, [], false⟩,
⟨some 32, .call (.t 22) [.t 26, .t 31], some (21, true), 5, [], false⟩,
⟨some 33, .bin .lss .no (.t 32) (.c (.int .i64 0)), some (21, true), 0, [], false⟩,
⟨some 34, .pick (.t 21) (.t 33) (.c (.bool false)), none, 0, [], false⟩])
(.cond (.t 34)
.skip
(.exit 2)))
(.seq
(.block 3
(.reg true [
⟨some 37, .mov (.t 0), none, 0, [], false⟩,
⟨some 38, .mov (.t 9), none, 0, [], false⟩,
⟨some 39, .mov (.t 0), none, 0, [], false⟩,
⟨some 40, .mov (.t 9), none, 0, [], false⟩,
⟨some 41, .bin .sub .no (.t 40) (.c (.int .i64 1)), none, 0, [], false⟩,
⟨some 42, .mov (.t 0), none, 0, [], false⟩,
⟨some 43, .mov (.t 9), none, 0, [], false⟩,
⟨some 44, .bin .sub .no (.t 43) (.c (.int .i64 1)), none, 0, [], false⟩,
⟨some 45, .idxAddr none 2 (.t 42) (.t 44), none, 0, [], false⟩,
⟨some 46, .load true 2 (.t 45), none, 1, [], false⟩,
⟨some 47, .mov (.t 0), none, 0, [], false⟩,
⟨some 48, .mov (.t 9), none, 0, [], false⟩,
⟨some 49, .idxAddr none 2 (.t 47) (.t 48), none, 0, [], false⟩,
⟨some 50, .load true 2 (.t 49), none, 1, [], false⟩,
⟨some 51, .idxAddr none 2 (.t 37) (.t 38), none, 0, [], false⟩,
⟨none, .store 2 (.t 51) (.t 46), none, 5, [], false⟩,
⟨some 52, .idxAddr none 2 (.t 39) (.t 41), none, 0, [], false⟩,
⟨none, .store 2 (.t 52) (.t 50), none, 5, [], false⟩]))
(.reg false [
⟨some 35, .mov (.t 9), none, 0, [], false⟩,
⟨some 36, .bin .sub .no (.t 35) (.c (.int .i64 1)), none, 0, [], false⟩,
⟨some 9, .mov (.t 36), none, 0, [], false⟩])))))))
(.reg false [
⟨some 15, .mov (.t 8), none, 0, [], false⟩,
⟨some 16, .bin .add .no (.t 15) (.c (.int .i64 1)), none, 0, [], false⟩,
⟨some 8, .mov (.t 16), none, 0, [], false⟩])))))), 2, true⟩
def af71 : AFunc := ⟨6, [],
  (.seq
(.reg false [
⟨some 13, .mov (.t 1), none, 0, [], false⟩,
⟨some 8, .mov (.t 13), none, 0, [], false⟩])
(.seq
(.reg false [
⟨some 9, .mov (.c (.int .i64 0)), none, 0, [], false⟩])
(.seq
(.reg false [
⟨some 14, .mov (.t 2), none, 0, [], false⟩,
⟨some 15, .mov (.t 1), none, 0, [], false⟩,
⟨some 16, .bin .sub .no (.t 14) (.t 15), none, 0, [], false⟩,
⟨some 10, .mov (.t 16), none, 0, [], false⟩])
(.seq
(.seq
(.reg false [
⟨some 17, .mov (.t 10), none, 0, [], false⟩,
⟨some 18, .bin .sub .no (.t 17) (.c (.int .i64 1)), none, 0, [], false⟩,
⟨some 19, .bin .quo .no (.t 18) (.c (.int .i64 2)), none, 0, [], false⟩,
⟨some 11, .mov (.t 19), none, 0, [], false⟩])
(.block 0
(.loop [0, 3, 8, 9, 10, 11]
(.seq
(.seq
(.reg false [
⟨some 20, .mov (.t 11), none, 0, [], false⟩,
⟨some 21, .bin .geq .no (.t 20) (.c (.int .i64 0)), none, 0, [], false⟩])
(.cond (.t 21)
.skip
(.exit 0)))
(.seq
(.block 1
(.reg false [
⟨some 24, .mov (.t 0), none, 0, [], false⟩,
⟨some 25, .mov (.t 11), none, 0, [], false⟩,
⟨some 26, .mov (.t 10), none, 0, [], false⟩,
⟨some 27, .mov (.t 8), none, 0, [], false⟩,
⟨some 28, .mov (.t 3), none, 0, [], false⟩,
⟨some 29, .call (.f 88) [.t 24, .t 25, .t 26, .t 27, .t 28], none, 5, [], false⟩]))
(.reg false [
⟨some 22, .mov (.t 11), none, 0, [], false⟩,
⟨some 23, .bin .sub .no (.t 22) (.c (.int .i64 1)), none, 0, [], false⟩,
⟨some 11, .mov (.t 23), none, 0, [], false⟩]))))))
(.seq
(.reg false [
⟨some 30, .mov (.t 10), none, 0, [], false⟩,
⟨some 31, .bin .sub .no (.t 30) (.c (.int .i64 1)), none, 0, [], false⟩,
⟨some 12, .mov (.t 31), none, 0, [], false⟩])
(.block 2
(.loop [0, 3, 8, 9, 12]
(.seq
(.seq
(.reg false [
⟨some 32, .mov (.t 12), none, 0, [], false⟩,
⟨some 33, .bin .geq .no (.t 32) (.c (.int .i64 0)), none, 0, [], false⟩])
(.cond (.t 33)
.skip
(.exit 2)))
(.seq
(.block 3
(.seq
(.reg true [
⟨some 36, .mov (.t 0), none, 0, [], false⟩,
⟨some 37, .mov (.t 8), none, 0, [], false⟩,
⟨some 38, .mov (.t 0), none, 0, [], false⟩,
⟨some 39, .mov (.t 8), none, 0, [], false⟩,
⟨some 40, .mov (.t 12), none, 0, [], false⟩,
⟨some 41, .bin .add .no (.t 39) (.t 40), none, 0, [], false⟩,
⟨some 42, .mov (.t 0), none, 0, [], false⟩,
⟨some 43, .mov (.t 8), none, 0, [], false⟩,
⟨some 44, .mov (.t 12), none, 0, [], false⟩,
⟨some 45, .bin .add .no (.t 43) (.t 44), none, 0, [], false⟩,
⟨some 46, .idxAddr none 2 (.t 42) (.t 45), none, 0, [], false⟩,
⟨some 47, .load true 2 (.t 46), none, 1, [], false⟩,
⟨some 48, .mov (.t 0), none, 0, [], false⟩,
⟨some 49, .mov (.t 8), none, 0, [], false⟩,
⟨some 50, .idxAddr none 2 (.t 48) (.t 49), none, 0, [], false⟩,
⟨some 51, .load true 2 (.t 50), none, 1, [], false⟩,
⟨some 52, .idxAddr none 2 (.t 36) (.t 37), none, 0, [], false⟩,
⟨none, .store 2 (.t 52) (.t 47), none, 5, [], false⟩,
⟨some 53, .idxAddr none 2 (.t 38) (.t 41), none, 0, [], false⟩,
⟨none, .store 2 (.t 53) (.t 51), none, 5, [], false⟩])
(.reg false [
⟨some 54, .mov (.t 0), none, 0, [], false⟩,
⟨some 55, .mov (.t 9), none, 0, [], false⟩,
⟨some 56, .mov (.t 12), none, 0, [], false⟩,
⟨some 57, .mov (.t 8), none, 0, [], false⟩,
⟨some 58, .mov (.t 3), none, 0, [], false⟩,
⟨some 59, .call (.f 88) [.t 54, .t 55, .t 56, .t 57, .t 58], none, 5, [], false⟩])))
(.reg false [
⟨some 34, .mov (.t 12), none, 0, [], false⟩,
⟨some 35, .bin .sub .no (.t 34) (.c (.int .i64 1)), none, 0, [], false⟩,
⟨some 12, .mov (.t 35), none, 0, [], false⟩])))))))))), 2, true⟩
def af72 : AFunc := ⟨7, [],
  (.seq
(.reg false [
⟨some 13, .mov (.t 2), none, 0, [], false⟩,
⟨some 14, .mov (.t 1), none, 0, [], false⟩,
⟨some 15, .bin .sub .no (.t 13) (.t 14), none, 0, [], false⟩,
⟨some 8, .mov (.t 15), none, 0, [], false⟩])
(.seq
(.reg false [
⟨some 16, .mov (.t 8), none, 0, [], false⟩,
⟨some 17, .bin .geq .no (.t 16) (.c (.int .i64 8)), none, 0, [], false⟩])
(.cond (.t 17)
(.seq
(.reg false [
⟨some 18, .mov (.t 8), none, 0, [], false⟩,
⟨some 19, .convI .u64 (.t 18), none, 0, [], false⟩,
⟨some 9, .new [.int .u64 0] 128, none, 2, [], false⟩,
⟨none, .store 1 (.t 9) (.t 19), none, 5, [], false⟩])
(.seq
(.reg false [
⟨some 20, .mov (.t 8), none, 0, [], false⟩,
⟨some 21, .call (.f 80) [.t 20], none, 3, [], false⟩,
⟨some 10, .mov (.t 21), none, 0, [], false⟩])
(.seq
(.reg false [
⟨some 22, .mov (.t 1), none, 0, [], false⟩,
⟨some 23, .mov (.t 8), none, 0, [], false⟩,
⟨some 24, .bin .quo .no (.t 23) (.c (.int .i64 4)), none, 0, [], false⟩,
⟨some 25, .bin .mul .no (.t 24) (.c (.int .i64 2)), none, 0, [], false⟩,
⟨some 26, .bin .add .no (.t 22) (.t 25), none, 0, [], false⟩,
⟨some 27, .bin .sub .no (.t 26) (.c (.int .i64 1)), none, 0, [], false⟩,
⟨some 11, .mov (.t 27), none, 0, [], false⟩])
(.block 0
(.loop [0, 1, 8, 9, 10, 11]
(.seq
(.seq
(.reg false [
⟨some 28, .mov (.t 11), none, 0, [], false⟩,
⟨some 29, .mov (.t 1), none, 0, [], false⟩,
⟨some 30, .mov (.t 8), none, 0, [], false⟩,
⟨some 31, .bin .quo .no (.t 30) (.c (.int .i64 4)), none, 0, [], false⟩,
⟨some 32, .bin .mul .no (.t 31) (.c (.int .i64 2)), none, 0, [], false⟩,
⟨some 33, .bin .add .no (.t 29) (.t 32), none, 0, [], false⟩,
⟨some 34, .bin .add .no (.t 33) (.c (.int .i64 1)), none, 0, [], false⟩,
⟨some 35, .bin .leq .no (.t 28) (.t 34), none, 0, [], false⟩])
(.cond (.t 35)
.skip
(.exit 0)))
(.seq
(.block 1
(.seq
(.reg false [
⟨some 38, .call (.f 81) [.t 9], none, 5, [], false⟩,
⟨some 39, .mov (.t 10), none, 0, [], false⟩,
⟨some 40, .bin .sub .no (.t 39) (.c (.int .u64 1)), none, 0, [], false⟩,
⟨some 41, .bin .and .no (.t 38) (.t 40), none, 0, [], false⟩,
⟨some 42, .convI .i64 (.t 41), none, 0, [], false⟩,
⟨some 12, .mov (.t 42), none, 0, [], false⟩])
(.seq
(.seq
(.reg false [
⟨some 43, .mov (.t 12), none, 0, [], false⟩,
⟨some 44, .mov (.t 8), none, 0, [], false⟩,
⟨some 45, .bin .geq .no (.t 43) (.t 44), none, 0, [], false⟩])
(.cond (.t 45)
(.reg false [
⟨some 46, .mov (.t 12), none, 0, [], false⟩,
⟨some 47, .mov (.t 8), none, 0, [], false⟩,
⟨some 48, .bin .sub .no (.t 46) (.t 47), none, 0, [], false⟩,
⟨some 12, .mov (.t 48), none, 0, [], false⟩])
.skip))
(.reg true [
⟨some 49, .mov (.t 0), none, 0, [], false⟩,
⟨some 50, .mov (.t 11), none, 0, [], false⟩,
⟨some 51, .mov (.t 0), none, 0, [], false⟩,
⟨some 52, .mov (.t 1), none, 0, [], false⟩,
⟨some 53, .mov (.t 12), none, 0, [], false⟩,
⟨some 54, .bin .add .no (.t 52) (.t 53), none, 0, [], false⟩,
⟨some 55, .mov (.t 0), none, 0, [], false⟩,
⟨some 56, .mov (.t 1), none, 0, [], false⟩,
⟨some 57, .mov (.t 12), none, 0, [], false⟩,
⟨some 58, .bin .add .no (.t 56) (.t 57), none, 0, [], false⟩,
⟨some 59, .idxAddr none 2 (.t 55) (.t 58), none, 0, [], false⟩,
⟨some 60, .load true 2 (.t 59), none, 1, [], false⟩,
⟨some 61, .mov (.t 0), none, 0, [], false⟩,
⟨some 62, .mov (.t 11), none, 0, [], false⟩,
⟨some 63, .idxAddr none 2 (.t 61) (.t 62), none, 0, [], false⟩,
⟨some 64, .load true 2 (.t 63), none, 1, [], false⟩,
⟨some 65, .idxAddr none 2 (.t 49) (.t 50), none, 0, [], false⟩,
⟨none, .store 2 (.t 65) (.t 60), none, 5, [], false⟩,
⟨some 66, .idxAddr none 2 (.t 51) (.t 54), none, 0, [], false⟩,
⟨none, .store 2 (.t 66) (.t 64), none, 5, [], false⟩]))))
(.reg false [
⟨some 36, .mov (.t 11), none, 0, [], false⟩,
⟨some 37, .bin .add .no (.t 36) (.c (.int .i64 1)), none, 0, [], false⟩,
⟨some 11, .mov (.t 37), none, 0, [], false⟩]))))))))
.skip))), 2, true⟩
def af73 : AFunc := ⟨6, [.tmp 8, .tmp 9],
  (.seq
(.reg false [
⟨some 8, .mov (.c (.int .i64 0)), none, 0, [], false⟩,
⟨some 9, .mov (.c (.int .i64 0)), none, 0, [], false⟩])
(.seq
(.reg false [
⟨some 15, .mov (.t 2), none, 0, [], false⟩,
⟨some 16, .mov (.t 1), none, 0, [], false⟩,
⟨some 17, .bin .sub .no (.t 15) (.t 16), none, 0, [], false⟩,
⟨some 10, .mov (.t 17), none, 0, [], false⟩])
(.seq
(.reg false [
⟨some 11, .new [.int .i64 0] 3, none, 2, [], false⟩])
(.seq
(.reg false [
⟨some 18, .mov (.t 1), none, 0, [], false⟩,
⟨some 19, .mov (.t 10), none, 0, [], false⟩,
⟨some 20, .bin .quo .no (.t 19) (.c (.int .i64 4)), none, 0, [], false⟩,
⟨some 21, .bin .mul .no (.t 20) (.c (.int .i64 1)), none, 0, [], false⟩,
⟨some 22, .bin .add .no (.t 18) (.t 21), none, 0, [], false⟩,
⟨some 12, .mov (.t 22), none, 0, [], false⟩])
(.seq
(.reg false [
⟨some 23, .mov (.t 1), none, 0, [], false⟩,
⟨some 24, .mov (.t 10), none, 0, [], false⟩,
⟨some 25, .bin .quo .no (.t 24) (.c (.int .i64 4)), none, 0, [], false⟩,
⟨some 26, .bin .mul .no (.t 25) (.c (.int .i64 2)), none, 0, [], false⟩,
⟨some 27, .bin .add .no (.t 23) (.t 26), none, 0, [], false⟩,
⟨some 13, .mov (.t 27), none, 0, [], false⟩])
(.seq
(.reg false [
⟨some 28, .mov (.t 1), none, 0, [], false⟩,
⟨some 29, .mov (.t 10), none, 0, [], false⟩,
⟨some 30, .bin .quo .no (.t 29) (.c (.int .i64 4)), none, 0, [], false⟩,
⟨some 31, .bin .mul .no (.t 30) (.c (.int .i64 3)), none, 0, [], false⟩,
⟨some 32, .bin .add .no (.t 28) (.t 31), none, 0, [], false⟩,
⟨some 14, .mov (.t 32), none, 0, [], false⟩])
(.seq
(.seq
(.reg false [
⟨some 33, .mov (.t 10), none, 0, [], false⟩,
⟨some 34, .bin .geq .no (.t 33) (.c (.int .i64 8)), none, 0, [], false⟩])
(.cond (.t 34)
(.seq
(.seq
(.reg false [
⟨some 35, .mov (.t 10), none, 0, [], false⟩,
⟨some 36, .bin .geq .no (.t 35) (.c (.int .i64 50)), none, 0, [], false⟩])
(.cond (.t 36)
(.seq
(.reg false [
⟨some 37, .mov (.t 0), none, 0, [], false⟩,
⟨some 38, .mov (.t 12), none, 0, [], false⟩,
⟨some 39, .mov (.t 3), none, 0, [], false⟩,
⟨some 40, .call (.f 89) [.t 37, .t 38, .t 11, .t 39], none, 5, [], false⟩,
⟨some 12, .mov (.t 40), none, 0, [], false⟩])
(.seq
(.reg false [
⟨some 41, .mov (.t 0), none, 0, [], false⟩,
⟨some 42, .mov (.t 13), none, 0, [], false⟩,
⟨some 43, .mov (.t 3), none, 0, [], false⟩,
⟨some 44, .call (.f 89) [.t 41, .t 42, .t 11, .t 43], none, 5, [], false⟩,
⟨some 13, .mov (.t 44), none, 0, [], false⟩])
(.reg false [
⟨some 45, .mov (.t 0), none, 0, [], false⟩,
⟨some 46, .mov (.t 14), none, 0, [], false⟩,
⟨some 47, .mov (.t 3), none, 0, [], false⟩,
⟨some 48, .call (.f 89) [.t 45, .t 46, .t 11, .t 47], none, 5, [], false⟩,
⟨some 14, .mov (.t 48), none, 0, [], false⟩])))
.skip))
(.reg false [
⟨some 49, .mov (.t 0), none, 0, [], false⟩,
⟨some 50, .mov (.t 12), none, 0, [], false⟩,
⟨some 51, .mov (.t 13), none, 0, [], false⟩,
⟨some 52, .mov (.t 14), none, 0, [], false⟩,
⟨some 53, .mov (.t 3), none, 0, [], false⟩,
⟨some 54, .call (.f 90) [.t 49, .t 50, .t 51, .t 52, .t 11, .t 53], none, 5, [], false⟩,
⟨some 13, .mov (.t 54), none, 0, [], false⟩]))
.skip))
(.seq
(.reg false [
⟨some 55, .load false 1 (.t 11), none, 1, [], false⟩])
(.block 0
(.seq
(.reg false [
⟨some 58, .bin .eql .int (.t 55) (.c (.int .i64 0)), none, 0, [], false⟩,
⟨some 57, .mov (.t 58), none, 0, [], false⟩])
(.cond (.t 57)
(.seq
(.reg false [
⟨some 59, .mov (.t 13), none, 0, [], false⟩,
⟨some 8, .mov (.t 59), none, 0, [], false⟩,
⟨some 9, .mov (.c (.int .i64 1)), none, 0, [], false⟩])
.ret)
(.seq
(.reg false [
⟨some 61, .bin .eql .int (.t 55) (.c (.int .i64 12)), none, 0, [], false⟩,
⟨some 60, .mov (.t 61), none, 0, [], false⟩])
(.cond (.t 60)
(.seq
(.reg false [
⟨some 62, .mov (.t 13), none, 0, [], false⟩,
⟨some 8, .mov (.t 62), none, 0, [], false⟩,
⟨some 9, .mov (.c (.int .i64 2)), none, 0, [], false⟩])
.ret)
(.seq
(.reg false [
⟨some 56, .mov (.t 13), none, 0, [], false⟩,
⟨some 8, .mov (.t 56), none, 0, [], false⟩,
⟨some 9, .mov (.c (.int .i64 0)), none, 0, [], false⟩])
.ret)))))))))))))), 2, true⟩
def af74 : AFunc := ⟨6, [],
  (.seq
(.reg false [
⟨some 10, .mov (.t 1), none, 0, [], false⟩,
⟨some 8, .mov (.t 10), none, 0, [], false⟩])
(.seq
(.reg false [
⟨some 11, .mov (.t 2), none, 0, [], false⟩,
⟨some 12, .bin .sub .no (.t 11) (.c (.int .i64 1)), none, 0, [], false⟩,
⟨some 9, .mov (.t 12), none, 0, [], false⟩])
(.block 0
(.loop [0, 8, 9]
(.seq
(.seq
(.reg false [
⟨some 13, .mov (.t 8), none, 0, [], false⟩,
⟨some 14, .mov (.t 9), none, 0, [], false⟩,
⟨some 15, .bin .lss .no (.t 13) (.t 14), none, 0, [], false⟩])
(.cond (.t 15)
.skip
(.exit 0)))
(.block 1
(.seq
(.reg true [
⟨some 16, .mov (.t 0), none, 0, [], false⟩,
⟨some 17, .mov (.t 8), none, 0, [], false⟩,
⟨some 18, .mov (.t 0), none, 0, [], false⟩,
⟨some 19, .mov (.t 9), none, 0, [], false⟩,
⟨some 20, .mov (.t 0), none, 0, [], false⟩,
⟨some 21, .mov (.t 9), none, 0, [], false⟩,
⟨some 22, .idxAddr none 2 (.t 20) (.t 21), none, 0, [], false⟩,
⟨some 23, .load true 2 (.t 22), none, 1, [], false⟩,
⟨some 24, .mov (.t 0), none, 0, [], false⟩,
⟨some 25, .mov (.t 8), none, 0, [], false⟩,
⟨some 26, .idxAddr none 2 (.t 24) (.t 25), none, 0, [], false⟩,
⟨some 27, .load true 2 (.t 26), none, 1, [], false⟩,
⟨some 28, .idxAddr none 2 (.t 16) (.t 17), none, 0, [], false⟩,
⟨none, .store 2 (.t 28) (.t 23), none, 5, [], false⟩,
⟨some 29, .idxAddr none 2 (.t 18) (.t 19), none, 0, [], false⟩,
⟨none, .store 2 (.t 29) (.t 27), none, 5, [], false⟩])
(.seq
(.reg false [
⟨some 30, .mov (.t 8), none, 0, [], false⟩,
⟨some 31, .bin .add .no (.t 30) (.c (.int .i64 1)), none, 0, [], false⟩,
⟨some 8, .mov (.t 31), none, 0, [], false⟩])
(.reg false [
⟨some 32, .mov (.t 9), none, 0, [], false⟩,
⟨some 33, .bin .sub .no (.t 32) (.c (.int .i64 1)), none, 0, [], false⟩,
⟨some 9, .mov (.t 33), none, 0, [], false⟩]))))))))), 2, true⟩
def af75 : AFunc := ⟨8, [.tmp 8],
  (.seq
(.reg false [
⟨some 8, .mov (.c (.bool false)), none, 0, [], false⟩])
(.seq
(.reg false [
⟨some 13, .mov (.t 1), none, 0, [], false⟩,
⟨some 14, .bin .add .no (.t 13) (.c (.int .i64 1)), none, 0, [], false⟩,
⟨some 9, .mov (.t 14), none, 0, [], false⟩])
(.seq
(.seq
(.reg false [
⟨some 10, .mov (.c (.int .i64 0)), none, 0, [], false⟩])
(.block 0
(.loop [0, 1, 2, 3, 9, 10]
(.seq
(.seq
(.reg false [
⟨some 15, .mov (.t 10), none, 0, [], false⟩,
⟨some 16, .bin .lss .no (.t 15) (.c (.int .i64 5)), none, 0, [], false⟩])
(.cond (.t 16)
.skip
(.exit 0)))
(.seq
(.block 1
(.seq
(.block 2
(.loop [0, 1, 2, 3, 9, 10]
(.seq
(.seq
(.reg true [
⟨some 19, .mov (.t 9), none, 0, [], false⟩,
⟨some 20, .mov (.t 2), none, 0, [], false⟩,
⟨some 21, .bin .lss .no (.t 19) (.t 20), none, 0, [], false⟩,
⟨some 22, .mov (.t 21), none, 0, [], false⟩,
⟨some 23, .mov (.t 3), some (22, true), 0, [], false⟩,
⟨some 24, .mov (.t 0), some (22, true), 0, [], false⟩,
⟨some 25, .mov (.t 9), some (22, true), 0, [], false⟩,
⟨some 26, .idxAddr none 2 (.t 24) (.t 25), some (22, true), 0, [], false⟩,
⟨some 27, .load true 2 (.t 26), some (22, true), 1, [], false⟩,
⟨some 28, .mov (.t 0), some (22, true), 0, [], false⟩,
⟨some 29, .mov (.t 9), some (22, true), 0, [], false⟩,
⟨some 30, .bin .sub .no (.t 29) (.c (.int .i64 1)), some (22, true), 0, [], false⟩,
⟨some 31, .idxAddr none 2 (.t 28) (.t 30), some (22, true), 0, [], false⟩,
⟨some 32, .load true 2 (.t 31), some (22, true), 1, [], false⟩,
⟨some 33, .call (.t 23) [.t 27, .t 32], some (22, true), 5, [], false⟩,
⟨some 34, .bin .lss .no (.t 33) (.c (.int .i64 0)), some (22, true), 0, [], false⟩,
⟨some 35, .un .not (.t 34), some (22, true), 0, [], false⟩,
⟨some 36, .pick (.t 22) (.t 35) (.c (.bool false)), none, 0, [], false⟩])
(.cond (.t 36)
.skip
(.exit 2)))
(.block 3
(.reg false [
⟨some 37, .mov (.t 9), none, 0, [], false⟩,
⟨some 38, .bin .add .no (.t 37) (.c (.int .i64 1)), none, 0, [], false⟩,
⟨some 9, .mov (.t 38), none, 0, [], false⟩])))))
(.seq
(.seq
(.reg false [
⟨some 39, .mov (.t 9), none, 0, [], false⟩,
⟨some 40, .mov (.t 2), none, 0, [], false⟩,
⟨some 41, .bin .eql .int (.t 39) (.t 40), none, 0, [], false⟩])
(.cond (.t 41)
(.seq
(.reg false [
⟨some 8, .mov (.c (.bool true)), none, 0, [], false⟩])
.ret)
.skip))
(.seq
(.seq
(.reg false [
⟨some 42, .mov (.t 2), none, 0, [], false⟩,
⟨some 43, .mov (.t 1), none, 0, [], false⟩,
⟨some 44, .bin .sub .no (.t 42) (.t 43), none, 0, [], false⟩,
⟨some 45, .bin .lss .no (.t 44) (.c (.int .i64 50)), none, 0, [], false⟩])
(.cond (.t 45)
(.seq
(.reg false [
⟨some 8, .mov (.c (.bool false)), none, 0, [], false⟩])
.ret)
.skip))
(.seq
(.reg true [
⟨some 46, .mov (.t 0), none, 0, [], false⟩,
⟨some 47, .mov (.t 9), none, 0, [], false⟩,
⟨some 48, .mov (.t 0), none, 0, [], false⟩,
⟨some 49, .mov (.t 9), none, 0, [], false⟩,
⟨some 50, .bin .sub .no (.t 49) (.c (.int .i64 1)), none, 0, [], false⟩,
⟨some 51, .mov (.t 0), none, 0, [], false⟩,
⟨some 52, .mov (.t 9), none, 0, [], false⟩,
⟨some 53, .bin .sub .no (.t 52) (.c (.int .i64 1)), none, 0, [], false⟩,
⟨some 54, .idxAddr none 2 (.t 51) (.t 53), none, 0, [], false⟩,
⟨some 55, .load true 2 (.t 54), none, 1, [], false⟩,
⟨some 56, .mov (.t 0), none, 0, [], false⟩,
⟨some 57, .mov (.t 9), none, 0, [], false⟩,
⟨some 58, .idxAddr none 2 (.t 56) (.t 57), none, 0, [], false⟩,
⟨some 59, .load true 2 (.t 58), none, 1, [], false⟩,
⟨some 60, .idxAddr none 2 (.t 46) (.t 47), none, 0, [], false⟩,
⟨none, .store 2 (.t 60) (.t 55), none, 5, [], false⟩,
⟨some 61, .idxAddr none 2 (.t 48) (.t 50), none, 0, [], false⟩,
⟨none, .store 2 (.t 61) (.t 59), none, 5, [], false⟩])
(.seq
(.seq
(.reg false [
⟨some 62, .mov (.t 9), none, 0, [], false⟩,
⟨some 63, .mov (.t 1), none, 0, [], false⟩,
⟨some 64, .bin .sub .no (.t 62) (.t 63), none, 0, [], false⟩,
⟨some 65, .bin .geq .no (.t 64) (.c (.int .i64 2)), none, 0, [], false⟩])
(.cond (.t 65)
(.seq
(.reg false [
⟨some 66, .mov (.t 9), none, 0, [], false⟩,
⟨some 67, .bin .sub .no (.t 66) (.c (.int .i64 1)), none, 0, [], false⟩,
⟨some 11, .mov (.t 67), none, 0, [], false⟩])
(.block 4
(.loop [0, 1, 2, 3, 9, 10, 11]
(.seq
(.seq
(.reg false [
⟨some 68, .mov (.t 11), none, 0, [], false⟩,
⟨some 69, .bin .geq .no (.t 68) (.c (.int .i64 1)), none, 0, [], false⟩])
(.cond (.t 69)
.skip
(.exit 4)))
(.seq
(.block 5
(.seq
(.seq
(.reg true [
⟨some 72, .mov (.t 3), none, 0, [], false⟩,
⟨some 73, .mov (.t 0), none, 0, [], false⟩,
⟨some 74, .mov (.t 11), none, 0, [], false⟩,
⟨some 75, .idxAddr none 2 (.t 73) (.t 74), none, 0, [], false⟩,
⟨some 76, .load true 2 (.t 75), none, 1, [], false⟩,
⟨some 77, .mov (.t 0), none, 0, [], false⟩,
⟨some 78, .mov (.t 11), none, 0, [], false⟩,
⟨some 79, .bin .sub .no (.t 78) (.c (.int .i64 1)), none, 0, [], false⟩,
⟨some 80, .idxAddr none 2 (.t 77) (.t 79), none, 0, [], false⟩,
⟨some 81, .load true 2 (.t 80), none, 1, [], false⟩,
⟨some 82, .call (.t 72) [.t 76, .t 81], none, 5, [], false⟩,
⟨some 83, .bin .lss .no (.t 82) (.c (.int .i64 0)), none, 0, [], false⟩,
⟨some 84, .un .not (.t 83), none, 0, [], false⟩])
(.cond (.t 84)
(.exit 4)
.skip))
(.reg true [
⟨some 85, .mov (.t 0), none, 0, [], false⟩,
⟨some 86, .mov (.t 11), none, 0, [], false⟩,
⟨some 87, .mov (.t 0), none, 0, [], false⟩,
⟨some 88, .mov (.t 11), none, 0, [], false⟩,
⟨some 89, .bin .sub .no (.t 88) (.c (.int .i64 1)), none, 0, [], false⟩,
⟨some 90, .mov (.t 0), none, 0, [], false⟩,
⟨some 91, .mov (.t 11), none, 0, [], false⟩,
⟨some 92, .bin .sub .no (.t 91) (.c (.int .i64 1)), none, 0, [], false⟩,
⟨some 93, .idxAddr none 2 (.t 90) (.t 92), none, 0, [], false⟩,
⟨some 94, .load true 2 (.t 93), none, 1, [], false⟩,
⟨some 95, .mov (.t 0), none, 0, [], false⟩,
⟨some 96, .mov (.t 11), none, 0, [], false⟩,
⟨some 97, .idxAddr none 2 (.t 95) (.t 96), none, 0, [], false⟩,
⟨some 98, .load true 2 (.t 97), none, 1, [], false⟩,
⟨some 99, .idxAddr none 2 (.t 85) (.t 86), none, 0, [], false⟩,
⟨none, .store 2 (.t 99) (.t 94), none, 5, [], false⟩,
⟨some 100, .idxAddr none 2 (.t 87) (.t 89), none, 0, [], false⟩,
⟨none, .store 2 (.t 100) (.t 98), none, 5, [], false⟩])))
(.reg false [
⟨some 70, .mov (.t 11), none, 0, [], false⟩,
⟨some 71, .bin .sub .no (.t 70) (.c (.int .i64 1)), none, 0, [], false⟩,
⟨some 11, .mov (.t 71), none, 0, [], false⟩]))))))
.skip))
(.seq
(.reg false [
⟨some 101, .mov (.t 2), none, 0, [], false⟩,
⟨some 102, .mov (.t 9), none, 0, [], false⟩,
⟨some 103, .bin .sub .no (.t 101) (.t 102), none, 0, [], false⟩,
⟨some 104, .bin .geq .no (.t 103) (.c (.int .i64 2)), none, 0, [], false⟩])
(.cond (.t 104)
(.seq
(.reg false [
⟨some 105, .mov (.t 9), none, 0, [], false⟩,
⟨some 106, .bin .add .no (.t 105) (.c (.int .i64 1)), none, 0, [], false⟩,
⟨some 12, .mov (.t 106), none, 0, [], false⟩])
(.block 6
(.loop [0, 1, 2, 3, 9, 10, 12]
(.seq
(.seq
(.reg false [
⟨some 107, .mov (.t 12), none, 0, [], false⟩,
⟨some 108, .mov (.t 2), none, 0, [], false⟩,
⟨some 109, .bin .lss .no (.t 107) (.t 108), none, 0, [], false⟩])
(.cond (.t 109)
.skip
(.exit 6)))
(.seq
(.block 7
(.seq
(.seq
(.reg true [
⟨some 112, .mov (.t 3), none, 0, [], false⟩,
⟨some 113, .mov (.t 0), none, 0, [], false⟩,
⟨some 114, .mov (.t 12), none, 0, [], false⟩,
⟨some 115, .idxAddr none 2 (.t 113) (.t 114), none, 0, [], false⟩,
⟨some 116, .load true 2 (.t 115), none, 1, [], false⟩,
⟨some 117, .mov (.t 0), none, 0, [], false⟩,
⟨some 118, .mov (.t 12), none, 0, [], false⟩,
⟨some 119, .bin .sub .no (.t 118) (.c (.int .i64 1)), none, 0, [], false⟩,
⟨some 120, .idxAddr none 2 (.t 117) (.t 119), none, 0, [], false⟩,
⟨some 121, .load true 2 (.t 120), none, 1, [], false⟩,
⟨some 122, .call (.t 112) [.t 116, .t 121], none, 5, [], false⟩,
⟨some 123, .bin .lss .no (.t 122) (.c (.int .i64 0)), none, 0, [], false⟩,
⟨some 124, .un .not (.t 123), none, 0, [], false⟩])
(.cond (.t 124)
(.exit 6)
.skip))
(.reg true [
⟨some 125, .mov (.t 0), none, 0, [], false⟩,
⟨some 126, .mov (.t 12), none, 0, [], false⟩,
⟨some 127, .mov (.t 0), none, 0, [], false⟩,
⟨some 128, .mov (.t 12), none, 0, [], false⟩,
⟨some 129, .bin .sub .no (.t 128) (.c (.int .i64 1)), none, 0, [], false⟩,
⟨some 130, .mov (.t 0), none, 0, [], false⟩,
⟨some 131, .mov (.t 12), none, 0, [], false⟩,
⟨some 132, .bin .sub .no (.t 131) (.c (.int .i64 1)), none, 0, [], false⟩,
⟨some 133, .idxAddr none 2 (.t 130) (.t 132), none, 0, [], false⟩,
⟨some 134, .load true 2 (.t 133), none, 1, [], false⟩,
⟨some 135, .mov (.t 0), none, 0, [], false⟩,
⟨some 136, .mov (.t 12), none, 0, [], false⟩,
⟨some 137, .idxAddr none 2 (.t 135) (.t 136), none, 0, [], false⟩,
⟨some 138, .load true 2 (.t 137), none, 1, [], false⟩,
⟨some 139, .idxAddr none 2 (.t 125) (.t 126), none, 0, [], false⟩,
⟨none, .store 2 (.t 139) (.t 134), none, 5, [], false⟩,
⟨some 140, .idxAddr none 2 (.t 127) (.t 129), none, 0, [], false⟩,
⟨none, .store 2 (.t 140) (.t 138), none, 5, [], false⟩])))
(.reg false [
⟨some 110, .mov (.t 12), none, 0, [], false⟩,
⟨some 111, .bin .add .no (.t 110) (.c (.int .i64 1)), none, 0, [], false⟩,
⟨some 12, .mov (.t 111), none, 0, [], false⟩]))))))
.skip))))))))
(.reg false [
⟨some 17, .mov (.t 10), none, 0, [], false⟩,
⟨some 18, .bin .add .no (.t 17) (.c (.int .i64 1)), none, 0, [], false⟩,
⟨some 10, .mov (.t 18), none, 0, [], false⟩]))))))
(.seq
(.reg false [
⟨some 8, .mov (.c (.bool false)), none, 0, [], false⟩])
.ret)))), 2, true⟩
def af76 : AFunc := ⟨7, [.tmp 10],
  (.seq
(.reg false [
⟨some 10, .mov (.c (.int .i64 0)), none, 0, [], false⟩])
(.seq
(.reg true [
⟨some 13, .mov (.t 0), none, 0, [], false⟩,
⟨some 14, .mov (.t 1), none, 0, [], false⟩,
⟨some 15, .mov (.t 0), none, 0, [], false⟩,
⟨some 16, .mov (.t 3), none, 0, [], false⟩,
⟨some 17, .mov (.t 0), none, 0, [], false⟩,
⟨some 18, .mov (.t 3), none, 0, [], false⟩,
⟨some 19, .idxAddr none 2 (.t 17) (.t 18), none, 0, [], false⟩,
⟨some 20, .load true 2 (.t 19), none, 1, [], false⟩,
⟨some 21, .mov (.t 0), none, 0, [], false⟩,
⟨some 22, .mov (.t 1), none, 0, [], false⟩,
⟨some 23, .idxAddr none 2 (.t 21) (.t 22), none, 0, [], false⟩,
⟨some 24, .load true 2 (.t 23), none, 1, [], false⟩,
⟨some 25, .idxAddr none 2 (.t 13) (.t 14), none, 0, [], false⟩,
⟨none, .store 2 (.t 25) (.t 20), none, 5, [], false⟩,
⟨some 26, .idxAddr none 2 (.t 15) (.t 16), none, 0, [], false⟩,
⟨none, .store 2 (.t 26) (.t 24), none, 5, [], false⟩])
(.seq
(.reg false [
⟨some 27, .mov (.t 1), none, 0, [], false⟩,
⟨some 28, .bin .add .no (.t 27) (.c (.int .i64 1)), none, 0, [], false⟩,
⟨some 29, .mov (.t 2), none, 0, [], false⟩,
⟨some 30, .bin .sub .no (.t 29) (.c (.int .i64 1)), none, 0, [], false⟩,
⟨some 11, .mov (.t 28), none, 0, [], false⟩,
⟨some 12, .mov (.t 30), none, 0, [], false⟩])
(.seq
(.block 0
(.loop [0, 1, 4, 11, 12]
(.block 1
(.seq
(.block 2
(.loop [0, 1, 4, 11, 12]
(.seq
(.seq
(.reg true [
⟨some 31, .mov (.t 11), none, 0, [], false⟩,
⟨some 32, .mov (.t 12), none, 0, [], false⟩,
⟨some 33, .bin .leq .no (.t 31) (.t 32), none, 0, [], false⟩,
⟨some 34, .mov (.t 33), none, 0, [], false⟩,
⟨some 35, .mov (.t 4), some (34, true), 0, [], false⟩,
⟨some 36, .mov (.t 0), some (34, true), 0, [], false⟩,
⟨some 37, .mov (.t 1), some (34, true), 0, [], false⟩,
⟨some 38, .idxAddr none 2 (.t 36) (.t 37), some (34, true), 0, [], false⟩,
⟨some 39, .load true 2 (.t 38), some (34, true), 1, [], false⟩,
⟨some 40, .mov (.t 0), some (34, true), 0, [], false⟩,
⟨some 41, .mov (.t 11), some (34, true), 0, [], false⟩,
⟨some 42, .idxAddr none 2 (.t 40) (.t 41), some (34, true), 0, [], false⟩,
⟨some 43, .load true 2 (.t 42), some (34, true), 1, [], false⟩,
⟨some 44, .call (.t 35) [.t 39, .t 43], some (34, true), 5, [], false⟩,
⟨some 45, .bin .lss .no (.t 44) (.c (.int .i64 0)), some (34, true), 0, [], false⟩,
⟨some 46, .un .not (.t 45), some (34, true), 0, [], false⟩,
⟨some 47, .pick (.t 34) (.t 46) (.c (.bool false)), none, 0, [], false⟩])
(.cond (.t 47)
.skip
(.exit 2)))
(.block 3
(.reg false [
⟨some 48, .mov (.t 11), none, 0, [], false⟩,
⟨some 49, .bin .add .no (.t 48) (.c (.int .i64 1)), none, 0, [], false⟩,
⟨some 11, .mov (.t 49), none, 0, [], false⟩])))))
(.seq
(.block 4
(.loop [0, 1, 4, 11, 12]
(.seq
(.seq
(.reg true [
⟨some 50, .mov (.t 11), none, 0, [], false⟩,
⟨some 51, .mov (.t 12), none, 0, [], false⟩,
⟨some 52, .bin .leq .no (.t 50) (.t 51), none, 0, [], false⟩,
⟨some 53, .mov (.t 52), none, 0, [], false⟩,
⟨some 54, .mov (.t 4), some (53, true), 0, [], false⟩,
⟨some 55, .mov (.t 0), some (53, true), 0, [], false⟩,
⟨some 56, .mov (.t 1), some (53, true), 0, [], false⟩,
⟨some 57, .idxAddr none 2 (.t 55) (.t 56), some (53, true), 0, [], false⟩,
⟨some 58, .load true 2 (.t 57), some (53, true), 1, [], false⟩,
⟨some 59, .mov (.t 0), some (53, true), 0, [], false⟩,
⟨some 60, .mov (.t 12), some (53, true), 0, [], false⟩,
⟨some 61, .idxAddr none 2 (.t 59) (.t 60), some (53, true), 0, [], false⟩,
⟨some 62, .load true 2 (.t 61), some (53, true), 1, [], false⟩,
⟨some 63, .call (.t 54) [.t 58, .t 62], some (53, true), 5, [], false⟩,
⟨some 64, .bin .lss .no (.t 63) (.c (.int .i64 0)), some (53, true), 0, [], false⟩,
⟨some 65, .pick (.t 53) (.t 64) (.c (.bool false)), none, 0, [], false⟩])
(.cond (.t 65)
.skip
(.exit 4)))
(.block 5
(.reg false [
⟨some 66, .mov (.t 12), none, 0, [], false⟩,
⟨some 67, .bin .sub .no (.t 66) (.c (.int .i64 1)), none, 0, [], false⟩,
⟨some 12, .mov (.t 67), none, 0, [], false⟩])))))
(.seq
(.seq
(.reg false [
⟨some 68, .mov (.t 11), none, 0, [], false⟩,
⟨some 69, .mov (.t 12), none, 0, [], false⟩,
⟨some 70, .bin .gtr .no (.t 68) (.t 69), none, 0, [], false⟩])
(.cond (.t 70)
(.exit 0)
.skip))
(.seq
(.reg true [
⟨some 71, .mov (.t 0), none, 0, [], false⟩,
⟨some 72, .mov (.t 11), none, 0, [], false⟩,
⟨some 73, .mov (.t 0), none, 0, [], false⟩,
⟨some 74, .mov (.t 12), none, 0, [], false⟩,
⟨some 75, .mov (.t 0), none, 0, [], false⟩,
⟨some 76, .mov (.t 12), none, 0, [], false⟩,
⟨some 77, .idxAddr none 2 (.t 75) (.t 76), none, 0, [], false⟩,
⟨some 78, .load true 2 (.t 77), none, 1, [], false⟩,
⟨some 79, .mov (.t 0), none, 0, [], false⟩,
⟨some 80, .mov (.t 11), none, 0, [], false⟩,
⟨some 81, .idxAddr none 2 (.t 79) (.t 80), none, 0, [], false⟩,
⟨some 82, .load true 2 (.t 81), none, 1, [], false⟩,
⟨some 83, .idxAddr none 2 (.t 71) (.t 72), none, 0, [], false⟩,
⟨none, .store 2 (.t 83) (.t 78), none, 5, [], false⟩,
⟨some 84, .idxAddr none 2 (.t 73) (.t 74), none, 0, [], false⟩,
⟨none, .store 2 (.t 84) (.t 82), none, 5, [], false⟩])
(.seq
(.reg false [
⟨some 85, .mov (.t 11), none, 0, [], false⟩,
⟨some 86, .bin .add .no (.t 85) (.c (.int .i64 1)), none, 0, [], false⟩,
⟨some 11, .mov (.t 86), none, 0, [], false⟩])
(.reg false [
⟨some 87, .mov (.t 12), none, 0, [], false⟩,
⟨some 88, .bin .sub .no (.t 87) (.c (.int .i64 1)), none, 0, [], false⟩,
⟨some 12, .mov (.t 88), none, 0, [], false⟩])))))))))
(.seq
(.reg false [
⟨some 89, .mov (.t 11), none, 0, [], false⟩,
⟨some 10, .mov (.t 89), none, 0, [], false⟩])
.ret))))), 2, true⟩
def af77 : AFunc := ⟨8, [.tmp 10, .tmp 11],
  (.seq
(.reg false [
⟨some 10, .mov (.c (.int .i64 0)), none, 0, [], false⟩,
⟨some 11, .mov (.c (.bool false)), none, 0, [], false⟩])
(.seq
(.reg true [
⟨some 14, .mov (.t 0), none, 0, [], false⟩,
⟨some 15, .mov (.t 1), none, 0, [], false⟩,
⟨some 16, .mov (.t 0), none, 0, [], false⟩,
⟨some 17, .mov (.t 3), none, 0, [], false⟩,
⟨some 18, .mov (.t 0), none, 0, [], false⟩,
⟨some 19, .mov (.t 3), none, 0, [], false⟩,
⟨some 20, .idxAddr none 2 (.t 18) (.t 19), none, 0, [], false⟩,
⟨some 21, .load true 2 (.t 20), none, 1, [], false⟩,
⟨some 22, .mov (.t 0), none, 0, [], false⟩,
⟨some 23, .mov (.t 1), none, 0, [], false⟩,
⟨some 24, .idxAddr none 2 (.t 22) (.t 23), none, 0, [], false⟩,
⟨some 25, .load true 2 (.t 24), none, 1, [], false⟩,
⟨some 26, .idxAddr none 2 (.t 14) (.t 15), none, 0, [], false⟩,
⟨none, .store 2 (.t 26) (.t 21), none, 5, [], false⟩,
⟨some 27, .idxAddr none 2 (.t 16) (.t 17), none, 0, [], false⟩,
⟨none, .store 2 (.t 27) (.t 25), none, 5, [], false⟩])
(.seq
(.reg false [
⟨some 28, .mov (.t 1), none, 0, [], false⟩,
⟨some 29, .bin .add .no (.t 28) (.c (.int .i64 1)), none, 0, [], false⟩,
⟨some 30, .mov (.t 2), none, 0, [], false⟩,
⟨some 31, .bin .sub .no (.t 30) (.c (.int .i64 1)), none, 0, [], false⟩,
⟨some 12, .mov (.t 29), none, 0, [], false⟩,
⟨some 13, .mov (.t 31), none, 0, [], false⟩])
(.seq
(.block 0
(.loop [0, 1, 4, 12, 13]
(.seq
(.seq
(.reg true [
⟨some 32, .mov (.t 12), none, 0, [], false⟩,
⟨some 33, .mov (.t 13), none, 0, [], false⟩,
⟨some 34, .bin .leq .no (.t 32) (.t 33), none, 0, [], false⟩,
⟨some 35, .mov (.t 34), none, 0, [], false⟩,
⟨some 36, .mov (.t 4), some (35, true), 0, [], false⟩,
⟨some 37, .mov (.t 0), some (35, true), 0, [], false⟩,
⟨some 38, .mov (.t 12), some (35, true), 0, [], false⟩,
⟨some 39, .idxAddr none 2 (.t 37) (.t 38), some (35, true), 0, [], false⟩,
⟨some 40, .load true 2 (.t 39), some (35, true), 1, [], false⟩,
⟨some 41, .mov (.t 0), some (35, true), 0, [], false⟩,
⟨some 42, .mov (.t 1), some (35, true), 0, [], false⟩,
⟨some 43, .idxAddr none 2 (.t 41) (.t 42), some (35, true), 0, [], false⟩,
⟨some 44, .load true 2 (.t 43), some (35, true), 1, [], false⟩,
⟨some 45, .call (.t 36) [.t 40, .t 44], some (35, true), 5, [], false⟩,
⟨some 46, .bin .lss .no (.t 45) (.c (.int .i64 0)), some (35, true), 0, [], false⟩,
⟨some 47, .pick (.t 35) (.t 46) (.c (.bool false)), none, 0, [], false⟩])
(.cond (.t 47)
.skip
(.exit 0)))
(.block 1
(.reg false [
⟨some 48, .mov (.t 12), none, 0, [], false⟩,
⟨some 49, .bin .add .no (.t 48) (.c (.int .i64 1)), none, 0, [], false⟩,
⟨some 12, .mov (.t 49), none, 0, [], false⟩])))))
(.seq
(.block 2
(.loop [0, 1, 4, 12, 13]
(.seq
(.seq
(.reg true [
⟨some 50, .mov (.t 12), none, 0, [], false⟩,
⟨some 51, .mov (.t 13), none, 0, [], false⟩,
⟨some 52, .bin .leq .no (.t 50) (.t 51), none, 0, [], false⟩,
⟨some 53, .mov (.t 52), none, 0, [], false⟩,
⟨some 54, .mov (.t 4), some (53, true), 0, [], false⟩,
⟨some 55, .mov (.t 0), some (53, true), 0, [], false⟩,
⟨some 56, .mov (.t 13), some (53, true), 0, [], false⟩,
⟨some 57, .idxAddr none 2 (.t 55) (.t 56), some (53, true), 0, [], false⟩,
⟨some 58, .load true 2 (.t 57), some (53, true), 1, [], false⟩,
⟨some 59, .mov (.t 0), some (53, true), 0, [], false⟩,
⟨some 60, .mov (.t 1), some (53, true), 0, [], false⟩,
⟨some 61, .idxAddr none 2 (.t 59) (.t 60), some (53, true), 0, [], false⟩,
⟨some 62, .load true 2 (.t 61), some (53, true), 1, [], false⟩,
⟨some 63, .call (.t 54) [.t 58, .t 62], some (53, true), 5, [], false⟩,
⟨some 64, .bin .lss .no (.t 63) (.c (.int .i64 0)), some (53, true), 0, [], false⟩,
⟨some 65, .un .not (.t 64), some (53, true), 0, [], false⟩,
⟨some 66, .pick (.t 53) (.t 65) (.c (.bool false)), none, 0, [], false⟩])
(.cond (.t 66)
.skip
(.exit 2)))
(.block 3
(.reg false [
⟨some 67, .mov (.t 13), none, 0, [], false⟩,
⟨some 68, .bin .sub .no (.t 67) (.c (.int .i64 1)), none, 0, [], false⟩,
⟨some 13, .mov (.t 68), none, 0, [], false⟩])))))
(.seq
(.seq
(.reg false [
⟨some 69, .mov (.t 12), none, 0, [], false⟩,
⟨some 70, .mov (.t 13), none, 0, [], false⟩,
⟨some 71, .bin .gtr .no (.t 69) (.t 70), none, 0, [], false⟩])
(.cond (.t 71)
(.seq
(.reg true [
⟨some 72, .mov (.t 0), none, 0, [], false⟩,
⟨some 73, .mov (.t 13), none, 0, [], false⟩,
⟨some 74, .mov (.t 0), none, 0, [], false⟩,
⟨some 75, .mov (.t 1), none, 0, [], false⟩,
⟨some 76, .mov (.t 0), none, 0, [], false⟩,
⟨some 77, .mov (.t 1), none, 0, [], false⟩,
⟨some 78, .idxAddr none 2 (.t 76) (.t 77), none, 0, [], false⟩,
⟨some 79, .load true 2 (.t 78), none, 1, [], false⟩,
⟨some 80, .mov (.t 0), none, 0, [], false⟩,
⟨some 81, .mov (.t 13), none, 0, [], false⟩,
⟨some 82, .idxAddr none 2 (.t 80) (.t 81), none, 0, [], false⟩,
⟨some 83, .load true 2 (.t 82), none, 1, [], false⟩,
⟨some 84, .idxAddr none 2 (.t 72) (.t 73), none, 0, [], false⟩,
⟨none, .store 2 (.t 84) (.t 79), none, 5, [], false⟩,
⟨some 85, .idxAddr none 2 (.t 74) (.t 75), none, 0, [], false⟩,
⟨none, .store 2 (.t 85) (.t 83), none, 5, [], false⟩])
(.seq
(.reg false [
⟨some 86, .mov (.t 13), none, 0, [], false⟩,
⟨some 10, .mov (.t 86), none, 0, [], false⟩,
⟨some 11, .mov (.c (.bool true)), none, 0, [], false⟩])
.ret))
.skip))
(.seq
(.reg true [
⟨some 87, .mov (.t 0), none, 0, [], false⟩,
⟨some 88, .mov (.t 12), none, 0, [], false⟩,
⟨some 89, .mov (.t 0), none, 0, [], false⟩,
⟨some 90, .mov (.t 13), none, 0, [], false⟩,
⟨some 91, .mov (.t 0), none, 0, [], false⟩,
⟨some 92, .mov (.t 13), none, 0, [], false⟩,
⟨some 93, .idxAddr none 2 (.t 91) (.t 92), none, 0, [], false⟩,
⟨some 94, .load true 2 (.t 93), none, 1, [], false⟩,
⟨some 95, .mov (.t 0), none, 0, [], false⟩,
⟨some 96, .mov (.t 12), none, 0, [], false⟩,
⟨some 97, .idxAddr none 2 (.t 95) (.t 96), none, 0, [], false⟩,
⟨some 98, .load true 2 (.t 97), none, 1, [], false⟩,
⟨some 99, .idxAddr none 2 (.t 87) (.t 88), none, 0, [], false⟩,
⟨none, .store 2 (.t 99) (.t 94), none, 5, [], false⟩,
⟨some 100, .idxAddr none 2 (.t 89) (.t 90), none, 0, [], false⟩,
⟨none, .store 2 (.t 100) (.t 98), none, 5, [], false⟩])
(.seq
(.reg false [
⟨some 101, .mov (.t 12), none, 0, [], false⟩,
⟨some 102, .bin .add .no (.t 101) (.c (.int .i64 1)), none, 0, [], false⟩,
⟨some 12, .mov (.t 102), none, 0, [], false⟩])
(.seq
(.reg false [
⟨some 103, .mov (.t 13), none, 0, [], false⟩,
⟨some 104, .bin .sub .no (.t 103) (.c (.int .i64 1)), none, 0, [], false⟩,
⟨some 13, .mov (.t 104), none, 0, [], false⟩])
(.seq
(.block 4
(.loop [0, 1, 4, 12, 13]
(.block 5
(.seq
(.block 6
(.loop [0, 1, 4, 12, 13]
(.seq
(.seq
(.reg true [
⟨some 105, .mov (.t 12), none, 0, [], false⟩,
⟨some 106, .mov (.t 13), none, 0, [], false⟩,
⟨some 107, .bin .leq .no (.t 105) (.t 106), none, 0, [], false⟩,
⟨some 108, .mov (.t 107), none, 0, [], false⟩,
⟨some 109, .mov (.t 4), some (108, true), 0, [], false⟩,
⟨some 110, .mov (.t 0), some (108, true), 0, [], false⟩,
⟨some 111, .mov (.t 12), some (108, true), 0, [], false⟩,
⟨some 112, .idxAddr none 2 (.t 110) (.t 111), some (108, true), 0, [], false⟩,
⟨some 113, .load true 2 (.t 112), some (108, true), 1, [], false⟩,
⟨some 114, .mov (.t 0), some (108, true), 0, [], false⟩,
⟨some 115, .mov (.t 1), some (108, true), 0, [], false⟩,
⟨some 116, .idxAddr none 2 (.t 114) (.t 115), some (108, true), 0, [], false⟩,
⟨some 117, .load true 2 (.t 116), some (108, true), 1, [], false⟩,
⟨some 118, .call (.t 109) [.t 113, .t 117], some (108, true), 5, [], false⟩,
⟨some 119, .bin .lss .no (.t 118) (.c (.int .i64 0)), some (108, true), 0, [], false⟩,
⟨some 120, .pick (.t 108) (.t 119) (.c (.bool false)), none, 0, [], false⟩])
(.cond (.t 120)
.skip
(.exit 6)))
(.block 7
(.reg false [
⟨some 121, .mov (.t 12), none, 0, [], false⟩,
⟨some 122, .bin .add .no (.t 121) (.c (.int .i64 1)), none, 0, [], false⟩,
⟨some 12, .mov (.t 122), none, 0, [], false⟩])))))
(.seq
(.block 8
(.loop [0, 1, 4, 12, 13]
(.seq
(.seq
(.reg true [
⟨some 123, .mov (.t 12), none, 0, [], false⟩,
⟨some 124, .mov (.t 13), none, 0, [], false⟩,
⟨some 125, .bin .leq .no (.t 123) (.t 124), none, 0, [], false⟩,
⟨some 126, .mov (.t 125), none, 0, [], false⟩,
⟨some 127, .mov (.t 4), some (126, true), 0, [], false⟩,
⟨some 128, .mov (.t 0), some (126, true), 0, [], false⟩,
⟨some 129, .mov (.t 13), some (126, true), 0, [], false⟩,
⟨some 130, .idxAddr none 2 (.t 128) (.t 129), some (126, true), 0, [], false⟩,
⟨some 131, .load true 2 (.t 130), some (126, true), 1, [], false⟩,
⟨some 132, .mov (.t 0), some (126, true), 0, [], false⟩,
⟨some 133, .mov (.t 1), some (126, true), 0, [], false⟩,
⟨some 134, .idxAddr none 2 (.t 132) (.t 133), some (126, true), 0, [], false⟩,
⟨some 135, .load true 2 (.t 134), some (126, true), 1, [], false⟩,
⟨some 136, .call (.t 127) [.t 131, .t 135], some (126, true), 5, [], false⟩,
⟨some 137, .bin .lss .no (.t 136) (.c (.int .i64 0)), some (126, true), 0, [], false⟩,
⟨some 138, .un .not (.t 137), some (126, true), 0, [], false⟩,
⟨some 139, .pick (.t 126) (.t 138) (.c (.bool false)), none, 0, [], false⟩])
(.cond (.t 139)
.skip
(.exit 8)))
(.block 9
(.reg false [
⟨some 140, .mov (.t 13), none, 0, [], false⟩,
⟨some 141, .bin .sub .no (.t 140) (.c (.int .i64 1)), none, 0, [], false⟩,
⟨some 13, .mov (.t 141), none, 0, [], false⟩])))))
(.seq
(.seq
(.reg false [
⟨some 142, .mov (.t 12), none, 0, [], false⟩,
⟨some 143, .mov (.t 13), none, 0, [], false⟩,
⟨some 144, .bin .gtr .no (.t 142) (.t 143), none, 0, [], false⟩])
(.cond (.t 144)
(.exit 4)
.skip))
(.seq
(.reg true [
⟨some 145, .mov (.t 0), none, 0, [], false⟩,
⟨some 146, .mov (.t 12), none, 0, [], false⟩,
⟨some 147, .mov (.t 0), none, 0, [], false⟩,
⟨some 148, .mov (.t 13), none, 0, [], false⟩,
⟨some 149, .mov (.t 0), none, 0, [], false⟩,
⟨some 150, .mov (.t 13), none, 0, [], false⟩,
⟨some 151, .idxAddr none 2 (.t 149) (.t 150), none, 0, [], false⟩,
⟨some 152, .load true 2 (.t 151), none, 1, [], false⟩,
⟨some 153, .mov (.t 0), none, 0, [], false⟩,
⟨some 154, .mov (.t 12), none, 0, [], false⟩,
⟨some 155, .idxAddr none 2 (.t 153) (.t 154), none, 0, [], false⟩,
⟨some 156, .load true 2 (.t 155), none, 1, [], false⟩,
⟨some 157, .idxAddr none 2 (.t 145) (.t 146), none, 0, [], false⟩,
⟨none, .store 2 (.t 157) (.t 152), none, 5, [], false⟩,
⟨some 158, .idxAddr none 2 (.t 147) (.t 148), none, 0, [], false⟩,
⟨none, .store 2 (.t 158) (.t 156), none, 5, [], false⟩])
(.seq
(.reg false [
⟨some 159, .mov (.t 12), none, 0, [], false⟩,
⟨some 160, .bin .add .no (.t 159) (.c (.int .i64 1)), none, 0, [], false⟩,
⟨some 12, .mov (.t 160), none, 0, [], false⟩])
(.reg false [
⟨some 161, .mov (.t 13), none, 0, [], false⟩,
⟨some 162, .bin .sub .no (.t 161) (.c (.int .i64 1)), none, 0, [], false⟩,
⟨some 13, .mov (.t 162), none, 0, [], false⟩])))))))))
(.seq
(.reg true [
⟨some 163, .mov (.t 0), none, 0, [], false⟩,
⟨some 164, .mov (.t 13), none, 0, [], false⟩,
⟨some 165, .mov (.t 0), none, 0, [], false⟩,
⟨some 166, .mov (.t 1), none, 0, [], false⟩,
⟨some 167, .mov (.t 0), none, 0, [], false⟩,
⟨some 168, .mov (.t 1), none, 0, [], false⟩,
⟨some 169, .idxAddr none 2 (.t 167) (.t 168), none, 0, [], false⟩,
⟨some 170, .load true 2 (.t 169), none, 1, [], false⟩,
⟨some 171, .mov (.t 0), none, 0, [], false⟩,
⟨some 172, .mov (.t 13), none, 0, [], false⟩,
⟨some 173, .idxAddr none 2 (.t 171) (.t 172), none, 0, [], false⟩,
⟨some 174, .load true 2 (.t 173), none, 1, [], false⟩,
⟨some 175, .idxAddr none 2 (.t 163) (.t 164), none, 0, [], false⟩,
⟨none, .store 2 (.t 175) (.t 170), none, 5, [], false⟩,
⟨some 176, .idxAddr none 2 (.t 165) (.t 166), none, 0, [], false⟩,
⟨none, .store 2 (.t 176) (.t 174), none, 5, [], false⟩])
(.seq
(.reg false [
⟨some 177, .mov (.t 13), none, 0, [], false⟩,
⟨some 10, .mov (.t 177), none, 0, [], false⟩,
⟨some 11, .mov (.c (.bool false)), none, 0, [], false⟩])
.ret)))))))))))), 2, true⟩
end Go.Eng.Seat37d
