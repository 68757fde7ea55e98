/- Functions of the translation as codes of the small machine, by program. Own text, no conditions. -/
import Derived.Test.YtipgjenjepooaaaDoorEa
namespace Go.Eng.Seat37d
set_option maxRecDepth 1000000
def af79 : AFunc := ⟨7, [],
  (.seq
(.reg false [
⟨some 12, .mov (.t 1), none, 0, [], false⟩,
⟨some 10, .mov (.t 12), none, 0, [], false⟩])
(.block 0
(.loop [0, 2, 3, 4, 10]
(.block 1
(.seq
(.reg false [
⟨some 13, .mov (.t 10), none, 0, [], false⟩,
⟨some 14, .bin .mul .no (.c (.int .i64 2)) (.t 13), none, 0, [], false⟩,
⟨some 15, .bin .add .no (.t 14) (.c (.int .i64 1)), none, 0, [], false⟩,
⟨some 11, .mov (.t 15), none, 0, [], false⟩])
(.seq
(.seq
(.reg false [
⟨some 16, .mov (.t 11), none, 0, [], false⟩,
⟨some 17, .mov (.t 2), none, 0, [], false⟩,
⟨some 18, .bin .geq .no (.t 16) (.t 17), none, 0, [], false⟩])
(.cond (.t 18)
(.exit 0)
.skip))
(.seq
(.seq
(.reg true [
⟨some 19, .mov (.t 11), none, 0, [], false⟩,
⟨some 20, .bin .add .no (.t 19) (.c (.int .i64 1)), none, 0, [], false⟩,
⟨some 21, .mov (.t 2), none, 0, [], false⟩,
⟨some 22, .bin .lss .no (.t 20) (.t 21), none, 0, [], false⟩,
⟨some 23, .mov (.t 22), none, 0, [], false⟩,
⟨some 24, .mov (.t 4), some (23, true), 0, [], false⟩,
⟨some 25, .mov (.t 0), some (23, true), 0, [], false⟩,
⟨some 26, .mov (.t 3), some (23, true), 0, [], false⟩,
⟨some 27, .mov (.t 11), some (23, true), 0, [], false⟩,
⟨some 28, .bin .add .no (.t 26) (.t 27), some (23, true), 0, [], false⟩,
⟨some 29, .idxAddr none 5 (.t 25) (.t 28), some (23, true), 0, [], false⟩,
⟨some 30, .load true 5 (.t 29), some (23, true), 1, [], false⟩,
⟨some 31, .mov (.t 0), some (23, true), 0, [], false⟩,
⟨some 32, .mov (.t 3), some (23, true), 0, [], false⟩,
⟨some 33, .mov (.t 11), some (23, true), 0, [], false⟩,
⟨some 34, .bin .add .no (.t 32) (.t 33), some (23, true), 0, [], false⟩,
⟨some 35, .bin .add .no (.t 34) (.c (.int .i64 1)), some (23, true), 0, [], false⟩,
⟨some 36, .idxAddr none 5 (.t 31) (.t 35), some (23, true), 0, [], false⟩,
⟨some 37, .load true 5 (.t 36), some (23, true), 1, [], false⟩,
⟨some 38, .call (.t 24) [.t 30, .t 37], some (23, true), 5, [], false⟩,
⟨some 39, .bin .lss .no (.t 38) (.c (.int .i64 0)), some (23, true), 0, [], false⟩,
⟨some 40, .pick (.t 23) (.t 39) (.c (.bool false)), none, 0, [], false⟩])
(.cond (.t 40)
(.reg false [
⟨some 41, .mov (.t 11), none, 0, [], false⟩,
⟨some 42, .bin .add .no (.t 41) (.c (.int .i64 1)), none, 0, [], false⟩,
⟨some 11, .mov (.t 42), none, 0, [], false⟩])
.skip))
(.seq
(.seq
(.reg true [
⟨some 43, .mov (.t 4), none, 0, [], false⟩,
⟨some 44, .mov (.t 0), none, 0, [], false⟩,
⟨some 45, .mov (.t 3), none, 0, [], false⟩,
⟨some 46, .mov (.t 10), none, 0, [], false⟩,
⟨some 47, .bin .add .no (.t 45) (.t 46), none, 0, [], false⟩,
⟨some 48, .idxAddr none 5 (.t 44) (.t 47), none, 0, [], false⟩,
⟨some 49, .load true 5 (.t 48), none, 1, [], false⟩,
⟨some 50, .mov (.t 0), none, 0, [], false⟩,
⟨some 51, .mov (.t 3), none, 0, [], false⟩,
⟨some 52, .mov (.t 11), none, 0, [], false⟩,
⟨some 53, .bin .add .no (.t 51) (.t 52), none, 0, [], false⟩,
⟨some 54, .idxAddr none 5 (.t 50) (.t 53), none, 0, [], false⟩,
⟨some 55, .load true 5 (.t 54), none, 1, [], false⟩,
⟨some 56, .call (.t 43) [.t 49, .t 55], none, 5, [], false⟩,
⟨some 57, .bin .lss .no (.t 56) (.c (.int .i64 0)), none, 0, [], false⟩,
⟨some 58, .un .not (.t 57), none, 0, [], false⟩])
(.cond (.t 58)
.ret
.skip))
(.seq
(.reg true [
⟨some 59, .mov (.t 0), none, 0, [], false⟩,
⟨some 60, .mov (.t 3), none, 0, [], false⟩,
⟨some 61, .mov (.t 10), none, 0, [], false⟩,
⟨some 62, .bin .add .no (.t 60) (.t 61), none, 0, [], false⟩,
⟨some 63, .mov (.t 0), none, 0, [], false⟩,
⟨some 64, .mov (.t 3), none, 0, [], false⟩,
⟨some 65, .mov (.t 11), none, 0, [], false⟩,
⟨some 66, .bin .add .no (.t 64) (.t 65), none, 0, [], false⟩,
⟨some 67, .mov (.t 0), none, 0, [], false⟩,
⟨some 68, .mov (.t 3), none, 0, [], false⟩,
⟨some 69, .mov (.t 11), none, 0, [], false⟩,
⟨some 70, .bin .add .no (.t 68) (.t 69), none, 0, [], false⟩,
⟨some 71, .idxAddr none 5 (.t 67) (.t 70), none, 0, [], false⟩,
⟨some 72, .load true 5 (.t 71), none, 1, [], false⟩,
⟨some 73, .mov (.t 0), none, 0, [], false⟩,
⟨some 74, .mov (.t 3), none, 0, [], false⟩,
⟨some 75, .mov (.t 10), none, 0, [], false⟩,
⟨some 76, .bin .add .no (.t 74) (.t 75), none, 0, [], false⟩,
⟨some 77, .idxAddr none 5 (.t 73) (.t 76), none, 0, [], false⟩,
⟨some 78, .load true 5 (.t 77), none, 1, [], false⟩,
⟨some 79, .idxAddr none 5 (.t 59) (.t 62), none, 0, [], false⟩,
⟨none, .store 5 (.t 79) (.t 72), none, 5, [], false⟩,
⟨some 80, .idxAddr none 5 (.t 63) (.t 66), none, 0, [], false⟩,
⟨none, .store 5 (.t 80) (.t 78), none, 5, [], false⟩])
(.reg false [
⟨some 81, .mov (.t 11), none, 0, [], false⟩,
⟨some 10, .mov (.t 81), none, 0, [], false⟩])))))))))), 2, true⟩
def af80 : AFunc := ⟨3, [.tmp 2],
  (.seq
(.reg false [
⟨some 2, .mov (.c (.int .u64 0)), none, 0, [], false⟩])
(.seq
(.reg false [
⟨some 3, .mov (.t 0), none, 0, [], false⟩,
⟨some 4, .convI .u64 (.t 3), none, 0, [], false⟩,
⟨some 5, .call (.f 42) [.t 4], none, 3, [], false⟩,
⟨some 6, .bin .shl .no (.c (.int .u64 1)) (.t 5), none, 0, [], false⟩,
⟨some 2, .mov (.t 6), none, 0, [], false⟩])
.ret)), 0, true⟩
def af81 : AFunc := ⟨6, [.tmp 2],
  (.seq
(.reg false [
⟨some 2, .mov (.c (.int .u64 0)), none, 0, [], false⟩])
(.seq
(.reg true [
⟨some 3, .mov (.t 0), none, 0, [], false⟩,
⟨some 4, .nilchk (.t 3), none, 0, [], false⟩,
⟨some 5, .load false 1 (.t 4), none, 1, [], false⟩,
⟨some 6, .mov (.t 0), none, 0, [], false⟩,
⟨some 7, .nilchk (.t 6), none, 0, [], false⟩,
⟨some 8, .load false 1 (.t 7), none, 1, [], false⟩,
⟨some 9, .bin .shl .no (.t 8) (.c (.int .u64 13)), none, 0, [], false⟩,
⟨some 10, .bin .xor .no (.t 5) (.t 9), none, 0, [], false⟩,
⟨some 11, .nilchk (.t 3), none, 0, [], false⟩,
⟨none, .store 1 (.t 11) (.t 10), none, 5, [], false⟩])
(.seq
(.reg true [
⟨some 12, .mov (.t 0), none, 0, [], false⟩,
⟨some 13, .nilchk (.t 12), none, 0, [], false⟩,
⟨some 14, .load false 1 (.t 13), none, 1, [], false⟩,
⟨some 15, .mov (.t 0), none, 0, [], false⟩,
⟨some 16, .nilchk (.t 15), none, 0, [], false⟩,
⟨some 17, .load false 1 (.t 16), none, 1, [], false⟩,
⟨some 18, .bin .shr .no (.t 17) (.c (.int .u64 7)), none, 0, [], false⟩,
⟨some 19, .bin .xor .no (.t 14) (.t 18), none, 0, [], false⟩,
⟨some 20, .nilchk (.t 12), none, 0, [], false⟩,
⟨none, .store 1 (.t 20) (.t 19), none, 5, [], false⟩])
(.seq
(.reg true [
⟨some 21, .mov (.t 0), none, 0, [], false⟩,
⟨some 22, .nilchk (.t 21), none, 0, [], false⟩,
⟨some 23, .load false 1 (.t 22), none, 1, [], false⟩,
⟨some 24, .mov (.t 0), none, 0, [], false⟩,
⟨some 25, .nilchk (.t 24), none, 0, [], false⟩,
⟨some 26, .load false 1 (.t 25), none, 1, [], false⟩,
⟨some 27, .bin .shl .no (.t 26) (.c (.int .u64 17)), none, 0, [], false⟩,
⟨some 28, .bin .xor .no (.t 23) (.t 27), none, 0, [], false⟩,
⟨some 29, .nilchk (.t 21), none, 0, [], false⟩,
⟨none, .store 1 (.t 29) (.t 28), none, 5, [], false⟩])
(.seq
(.reg false [
⟨some 30, .mov (.t 0), none, 0, [], false⟩,
⟨some 31, .nilchk (.t 30), none, 0, [], false⟩,
⟨some 32, .load false 1 (.t 31), none, 1, [], false⟩,
⟨some 2, .mov (.t 32), none, 0, [], false⟩])
.ret))))), 2, true⟩
def af82 : AFunc := ⟨5, [.tmp 8],
  (.seq
(.reg false [
⟨some 8, .mov (.c (.int .i64 0)), none, 0, [], false⟩])
(.seq
(.reg false [
⟨some 9, .mov (.t 0), none, 0, [], false⟩,
⟨some 10, .mov (.t 1), none, 0, [], false⟩,
⟨some 11, .bin .sub .no (.t 10) (.c (.int .i64 1)), none, 0, [], false⟩,
⟨some 12, .mov (.t 1), none, 0, [], false⟩,
⟨some 13, .mov (.t 1), none, 0, [], false⟩,
⟨some 14, .bin .add .no (.t 13) (.c (.int .i64 1)), none, 0, [], false⟩,
⟨some 15, .mov (.t 2), none, 0, [], false⟩,
⟨some 16, .mov (.t 3), none, 0, [], false⟩,
⟨some 17, .call (.f 83) [.t 9, .t 11, .t 12, .t 14, .t 15, .t 16], none, 5, [], false⟩,
⟨some 8, .mov (.t 17), none, 0, [], false⟩])
.ret)), 2, true⟩
def af83 : AFunc := ⟨6, [.tmp 12],
  (.seq
(.reg false [
⟨some 12, .mov (.c (.int .i64 0)), none, 0, [], false⟩])
(.seq
(.reg false [
⟨some 14, .mov (.t 0), none, 0, [], false⟩,
⟨some 15, .mov (.t 1), none, 0, [], false⟩,
⟨some 16, .mov (.t 2), none, 0, [], false⟩,
⟨some 17, .mov (.t 4), none, 0, [], false⟩,
⟨some 18, .mov (.t 5), none, 0, [], false⟩,
⟨some 19, .call (.f 91) [.t 14, .t 15, .t 16, .t 17, .t 18], none, 5, [], false⟩,
⟨some 13, .mov (.t 19), none, 0, [], false⟩,
⟨some 20, .extract (.t 13) 0, none, 0, [], false⟩,
⟨some 21, .extract (.t 13) 1, none, 0, [], false⟩,
⟨some 1, .mov (.t 20), none, 0, [], false⟩,
⟨some 2, .mov (.t 21), none, 0, [], false⟩])
(.seq
(.reg false [
⟨some 23, .mov (.t 0), none, 0, [], false⟩,
⟨some 24, .mov (.t 2), none, 0, [], false⟩,
⟨some 25, .mov (.t 3), none, 0, [], false⟩,
⟨some 26, .mov (.t 4), none, 0, [], false⟩,
⟨some 27, .mov (.t 5), none, 0, [], false⟩,
⟨some 28, .call (.f 91) [.t 23, .t 24, .t 25, .t 26, .t 27], none, 5, [], false⟩,
⟨some 22, .mov (.t 28), none, 0, [], false⟩,
⟨some 29, .extract (.t 22) 0, none, 0, [], false⟩,
⟨some 30, .extract (.t 22) 1, none, 0, [], false⟩,
⟨some 2, .mov (.t 29), none, 0, [], false⟩,
⟨some 3, .mov (.t 30), none, 0, [], false⟩])
(.seq
(.reg false [
⟨some 32, .mov (.t 0), none, 0, [], false⟩,
⟨some 33, .mov (.t 1), none, 0, [], false⟩,
⟨some 34, .mov (.t 2), none, 0, [], false⟩,
⟨some 35, .mov (.t 4), none, 0, [], false⟩,
⟨some 36, .mov (.t 5), none, 0, [], false⟩,
⟨some 37, .call (.f 91) [.t 32, .t 33, .t 34, .t 35, .t 36], none, 5, [], false⟩,
⟨some 31, .mov (.t 37), none, 0, [], false⟩,
⟨some 38, .extract (.t 31) 0, none, 0, [], false⟩,
⟨some 39, .extract (.t 31) 1, none, 0, [], false⟩,
⟨some 1, .mov (.t 38), none, 0, [], false⟩,
⟨some 2, .mov (.t 39), none, 0, [], false⟩])
(.seq
(.reg false [
⟨some 40, .mov (.t 2), none, 0, [], false⟩,
⟨some 12, .mov (.t 40), none, 0, [], false⟩])
.ret))))), 2, true⟩
def af84 : AFunc := ⟨4, [.tmp 4],
  (.seq
(.reg false [
⟨some 4, .mov (.c (.bool false)), none, 0, [], false⟩])
(.seq
(.reg false [
⟨some 5, .mov (.t 0), none, 0, [], false⟩,
⟨some 6, .mov (.t 1), none, 0, [], false⟩,
⟨some 7, .nilchk (.t 5), none, 0, [], false⟩,
⟨some 8, .idxAddr (some 256) 1 (.t 7) (.t 6), none, 0, [], false⟩,
⟨some 9, .load false 1 (.t 8), none, 1, [], false⟩,
⟨some 4, .mov (.t 9), none, 0, [], false⟩])
.ret)), 2, true⟩
def af85 : AFunc := ⟨5, [.tmp 2, .tmp 3],
  (.seq
(.reg false [
⟨some 2, .mov (.c (.int .i32 0)), none, 0, [], false⟩,
⟨some 3, .mov (.c (.int .i64 0)), none, 0, [], false⟩])
(.seq
(.seq
(.reg false [
⟨some 4, .mov (.t 0), none, 0, [], false⟩,
⟨some 5, .bin .neq .str (.t 4) (.c (.str [])), none, 0, [], false⟩,
⟨some 6, .mov (.t 5), none, 0, [], false⟩,
⟨some 7, .mov (.t 0), some (6, true), 0, [], false⟩,
⟨some 8, .idxStr (.t 7) (.c (.int .i64 0)), some (6, true), 0, [], false⟩,
⟨some 9, .bin .lss .no (.t 8) (.c (.int .u8 128)), some (6, true), 0, [], false⟩,
⟨some 10, .pick (.t 6) (.t 9) (.c (.bool false)), none, 0, [], false⟩])
(.cond (.t 10)
(.seq
(.reg false [
⟨some 11, .mov (.t 0), none, 0, [], false⟩,
⟨some 12, .idxStr (.t 11) (.c (.int .i64 0)), none, 0, [], false⟩,
⟨some 13, .convI .i32 (.t 12), none, 0, [], false⟩,
⟨some 2, .mov (.t 13), none, 0, [], false⟩,
⟨some 3, .mov (.c (.int .i64 1)), none, 0, [], false⟩])
.ret)
(.reg false [
⟨some 15, .mov (.t 0), none, 0, [], false⟩,
⟨some 16, .call (.f 92) [.t 15], none, 5, [], false⟩,
⟨some 14, .mov (.t 16), none, 0, [], false⟩,
⟨some 17, .extract (.t 14) 0, none, 0, [], false⟩,
⟨some 18, .extract (.t 14) 1, none, 0, [], false⟩,
⟨some 2, .mov (.t 17), none, 0, [], false⟩,
⟨some 3, .mov (.t 18), none, 0, [], false⟩])))
.ret)), 0, true⟩
def af86 : AFunc := ⟨4, [.tmp 4],
  (.seq
(.reg false [
⟨some 4, .mov (.c (.bool false)), none, 0, [], false⟩])
(.seq
(.reg false [
⟨some 5, .mov (.t 0), none, 0, [], false⟩,
⟨some 6, .mov (.t 1), none, 0, [], false⟩,
⟨some 7, .call (.f 93) [.t 5, .t 6], none, 5, [], false⟩,
⟨some 8, .bin .geq .no (.t 7) (.c (.int .i64 0)), none, 0, [], false⟩,
⟨some 4, .mov (.t 8), none, 0, [], false⟩])
.ret)), 0, true⟩
def af87 : AFunc := ⟨6, [.tmp 2, .tmp 3],
  (.seq
(.reg false [
⟨some 2, .mov (.c (.int .i32 0)), none, 0, [], false⟩,
⟨some 3, .mov (.c (.int .i64 0)), none, 0, [], false⟩])
(.seq
(.reg false [
⟨some 7, .mov (.t 0), none, 0, [], false⟩,
⟨some 8, .len .str (.t 7), none, 0, [], false⟩,
⟨some 4, .mov (.t 8), none, 0, [], false⟩])
(.seq
(.seq
(.reg false [
⟨some 9, .mov (.t 4), none, 0, [], false⟩,
⟨some 10, .bin .eql .int (.t 9) (.c (.int .i64 0)), none, 0, [], false⟩])
(.cond (.t 10)
(.seq
(.reg false [
⟨some 2, .mov (.c (.int .i32 65533)), none, 0, [], false⟩,
⟨some 3, .mov (.c (.int .i64 0)), none, 0, [], false⟩])
.ret)
.skip))
(.seq
(.reg false [
⟨some 11, .mov (.t 4), none, 0, [], false⟩,
⟨some 12, .bin .sub .no (.t 11) (.c (.int .i64 1)), none, 0, [], false⟩,
⟨some 5, .mov (.t 12), none, 0, [], false⟩])
(.seq
(.reg false [
⟨some 13, .mov (.t 0), none, 0, [], false⟩,
⟨some 14, .mov (.t 5), none, 0, [], false⟩,
⟨some 15, .idxStr (.t 13) (.t 14), none, 0, [], false⟩,
⟨some 16, .convI .i32 (.t 15), none, 0, [], false⟩,
⟨some 2, .mov (.t 16), none, 0, [], false⟩])
(.seq
(.seq
(.reg false [
⟨some 17, .mov (.t 2), none, 0, [], false⟩,
⟨some 18, .bin .lss .no (.t 17) (.c (.int .i32 128)), none, 0, [], false⟩])
(.cond (.t 18)
(.seq
(.reg false [
⟨some 19, .mov (.t 2), none, 0, [], false⟩,
⟨some 2, .mov (.t 19), none, 0, [], false⟩,
⟨some 3, .mov (.c (.int .i64 1)), none, 0, [], false⟩])
.ret)
.skip))
(.seq
(.reg false [
⟨some 20, .mov (.t 4), none, 0, [], false⟩,
⟨some 21, .bin .sub .no (.t 20) (.c (.int .i64 4)), none, 0, [], false⟩,
⟨some 22, .minmax true [.t 21, .c (.int .i64 0)], none, 0, [], false⟩,
⟨some 6, .mov (.t 22), none, 0, [], false⟩])
(.seq
(.seq
(.reg false [
⟨some 23, .mov (.t 5), none, 0, [], false⟩,
⟨some 24, .bin .sub .no (.t 23) (.c (.int .i64 1)), none, 0, [], false⟩,
⟨some 5, .mov (.t 24), none, 0, [], false⟩])
(.block 0
(.loop [0, 4, 5, 6]
(.seq
(.seq
(.reg false [
⟨some 25, .mov (.t 5), none, 0, [], false⟩,
⟨some 26, .mov (.t 6), none, 0, [], false⟩,
⟨some 27, .bin .geq .no (.t 25) (.t 26), none, 0, [], false⟩])
(.cond (.t 27)
.skip
(.exit 0)))
(.seq
(.block 1
(.seq
(.reg false [
⟨some 30, .mov (.t 0), none, 0, [], false⟩,
⟨some 31, .mov (.t 5), none, 0, [], false⟩,
⟨some 32, .idxStr (.t 30) (.t 31), none, 0, [], false⟩,
⟨some 33, .call (.f 94) [.t 32], none, 3, [], false⟩])
(.cond (.t 33)
(.exit 0)
.skip)))
(.reg false [
⟨some 28, .mov (.t 5), none, 0, [], false⟩,
⟨some 29, .bin .sub .no (.t 28) (.c (.int .i64 1)), none, 0, [], false⟩,
⟨some 5, .mov (.t 29), none, 0, [], false⟩]))))))
(.seq
(.seq
(.reg false [
⟨some 34, .mov (.t 5), none, 0, [], false⟩,
⟨some 35, .bin .lss .no (.t 34) (.c (.int .i64 0)), none, 0, [], false⟩])
(.cond (.t 35)
(.reg false [
⟨some 5, .mov (.c (.int .i64 0)), none, 0, [], false⟩])
.skip))
(.seq
(.reg false [
⟨some 37, .mov (.t 0), none, 0, [], false⟩,
⟨some 38, .mov (.t 5), none, 0, [], false⟩,
⟨some 39, .mov (.t 4), none, 0, [], false⟩,
⟨some 40, .slice .str 1 (.t 37) (some (.t 38)) (some (.t 39)) none, none, 1, [], false⟩,
⟨some 41, .call (.f 85) [.t 40], none, 3, [], false⟩,
⟨some 36, .mov (.t 41), none, 0, [], false⟩,
⟨some 42, .extract (.t 36) 0, none, 0, [], false⟩,
⟨some 43, .extract (.t 36) 1, none, 0, [], false⟩,
⟨some 2, .mov (.t 42), none, 0, [], false⟩,
⟨some 3, .mov (.t 43), none, 0, [], false⟩])
(.seq
(.seq
(.reg false [
⟨some 44, .mov (.t 5), none, 0, [], false⟩,
⟨some 45, .mov (.t 3), none, 0, [], false⟩,
⟨some 46, .bin .add .no (.t 44) (.t 45), none, 0, [], false⟩,
⟨some 47, .mov (.t 4), none, 0, [], false⟩,
⟨some 48, .bin .neq .int (.t 46) (.t 47), none, 0, [], false⟩])
(.cond (.t 48)
(.seq
(.reg false [
⟨some 2, .mov (.c (.int .i32 65533)), none, 0, [], false⟩,
⟨some 3, .mov (.c (.int .i64 1)), none, 0, [], false⟩])
.ret)
.skip))
(.seq
(.reg false [
⟨some 49, .mov (.t 2), none, 0, [], false⟩,
⟨some 50, .mov (.t 3), none, 0, [], false⟩,
⟨some 2, .mov (.t 49), none, 0, [], false⟩,
⟨some 3, .mov (.t 50), none, 0, [], false⟩])
.ret)))))))))))), 0, true⟩
def af88 : AFunc := ⟨7, [],
  (.seq
(.reg false [
⟨some 12, .mov (.t 1), none, 0, [], false⟩,
⟨some 10, .mov (.t 12), none, 0, [], false⟩])
(.block 0
(.loop [0, 2, 3, 4, 10]
(.block 1
(.seq
(.reg false [
⟨some 13, .mov (.t 10), none, 0, [], false⟩,
⟨some 14, .bin .mul .no (.c (.int .i64 2)) (.t 13), none, 0, [], false⟩,
⟨some 15, .bin .add .no (.t 14) (.c (.int .i64 1)), none, 0, [], false⟩,
⟨some 11, .mov (.t 15), none, 0, [], false⟩])
(.seq
(.seq
(.reg false [
⟨some 16, .mov (.t 11), none, 0, [], false⟩,
⟨some 17, .mov (.t 2), none, 0, [], false⟩,
⟨some 18, .bin .geq .no (.t 16) (.t 17), none, 0, [], false⟩])
(.cond (.t 18)
(.exit 0)
.skip))
(.seq
(.seq
(.reg true [
⟨some 19, .mov (.t 11), none, 0, [], false⟩,
⟨some 20, .bin .add .no (.t 19) (.c (.int .i64 1)), none, 0, [], false⟩,
⟨some 21, .mov (.t 2), none, 0, [], false⟩,
⟨some 22, .bin .lss .no (.t 20) (.t 21), none, 0, [], false⟩,
⟨some 23, .mov (.t 22), none, 0, [], false⟩,
⟨some 24, .mov (.t 4), some (23, true), 0, [], false⟩,
⟨some 25, .mov (.t 0), some (23, true), 0, [], false⟩,
⟨some 26, .mov (.t 3), some (23, true), 0, [], false⟩,
⟨some 27, .mov (.t 11), some (23, true), 0, [], false⟩,
⟨some 28, .bin .add .no (.t 26) (.t 27), some (23, true), 0, [], false⟩,
⟨some 29, .idxAddr none 2 (.t 25) (.t 28), some (23, true), 0, [], false⟩,
⟨some 30, .load true 2 (.t 29), some (23, true), 1, [], false⟩,
⟨some 31, .mov (.t 0), some (23, true), 0, [], false⟩,
⟨some 32, .mov (.t 3), some (23, true), 0, [], false⟩,
⟨some 33, .mov (.t 11), some (23, true), 0, [], false⟩,
⟨some 34, .bin .add .no (.t 32) (.t 33), some (23, true), 0, [], false⟩,
⟨some 35, .bin .add .no (.t 34) (.c (.int .i64 1)), some (23, true), 0, [], false⟩,
⟨some 36, .idxAddr none 2 (.t 31) (.t 35), some (23, true), 0, [], false⟩,
⟨some 37, .load true 2 (.t 36), some (23, true), 1, [], false⟩,
⟨some 38, .call (.t 24) [.t 30, .t 37], some (23, true), 5, [], false⟩,
⟨some 39, .bin .lss .no (.t 38) (.c (.int .i64 0)), some (23, true), 0, [], false⟩,
⟨some 40, .pick (.t 23) (.t 39) (.c (.bool false)), none, 0, [], false⟩])
(.cond (.t 40)
(.reg false [
⟨some 41, .mov (.t 11), none, 0, [], false⟩,
⟨some 42, .bin .add .no (.t 41) (.c (.int .i64 1)), none, 0, [], false⟩,
⟨some 11, .mov (.t 42), none, 0, [], false⟩])
.skip))
(.seq
(.seq
(.reg true [
⟨some 43, .mov (.t 4), none, 0, [], false⟩,
⟨some 44, .mov (.t 0), none, 0, [], false⟩,
⟨some 45, .mov (.t 3), none, 0, [], false⟩,
⟨some 46, .mov (.t 10), none, 0, [], false⟩,
⟨some 47, .bin .add .no (.t 45) (.t 46), none, 0, [], false⟩,
⟨some 48, .idxAddr none 2 (.t 44) (.t 47), none, 0, [], false⟩,
⟨some 49, .load true 2 (.t 48), none, 1, [], false⟩,
⟨some 50, .mov (.t 0), none, 0, [], false⟩,
⟨some 51, .mov (.t 3), none, 0, [], false⟩,
⟨some 52, .mov (.t 11), none, 0, [], false⟩,
⟨some 53, .bin .add .no (.t 51) (.t 52), none, 0, [], false⟩,
⟨some 54, .idxAddr none 2 (.t 50) (.t 53), none, 0, [], false⟩,
⟨some 55, .load true 2 (.t 54), none, 1, [], false⟩,
⟨some 56, .call (.t 43) [.t 49, .t 55], none, 5, [], false⟩,
⟨some 57, .bin .lss .no (.t 56) (.c (.int .i64 0)), none, 0, [], false⟩,
⟨some 58, .un .not (.t 57), none, 0, [], false⟩])
(.cond (.t 58)
.ret
.skip))
(.seq
(.reg true [
⟨some 59, .mov (.t 0), none, 0, [], false⟩,
⟨some 60, .mov (.t 3), none, 0, [], false⟩,
⟨some 61, .mov (.t 10), none, 0, [], false⟩,
⟨some 62, .bin .add .no (.t 60) (.t 61), none, 0, [], false⟩,
⟨some 63, .mov (.t 0), none, 0, [], false⟩,
⟨some 64, .mov (.t 3), none, 0, [], false⟩,
⟨some 65, .mov (.t 11), none, 0, [], false⟩,
⟨some 66, .bin .add .no (.t 64) (.t 65), none, 0, [], false⟩,
⟨some 67, .mov (.t 0), none, 0, [], false⟩,
⟨some 68, .mov (.t 3), none, 0, [], false⟩,
⟨some 69, .mov (.t 11), none, 0, [], false⟩,
⟨some 70, .bin .add .no (.t 68) (.t 69), none, 0, [], false⟩,
⟨some 71, .idxAddr none 2 (.t 67) (.t 70), none, 0, [], false⟩,
⟨some 72, .load true 2 (.t 71), none, 1, [], false⟩,
⟨some 73, .mov (.t 0), none, 0, [], false⟩,
⟨some 74, .mov (.t 3), none, 0, [], false⟩,
⟨some 75, .mov (.t 10), none, 0, [], false⟩,
⟨some 76, .bin .add .no (.t 74) (.t 75), none, 0, [], false⟩,
⟨some 77, .idxAddr none 2 (.t 73) (.t 76), none, 0, [], false⟩,
⟨some 78, .load true 2 (.t 77), none, 1, [], false⟩,
⟨some 79, .idxAddr none 2 (.t 59) (.t 62), none, 0, [], false⟩,
⟨none, .store 2 (.t 79) (.t 72), none, 5, [], false⟩,
⟨some 80, .idxAddr none 2 (.t 63) (.t 66), none, 0, [], false⟩,
⟨none, .store 2 (.t 80) (.t 78), none, 5, [], false⟩])
(.reg false [
⟨some 81, .mov (.t 11), none, 0, [], false⟩,
⟨some 10, .mov (.t 81), none, 0, [], false⟩])))))))))), 2, true⟩
def af89 : AFunc := ⟨5, [.tmp 8],
  (.seq
(.reg false [
⟨some 8, .mov (.c (.int .i64 0)), none, 0, [], false⟩])
(.seq
(.reg false [
⟨some 9, .mov (.t 0), none, 0, [], false⟩,
⟨some 10, .mov (.t 1), none, 0, [], false⟩,
⟨some 11, .bin .sub .no (.t 10) (.c (.int .i64 1)), none, 0, [], false⟩,
⟨some 12, .mov (.t 1), none, 0, [], false⟩,
⟨some 13, .mov (.t 1), none, 0, [], false⟩,
⟨some 14, .bin .add .no (.t 13) (.c (.int .i64 1)), none, 0, [], false⟩,
⟨some 15, .mov (.t 2), none, 0, [], false⟩,
⟨some 16, .mov (.t 3), none, 0, [], false⟩,
⟨some 17, .call (.f 90) [.t 9, .t 11, .t 12, .t 14, .t 15, .t 16], none, 5, [], false⟩,
⟨some 8, .mov (.t 17), none, 0, [], false⟩])
.ret)), 2, true⟩
def af90 : AFunc := ⟨6, [.tmp 12],
  (.seq
(.reg false [
⟨some 12, .mov (.c (.int .i64 0)), none, 0, [], false⟩])
(.seq
(.reg false [
⟨some 14, .mov (.t 0), none, 0, [], false⟩,
⟨some 15, .mov (.t 1), none, 0, [], false⟩,
⟨some 16, .mov (.t 2), none, 0, [], false⟩,
⟨some 17, .mov (.t 4), none, 0, [], false⟩,
⟨some 18, .mov (.t 5), none, 0, [], false⟩,
⟨some 19, .call (.f 95) [.t 14, .t 15, .t 16, .t 17, .t 18], none, 5, [], false⟩,
⟨some 13, .mov (.t 19), none, 0, [], false⟩,
⟨some 20, .extract (.t 13) 0, none, 0, [], false⟩,
⟨some 21, .extract (.t 13) 1, none, 0, [], false⟩,
⟨some 1, .mov (.t 20), none, 0, [], false⟩,
⟨some 2, .mov (.t 21), none, 0, [], false⟩])
(.seq
(.reg false [
⟨some 23, .mov (.t 0), none, 0, [], false⟩,
⟨some 24, .mov (.t 2), none, 0, [], false⟩,
⟨some 25, .mov (.t 3), none, 0, [], false⟩,
⟨some 26, .mov (.t 4), none, 0, [], false⟩,
⟨some 27, .mov (.t 5), none, 0, [], false⟩,
⟨some 28, .call (.f 95) [.t 23, .t 24, .t 25, .t 26, .t 27], none, 5, [], false⟩,
⟨some 22, .mov (.t 28), none, 0, [], false⟩,
⟨some 29, .extract (.t 22) 0, none, 0, [], false⟩,
⟨some 30, .extract (.t 22) 1, none, 0, [], false⟩,
⟨some 2, .mov (.t 29), none, 0, [], false⟩,
⟨some 3, .mov (.t 30), none, 0, [], false⟩])
(.seq
(.reg false [
⟨some 32, .mov (.t 0), none, 0, [], false⟩,
⟨some 33, .mov (.t 1), none, 0, [], false⟩,
⟨some 34, .mov (.t 2), none, 0, [], false⟩,
⟨some 35, .mov (.t 4), none, 0, [], false⟩,
⟨some 36, .mov (.t 5), none, 0, [], false⟩,
⟨some 37, .call (.f 95) [.t 32, .t 33, .t 34, .t 35, .t 36], none, 5, [], false⟩,
⟨some 31, .mov (.t 37), none, 0, [], false⟩,
⟨some 38, .extract (.t 31) 0, none, 0, [], false⟩,
⟨some 39, .extract (.t 31) 1, none, 0, [], false⟩,
⟨some 1, .mov (.t 38), none, 0, [], false⟩,
⟨some 2, .mov (.t 39), none, 0, [], false⟩])
(.seq
(.reg false [
⟨some 40, .mov (.t 2), none, 0, [], false⟩,
⟨some 12, .mov (.t 40), none, 0, [], false⟩])
.ret))))), 2, true⟩
def af91 : AFunc := ⟨5, [.tmp 10, .tmp 11],
  (.seq
(.reg false [
⟨some 10, .mov (.c (.int .i64 0)), none, 0, [], false⟩,
⟨some 11, .mov (.c (.int .i64 0)), none, 0, [], false⟩])
(.seq
(.seq
(.reg true [
⟨some 12, .mov (.t 4), none, 0, [], false⟩,
⟨some 13, .mov (.t 0), none, 0, [], false⟩,
⟨some 14, .mov (.t 2), none, 0, [], false⟩,
⟨some 15, .idxAddr none 5 (.t 13) (.t 14), none, 0, [], false⟩,
⟨some 16, .load true 5 (.t 15), none, 1, [], false⟩,
⟨some 17, .mov (.t 0), none, 0, [], false⟩,
⟨some 18, .mov (.t 1), none, 0, [], false⟩,
⟨some 19, .idxAddr none 5 (.t 17) (.t 18), none, 0, [], false⟩,
⟨some 20, .load true 5 (.t 19), none, 1, [], false⟩,
⟨some 21, .call (.t 12) [.t 16, .t 20], none, 5, [], false⟩,
⟨some 22, .bin .lss .no (.t 21) (.c (.int .i64 0)), none, 0, [], false⟩])
(.cond (.t 22)
(.seq
(.reg false [
⟨some 23, .mov (.t 3), none, 0, [], false⟩,
⟨some 24, .nilchk (.t 23), none, 0, [], false⟩,
⟨some 25, .load false 1 (.t 24), none, 1, [], false⟩,
⟨some 26, .bin .add .no (.t 25) (.c (.int .i64 1)), none, 0, [], false⟩,
⟨some 27, .nilchk (.t 23), none, 0, [], false⟩,
⟨none, .store 1 (.t 27) (.t 26), none, 5, [], false⟩])
(.seq
(.reg false [
⟨some 28, .mov (.t 2), none, 0, [], false⟩,
⟨some 29, .mov (.t 1), none, 0, [], false⟩,
⟨some 10, .mov (.t 28), none, 0, [], false⟩,
⟨some 11, .mov (.t 29), none, 0, [], false⟩])
.ret))
.skip))
(.seq
(.reg false [
⟨some 30, .mov (.t 1), none, 0, [], false⟩,
⟨some 31, .mov (.t 2), none, 0, [], false⟩,
⟨some 10, .mov (.t 30), none, 0, [], false⟩,
⟨some 11, .mov (.t 31), none, 0, [], false⟩])
.ret))), 2, true⟩
def af94 : AFunc := ⟨3, [.tmp 2],
  (.seq
(.reg false [
⟨some 2, .mov (.c (.bool false)), none, 0, [], false⟩])
(.seq
(.reg false [
⟨some 3, .mov (.t 0), none, 0, [], false⟩,
⟨some 4, .bin .and .no (.t 3) (.c (.int .u8 192)), none, 0, [], false⟩,
⟨some 5, .bin .neq .int (.t 4) (.c (.int .u8 128)), none, 0, [], false⟩,
⟨some 2, .mov (.t 5), none, 0, [], false⟩])
.ret)), 0, true⟩
def af95 : AFunc := ⟨5, [.tmp 10, .tmp 11],
  (.seq
(.reg false [
⟨some 10, .mov (.c (.int .i64 0)), none, 0, [], false⟩,
⟨some 11, .mov (.c (.int .i64 0)), none, 0, [], false⟩])
(.seq
(.seq
(.reg true [
⟨some 12, .mov (.t 4), none, 0, [], false⟩,
⟨some 13, .mov (.t 0), none, 0, [], false⟩,
⟨some 14, .mov (.t 2), none, 0, [], false⟩,
⟨some 15, .idxAddr none 2 (.t 13) (.t 14), none, 0, [], false⟩,
⟨some 16, .load true 2 (.t 15), none, 1, [], false⟩,
⟨some 17, .mov (.t 0), none, 0, [], false⟩,
⟨some 18, .mov (.t 1), none, 0, [], false⟩,
⟨some 19, .idxAddr none 2 (.t 17) (.t 18), none, 0, [], false⟩,
⟨some 20, .load true 2 (.t 19), none, 1, [], false⟩,
⟨some 21, .call (.t 12) [.t 16, .t 20], none, 5, [], false⟩,
⟨some 22, .bin .lss .no (.t 21) (.c (.int .i64 0)), none, 0, [], false⟩])
(.cond (.t 22)
(.seq
(.reg false [
⟨some 23, .mov (.t 3), none, 0, [], false⟩,
⟨some 24, .nilchk (.t 23), none, 0, [], false⟩,
⟨some 25, .load false 1 (.t 24), none, 1, [], false⟩,
⟨some 26, .bin .add .no (.t 25) (.c (.int .i64 1)), none, 0, [], false⟩,
⟨some 27, .nilchk (.t 23), none, 0, [], false⟩,
⟨none, .store 1 (.t 27) (.t 26), none, 5, [], false⟩])
(.seq
(.reg false [
⟨some 28, .mov (.t 2), none, 0, [], false⟩,
⟨some 29, .mov (.t 1), none, 0, [], false⟩,
⟨some 10, .mov (.t 28), none, 0, [], false⟩,
⟨some 11, .mov (.t 29), none, 0, [], false⟩])
.ret))
.skip))
(.seq
(.reg false [
⟨some 30, .mov (.t 1), none, 0, [], false⟩,
⟨some 31, .mov (.t 2), none, 0, [], false⟩,
⟨some 10, .mov (.t 30), none, 0, [], false⟩,
⟨some 11, .mov (.t 31), none, 0, [], false⟩])
.ret))), 2, true⟩
def af96 : AFunc := ⟨3, [.tmp 4],
  (.seq
(.reg false [
⟨some 4, .mov (.c (.int .i64 0)), none, 0, [], false⟩])
(.seq
(.reg false [
⟨some 5, .mov (.t 0), none, 0, [], false⟩,
⟨some 6, .mov (.t 1), none, 0, [], false⟩,
⟨some 7, .call (.f 100) [.t 5, .t 6], none, 3, [], false⟩,
⟨some 4, .mov (.t 7), none, 0, [], false⟩])
.ret)), 0, true⟩
def af97 : AFunc := ⟨5, [.tmp 2],
  (.seq
(.reg false [
⟨some 2, .mov (.c (.bool false)), none, 0, [], false⟩])
(.seq
(.block 0
(.seq
(.reg false [
⟨some 4, .mov (.t 0), none, 0, [], false⟩,
⟨some 5, .bin .leq .no (.c (.int .i32 0)) (.t 4), none, 0, [], false⟩,
⟨some 6, .mov (.t 5), none, 0, [], false⟩,
⟨some 7, .mov (.t 0), some (6, true), 0, [], false⟩,
⟨some 8, .bin .lss .no (.t 7) (.c (.int .i32 55296)), some (6, true), 0, [], false⟩,
⟨some 9, .pick (.t 6) (.t 8) (.c (.bool false)), none, 0, [], false⟩,
⟨some 3, .mov (.t 9), none, 0, [], false⟩])
(.cond (.t 3)
(.seq
(.reg false [
⟨some 2, .mov (.c (.bool true)), none, 0, [], false⟩])
.ret)
(.seq
(.reg false [
⟨some 11, .mov (.t 0), none, 0, [], false⟩,
⟨some 12, .bin .lss .no (.c (.int .i32 57343)) (.t 11), none, 0, [], false⟩,
⟨some 13, .mov (.t 12), none, 0, [], false⟩,
⟨some 14, .mov (.t 0), some (13, true), 0, [], false⟩,
⟨some 15, .bin .leq .no (.t 14) (.c (.int .i32 1114111)), some (13, true), 0, [], false⟩,
⟨some 16, .pick (.t 13) (.t 15) (.c (.bool false)), none, 0, [], false⟩,
⟨some 10, .mov (.t 16), none, 0, [], false⟩])
(.cond (.t 10)
(.seq
(.reg false [
⟨some 2, .mov (.c (.bool true)), none, 0, [], false⟩])
.ret)
.skip)))))
(.seq
(.reg false [
⟨some 2, .mov (.c (.bool false)), none, 0, [], false⟩])
.ret))), 0, true⟩
def af98 : AFunc := ⟨3, [.tmp 2],
  (.seq
(.reg false [
⟨some 2, .mov (.c (.int .i64 0)), none, 0, [], false⟩])
(.seq
(.reg false [
⟨some 3, .mov (.t 0), none, 0, [], false⟩,
⟨some 4, .bin .add .no (.t 3) (.c (.int .i64 16)), none, 0, [], false⟩,
⟨some 5, .bin .quo .no (.t 4) (.c (.int .i64 8)), none, 0, [], false⟩,
⟨some 2, .mov (.t 5), none, 0, [], false⟩])
.ret)), 0, true⟩
def af100 : AFunc := ⟨3, [.tmp 4],
  (.seq
(.reg false [
⟨some 4, .mov (.c (.int .i64 0)), none, 0, [], false⟩])
(.seq
(.reg false [
⟨some 5, .mov (.t 0), none, 0, [], false⟩,
⟨some 6, .mov (.t 1), none, 0, [], false⟩,
⟨some 7, .ext 1 (.t 5) (.t 6), none, 0, [], false⟩,
⟨some 4, .mov (.t 7), none, 0, [], false⟩])
.ret)), 0, true⟩
end Go.Eng.Seat37d
