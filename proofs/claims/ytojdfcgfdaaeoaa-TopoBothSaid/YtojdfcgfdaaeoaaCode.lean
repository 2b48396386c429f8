/- Functions of the program, as the machine runs them. Printed by a program of mine (ncode.py). The seat's program is what the machine runs. Printed by a program of mine (seatgen.py). -/
import Derived.Test.YtojdfcgfdaaeoaaEngF
import Derived.Test.YtojdfcgfdaaeoaaProg

set_option linter.unnecessarySimpa false
set_option linter.unusedVariables false
set_option linter.unusedSimpArgs false
set_option linter.unusedSectionVars false
/-! CnTopo -/
namespace Camp
open Go
def bs (l : List UInt8) : ByteArray := ⟨⟨l⟩⟩
/-- campanile/campanilelaw20.TopoNewer -/
def n0 : NF := ⟨154, [10],
 .seq (.region [
  ⟨(some 10), (.mov (.c (.c (.bool false)))), none⟩])
 (.seq (.kill [0, 1, 2, 3, 4] 0) (.seq (.region [
  ⟨(some 15), (.mov (.t 0)), none⟩,
  ⟨(some 16), (.conv (.toInt .u64) (.t 15)), none⟩,
  ⟨(some 17), (.bin .rem .num (.t 16) (.c (.c (.int .u64 14)))), none⟩,
  ⟨(some 18), (.conv (.toInt .i64) (.t 17)), none⟩,
  ⟨(some 19), (.bin .add .num (.c (.c (.int .i64 3))) (.t 18)), none⟩,
  ⟨(some 0), (.mov (.t 19)), none⟩])
 (.seq (.kill [0, 1, 2, 3, 4] 0) (.seq (.draw 0 [
  ⟨0, none, ⟨(some 20), (.mov (.t 1)), none⟩, []⟩,
  ⟨1, none, ⟨(some 21), (.conv (.toInt .u64) (.t 20)), none⟩, []⟩,
  ⟨2, none, ⟨(some 22), (.mov (.t 0)), none⟩, []⟩,
  ⟨3, none, ⟨(some 23), (.conv (.toInt .u64) (.t 22)), none⟩, []⟩,
  ⟨4, none, ⟨(some 24), (.bin .rem .num (.t 21) (.t 23)), none⟩, []⟩,
  ⟨5, none, ⟨(some 25), (.conv (.toInt .i64) (.t 24)), none⟩, []⟩,
  ⟨6, none, ⟨(some 26), (.mov (.t 2)), none⟩, []⟩,
  ⟨7, none, ⟨(some 27), (.conv (.toInt .u64) (.t 26)), none⟩, []⟩,
  ⟨8, none, ⟨(some 28), (.mov (.t 0)), none⟩, []⟩,
  ⟨9, none, ⟨(some 29), (.conv (.toInt .u64) (.t 28)), none⟩, []⟩,
  ⟨10, none, ⟨(some 30), (.bin .rem .num (.t 27) (.t 29)), none⟩, []⟩,
  ⟨11, none, ⟨(some 31), (.conv (.toInt .i64) (.t 30)), none⟩, []⟩,
  ⟨12, none, ⟨(some 32), (.mov (.t 3)), none⟩, []⟩,
  ⟨13, none, ⟨(some 33), (.conv (.toInt .u64) (.t 32)), none⟩, []⟩,
  ⟨14, none, ⟨(some 34), (.mov (.t 0)), none⟩, []⟩,
  ⟨15, none, ⟨(some 35), (.conv (.toInt .u64) (.t 34)), none⟩, []⟩,
  ⟨16, none, ⟨(some 36), (.bin .rem .num (.t 33) (.t 35)), none⟩, []⟩,
  ⟨17, none, ⟨(some 37), (.conv (.toInt .i64) (.t 36)), none⟩, []⟩,
  ⟨18, none, ⟨(some 1), (.mov (.t 25)), none⟩, []⟩,
  ⟨19, none, ⟨(some 2), (.mov (.t 31)), none⟩, []⟩,
  ⟨20, none, ⟨(some 3), (.mov (.t 37)), none⟩, []⟩])
 (.seq (.kill [0, 1, 2, 3, 4] 0) (.seq (.region [
  ⟨(some 38), (.mov (.t 4)), none⟩,
  ⟨(some 39), (.conv (.toInt .u64) (.t 38)), none⟩,
  ⟨(some 40), (.bin .rem .num (.t 39) (.c (.c (.int .u64 255)))), none⟩,
  ⟨(some 41), (.conv (.toInt .i64) (.t 40)), none⟩,
  ⟨(some 42), (.bin .add .num (.c (.c (.int .i64 1))) (.t 41)), none⟩,
  ⟨(some 4), (.mov (.t 42)), none⟩])
 (.seq (.kill [0, 1, 2, 3, 4] 0) (.seq (.seq (.region [
  ⟨(some 43), (.mov (.t 1)), none⟩,
  ⟨(some 44), (.mov (.t 2)), none⟩,
  ⟨(some 45), (.bin .eql .num (.t 43) (.t 44)), none⟩,
  ⟨(some 46), (.mov (.t 45)), none⟩,
  ⟨(some 47), (.mov (.t 1)), (some (46, false))⟩,
  ⟨(some 48), (.mov (.t 3)), (some (46, false))⟩,
  ⟨(some 49), (.bin .eql .num (.t 47) (.t 48)), (some (46, false))⟩,
  ⟨(some 50), (.pick (.t 46) (.c (.c (.bool true))) (.t 49)), none⟩,
  ⟨(some 51), (.mov (.t 50)), none⟩,
  ⟨(some 52), (.mov (.t 2)), (some (51, false))⟩,
  ⟨(some 53), (.mov (.t 3)), (some (51, false))⟩,
  ⟨(some 54), (.bin .eql .num (.t 52) (.t 53)), (some (51, false))⟩,
  ⟨(some 55), (.pick (.t 51) (.c (.c (.bool true))) (.t 54)), none⟩])
 (.seq (.kill [0, 1, 2, 3, 4, 55] 0) (.cond (.t 55)
 (.seq (.region [
   ⟨(some 56), (.call 1 []), none⟩,
   ⟨(some 10), (.mov (.t 56)), none⟩])
  (.ret))
 (.skip))))
 (.seq (.kill [0, 1, 2, 3, 4] 0) (.seq (.region [
  ⟨(some 57), (.mov (.t 0)), none⟩,
  ⟨(some 58), (.call 2 [(.t 57)]), none⟩,
  ⟨(some 11), (.mov (.t 58)), none⟩])
 (.seq (.kill [0, 1, 2, 3, 4, 11] 0) (.seq (.seq (.region [
  ⟨(some 59), (.mov (.t 0)), none⟩,
  ⟨(some 60), (.mov (.c (.c (.int .i64 0)))), none⟩])
 (.seq (.kill [0, 1, 2, 3, 4, 11, 59, 60] 0) (.block 0 (.loop (.seq (.kill [0, 1, 2, 3, 4, 11, 59, 60] 0) (.seq (.region [
   ⟨(some 61), (.bin .lss .num (.t 60) (.t 59)), none⟩])
  (.seq (.kill [0, 1, 2, 3, 4, 11, 59, 60, 61] 0) (.seq (.cond (.t 61)
  (.skip)
  (.exit 0))
  (.seq (.kill [0, 1, 2, 3, 4, 11, 59, 60] 0) (.seq (.block 1 (.seq (.region [
   ⟨(some 62), (.mov (.t 60)), none⟩,
   ⟨(some 12), (.mov (.t 62)), none⟩])
  (.seq (.kill [0, 1, 2, 3, 4, 11, 12, 59, 60] 0) (.seq (.region [
   ⟨(some 13), (.mov (.c (.c .nils))), none⟩])
  (.seq (.kill [0, 1, 2, 3, 4, 11, 12, 13, 59, 60] 0) (.seq (.seq (.region [
   ⟨(some 63), (.mov (.t 0)), none⟩,
   ⟨(some 64), (.mov (.c (.c (.int .i64 0)))), none⟩])
  (.seq (.kill [0, 1, 2, 3, 4, 11, 12, 13, 59, 60, 63, 64] 0) (.block 2 (.loop (.seq (.kill [0, 1, 2, 3, 4, 11, 12, 13, 59, 60, 63, 64] 0) (.seq (.region [
    ⟨(some 65), (.bin .lss .num (.t 64) (.t 63)), none⟩])
   (.seq (.kill [0, 1, 2, 3, 4, 11, 12, 13, 59, 60, 63, 64, 65] 0) (.seq (.cond (.t 65)
   (.skip)
   (.exit 2))
   (.seq (.kill [0, 1, 2, 3, 4, 11, 12, 13, 59, 60, 63, 64] 0) (.seq (.block 3 (.seq (.region [
    ⟨(some 66), (.mov (.t 64)), none⟩,
    ⟨(some 14), (.mov (.t 66)), none⟩])
   (.seq (.kill [0, 1, 2, 3, 4, 11, 12, 13, 14, 59, 60, 63, 64] 0) (.seq (.region [
    ⟨(some 67), (.mov (.t 14)), none⟩,
    ⟨(some 68), (.mov (.t 12)), none⟩,
    ⟨(some 69), (.bin .neq .num (.t 67) (.t 68)), none⟩])
   (.seq (.kill [0, 1, 2, 3, 4, 11, 12, 13, 14, 59, 60, 63, 64, 69] 0) (.cond (.t 69)
   (.region [
     ⟨(some 70), (.mov (.t 13)), none⟩,
     ⟨(some 71), (.mov (.t 12)), none⟩,
     ⟨(some 72), (.mov (.t 14)), none⟩,
     ⟨(some 73), (.build [(.int .i64 0), (.int .i64 0), (.int .i64 0)] [(0, (1, (.t 71))), (1, (1, (.t 72))), (2, (1, (.c (.c (.int .i64 200)))))]), none⟩,
     ⟨(some 74), (.bslice true 3 1 [(.int .i64 0), (.int .i64 0), (.int .i64 0)] [(0, (3, (.t 73)))]), none⟩,
     ⟨(some 75), (.app 3 24 (.t 70) (.t 74)), none⟩,
     ⟨(some 13), (.mov (.t 75)), none⟩])
   (.skip)))))))
   (.seq (.kill [0, 1, 2, 3, 4, 11, 12, 13, 59, 60, 63, 64] 0) (.region [
    ⟨(some 76), (.bin .add .num (.t 64) (.c (.c (.int .i64 1)))), none⟩,
    ⟨(some 64), (.mov (.t 76)), none⟩]))))))))))))
  (.seq (.kill [0, 1, 2, 3, 4, 11, 12, 13, 59, 60] 0) (.seq (.region [
   ⟨(some 77), (.mov (.t 11)), none⟩,
   ⟨(some 78), (.mov (.t 12)), none⟩,
   ⟨(some 79), (.mov (.t 13)), none⟩,
   ⟨(some 80), (.call 3 [(.t 77), (.t 78), (.t 79)]), none⟩,
   ⟨(some 81), (.bin .neq .num (.t 80) (.c (.c (.int .i64 0)))), none⟩])
  (.seq (.kill [0, 1, 2, 3, 4, 11, 59, 60, 81] 0) (.cond (.t 81)
  (.seq (.region [
    ⟨(some 10), (.mov (.c (.c (.bool false)))), none⟩])
   (.ret))
  (.skip)))))))))))
  (.seq (.kill [0, 1, 2, 3, 4, 11, 59, 60] 0) (.region [
   ⟨(some 82), (.bin .add .num (.t 60) (.c (.c (.int .i64 1)))), none⟩,
   ⟨(some 60), (.mov (.t 82)), none⟩]))))))))))))
 (.seq (.kill [1, 2, 3, 4, 11] 0) (.seq (.seq (.region [
  ⟨(some 83), (.mov (.t 11)), none⟩,
  ⟨(some 84), (.mov (.t 1)), none⟩,
  ⟨(some 85), (.mov (.t 1)), none⟩,
  ⟨(some 86), (.mov (.t 2)), none⟩,
  ⟨(some 87), (.mov (.t 4)), none⟩,
  ⟨(some 88), (.build [(.int .i64 0), (.int .i64 0), (.int .i64 0)] [(0, (1, (.t 85))), (1, (1, (.t 86))), (2, (1, (.t 87)))]), none⟩,
  ⟨(some 89), (.mov (.t 1)), none⟩,
  ⟨(some 90), (.mov (.t 2)), none⟩,
  ⟨(some 91), (.mov (.t 4)), none⟩,
  ⟨(some 92), (.build [(.int .i64 0), (.int .i64 0), (.int .i64 0)] [(0, (1, (.t 89))), (1, (1, (.t 90))), (2, (1, (.t 91)))]), none⟩,
  ⟨(some 93), (.bslice false 3 2 [(.int .i64 0), (.int .i64 0), (.int .i64 0)] [(0, (3, (.t 88))), (3, (3, (.t 92)))]), none⟩,
  ⟨(some 94), (.call 3 [(.t 83), (.t 84), (.t 93)]), none⟩,
  ⟨(some 95), (.bin .neq .num (.t 94) (.c (.c (.int .i64 1)))), none⟩,
  ⟨(some 96), (.mov (.t 95)), none⟩,
  ⟨(some 97), (.mov (.t 11)), (some (96, false))⟩,
  ⟨(some 98), (.mov (.t 1)), (some (96, false))⟩,
  ⟨(some 99), (.mov (.t 2)), (some (96, false))⟩,
  ⟨(some 100), (.mov (.t 1)), (some (96, false))⟩,
  ⟨(some 101), (.mov (.t 4)), (some (96, false))⟩,
  ⟨(some 102), (.build [(.int .i64 0), (.int .i64 0), (.int .i64 0)] [(0, (1, (.t 99))), (1, (1, (.t 100))), (2, (1, (.t 101)))]), (some (96, false))⟩,
  ⟨(some 103), (.bslice false 3 1 [(.int .i64 0), (.int .i64 0), (.int .i64 0)] [(0, (3, (.t 102)))]), (some (96, false))⟩,
  ⟨(some 104), (.call 3 [(.t 97), (.t 98), (.t 103)]), (some (96, false))⟩,
  ⟨(some 105), (.bin .neq .num (.t 104) (.c (.c (.int .i64 1)))), (some (96, false))⟩,
  ⟨(some 106), (.pick (.t 96) (.c (.c (.bool true))) (.t 105)), none⟩,
  ⟨(some 107), (.mov (.t 106)), none⟩,
  ⟨(some 108), (.mov (.t 11)), (some (107, false))⟩,
  ⟨(some 109), (.mov (.t 1)), (some (107, false))⟩,
  ⟨(some 110), (.mov (.t 2)), (some (107, false))⟩,
  ⟨(some 111), (.call 4 [(.t 108), (.t 109), (.t 110)]), (some (107, false))⟩,
  ⟨(some 112), (.bin .neq .num (.t 111) (.c (.c (.int .i64 200)))), (some (107, false))⟩,
  ⟨(some 113), (.pick (.t 107) (.c (.c (.bool true))) (.t 112)), none⟩])
 (.seq (.kill [1, 2, 3, 4, 11, 113] 0) (.cond (.t 113)
 (.seq (.region [
   ⟨(some 10), (.mov (.c (.c (.bool false)))), none⟩])
  (.ret))
 (.skip))))
 (.seq (.kill [1, 2, 3, 4, 11] 0) (.seq (.seq (.region [
  ⟨(some 114), (.mov (.t 11)), none⟩,
  ⟨(some 115), (.mov (.t 1)), none⟩,
  ⟨(some 116), (.mov (.t 1)), none⟩,
  ⟨(some 117), (.mov (.t 2)), none⟩,
  ⟨(some 118), (.mov (.t 4)), none⟩,
  ⟨(some 119), (.build [(.int .i64 0), (.int .i64 0), (.int .i64 0)] [(0, (1, (.t 116))), (1, (1, (.t 117))), (2, (1, (.t 118)))]), none⟩,
  ⟨(some 120), (.bslice false 3 1 [(.int .i64 0), (.int .i64 0), (.int .i64 0)] [(0, (3, (.t 119)))]), none⟩,
  ⟨(some 121), (.call 3 [(.t 114), (.t 115), (.t 120)]), none⟩,
  ⟨(some 122), (.bin .neq .num (.t 121) (.c (.c (.int .i64 0)))), none⟩])
 (.seq (.kill [1, 2, 3, 4, 11, 122] 0) (.cond (.t 122)
 (.seq (.region [
   ⟨(some 10), (.mov (.c (.c (.bool false)))), none⟩])
  (.ret))
 (.skip))))
 (.seq (.kill [1, 2, 3, 4, 11] 0) (.seq (.region [
  ⟨(some 123), (.mov (.t 11)), none⟩,
  ⟨(some 124), (.mov (.t 1)), none⟩,
  ⟨(some 125), (.mov (.t 2)), none⟩,
  ⟨(some 126), (.call 4 [(.t 123), (.t 124), (.t 125)]), none⟩,
  ⟨(some 127), (.mov (.t 4)), none⟩,
  ⟨(some 128), (.min [(.t 127), (.c (.c (.int .i64 200)))]), none⟩,
  ⟨(some 129), (.bin .eql .num (.t 126) (.t 128)), none⟩,
  ⟨(some 130), (.mov (.t 129)), none⟩,
  ⟨(some 131), (.mov (.t 11)), (some (130, true))⟩,
  ⟨(some 132), (.mov (.t 1)), (some (130, true))⟩,
  ⟨(some 133), (.mov (.t 3)), (some (130, true))⟩,
  ⟨(some 134), (.call 4 [(.t 131), (.t 132), (.t 133)]), (some (130, true))⟩,
  ⟨(some 135), (.bin .eql .num (.t 134) (.c (.c (.int .i64 0)))), (some (130, true))⟩,
  ⟨(some 136), (.pick (.t 130) (.t 135) (.c (.c (.bool false)))), none⟩,
  ⟨(some 137), (.mov (.t 136)), none⟩,
  ⟨(some 138), (.mov (.t 11)), (some (137, true))⟩,
  ⟨(some 139), (.mov (.t 2)), (some (137, true))⟩,
  ⟨(some 140), (.mov (.t 3)), (some (137, true))⟩,
  ⟨(some 141), (.call 4 [(.t 138), (.t 139), (.t 140)]), (some (137, true))⟩,
  ⟨(some 142), (.bin .eql .num (.t 141) (.c (.c (.int .i64 200)))), (some (137, true))⟩,
  ⟨(some 143), (.pick (.t 137) (.t 142) (.c (.c (.bool false)))), none⟩,
  ⟨(some 144), (.mov (.t 143)), none⟩,
  ⟨(some 145), (.mov (.t 11)), (some (144, true))⟩,
  ⟨(some 146), (.mov (.t 1)), (some (144, true))⟩,
  ⟨(some 147), (.call 5 [(.t 145), (.t 146), (.c (.c (.int .i64 1)))]), (some (144, true))⟩,
  ⟨(some 148), (.len .sl (.t 147)), (some (144, true))⟩,
  ⟨(some 149), (.bin .eql .num (.t 148) (.c (.c (.int .i64 1)))), (some (144, true))⟩,
  ⟨(some 150), (.pick (.t 144) (.t 149) (.c (.c (.bool false)))), none⟩,
  ⟨(some 151), (.mov (.t 150)), none⟩,
  ⟨(some 152), (.call 1 []), (some (151, true))⟩,
  ⟨(some 153), (.pick (.t 151) (.t 152) (.c (.c (.bool false)))), none⟩,
  ⟨(some 10), (.mov (.t 153)), none⟩])
 (.ret)))))))))))))))))))⟩
/-- campanile/campanilelaw20.TopoLeast -/
def n6 : NF := ⟨86, [10],
 .seq (.region [
  ⟨(some 10), (.mov (.c (.c (.bool false)))), none⟩])
 (.seq (.kill [0, 1, 2, 3, 4] 0) (.seq (.region [
  ⟨(some 19), (.mov (.t 0)), none⟩,
  ⟨(some 20), (.mov (.t 1)), none⟩,
  ⟨(some 21), (.call 7 [(.t 19), (.t 20)]), none⟩,
  ⟨(some 18), (.mov (.t 21)), none⟩,
  ⟨(some 22), (.ext (.t 18) 0), none⟩,
  ⟨(some 23), (.ext (.t 18) 1), none⟩,
  ⟨(some 24), (.ext (.t 18) 2), none⟩,
  ⟨(some 11), (.mov (.t 22)), none⟩,
  ⟨(some 12), (.mov (.t 23)), none⟩,
  ⟨(some 13), (.mov (.t 24)), none⟩])
 (.seq (.kill [2, 3, 4, 11, 13] 0) (.seq (.seq (.region [
  ⟨(some 25), (.mov (.t 11)), none⟩,
  ⟨(some 26), (.bin .eql .ptr (.t 25) (.c (.c .nilp))), none⟩,
  ⟨(some 27), (.mov (.t 26)), none⟩,
  ⟨(some 28), (.mov (.t 13)), (some (27, false))⟩,
  ⟨(some 29), (.bin .neq .num (.t 28) (.c (.c (.int .i64 0)))), (some (27, false))⟩,
  ⟨(some 30), (.pick (.t 27) (.c (.c (.bool true))) (.t 29)), none⟩])
 (.seq (.kill [2, 3, 4, 11, 30] 0) (.cond (.t 30)
 (.seq (.region [
   ⟨(some 10), (.mov (.c (.c (.bool false)))), none⟩])
  (.ret))
 (.skip))))
 (.seq (.kill [2, 3, 4, 11] 0) (.seq (.region [
  ⟨(some 31), (.mov (.t 3)), none⟩,
  ⟨(some 32), (.conv (.toInt .u64) (.t 31)), none⟩,
  ⟨(some 33), (.bin .rem .num (.t 32) (.c (.c (.int .u64 257)))), none⟩,
  ⟨(some 34), (.conv (.toInt .i64) (.t 33)), none⟩,
  ⟨(some 35), (.mov (.t 4)), none⟩,
  ⟨(some 36), (.conv (.toInt .u64) (.t 35)), none⟩,
  ⟨(some 37), (.bin .rem .num (.t 36) (.c (.c (.int .u64 257)))), none⟩,
  ⟨(some 38), (.conv (.toInt .i64) (.t 37)), none⟩,
  ⟨(some 3), (.mov (.t 34)), none⟩,
  ⟨(some 4), (.mov (.t 38)), none⟩])
 (.seq (.kill [2, 3, 4, 11] 0) (.seq (.seq (.region [
  ⟨(some 39), (.mov (.t 3)), none⟩,
  ⟨(some 40), (.mov (.t 4)), none⟩,
  ⟨(some 41), (.bin .gtr .num (.t 39) (.t 40)), none⟩])
 (.seq (.kill [2, 3, 4, 11, 41] 0) (.cond (.t 41)
 (.region [
   ⟨(some 42), (.mov (.t 4)), none⟩,
   ⟨(some 43), (.mov (.t 3)), none⟩,
   ⟨(some 3), (.mov (.t 42)), none⟩,
   ⟨(some 4), (.mov (.t 43)), none⟩])
 (.skip))))
 (.seq (.kill [2, 3, 4, 11] 0) (.seq (.region [
  ⟨(some 44), (.mov (.t 11)), none⟩,
  ⟨(some 45), (.mov (.t 2)), none⟩,
  ⟨(some 46), (.mov (.t 3)), none⟩,
  ⟨(some 47), (.call 5 [(.t 44), (.t 45), (.t 46)]), none⟩,
  ⟨(some 48), (.mov (.t 11)), none⟩,
  ⟨(some 49), (.mov (.t 2)), none⟩,
  ⟨(some 50), (.mov (.t 4)), none⟩,
  ⟨(some 51), (.call 5 [(.t 48), (.t 49), (.t 50)]), none⟩,
  ⟨(some 14), (.mov (.t 47)), none⟩,
  ⟨(some 15), (.mov (.t 51)), none⟩])
 (.seq (.kill [2, 4, 11, 14, 15] 0) (.seq (.seq (.region [
  ⟨(some 52), (.mov (.t 15)), none⟩,
  ⟨(some 53), (.len .sl (.t 52)), none⟩,
  ⟨(some 54), (.mov (.c (.c (.int .i64 0)))), none⟩])
 (.seq (.kill [2, 4, 11, 14, 15, 52, 53, 54] 0) (.block 0 (.loop (.seq (.kill [2, 4, 11, 14, 15, 52, 53, 54] 0) (.seq (.region [
   ⟨(some 55), (.bin .lss .num (.t 54) (.t 53)), none⟩])
  (.seq (.kill [2, 4, 11, 14, 15, 52, 53, 54, 55] 0) (.seq (.cond (.t 55)
  (.skip)
  (.exit 0))
  (.seq (.kill [2, 4, 11, 14, 15, 52, 53, 54] 0) (.seq (.block 1 (.seq (.region [
   ⟨(some 56), (.iaddr 1 (.t 52) (.t 54)), none⟩,
   ⟨(some 57), (.load none (.t 56)), none⟩,
   ⟨(some 17), (.mov (.t 57)), none⟩])
  (.seq (.kill [2, 4, 11, 14, 15, 17, 52, 53, 54] 0) (.seq (.region [
   ⟨(some 58), (.mov (.t 14)), none⟩,
   ⟨(some 59), (.mov (.t 17)), none⟩,
   ⟨(some 60), (.call 8 [(.t 58), (.t 59)]), none⟩,
   ⟨(some 61), (.un .not (.t 60)), none⟩,
   ⟨(some 62), (.mov (.t 61)), none⟩,
   ⟨(some 63), (.mov (.t 11)), (some (62, false))⟩,
   ⟨(some 64), (.mov (.t 2)), (some (62, false))⟩,
   ⟨(some 65), (.mov (.t 17)), (some (62, false))⟩,
   ⟨(some 66), (.call 4 [(.t 63), (.t 64), (.t 65)]), (some (62, false))⟩,
   ⟨(some 67), (.mov (.t 4)), (some (62, false))⟩,
   ⟨(some 68), (.bin .lss .num (.t 66) (.t 67)), (some (62, false))⟩,
   ⟨(some 69), (.pick (.t 62) (.c (.c (.bool true))) (.t 68)), none⟩])
  (.seq (.kill [2, 4, 11, 14, 15, 52, 53, 54, 69] 0) (.cond (.t 69)
  (.seq (.region [
    ⟨(some 10), (.mov (.c (.c (.bool false)))), none⟩])
   (.ret))
  (.skip)))))))
  (.seq (.kill [2, 4, 11, 14, 15, 52, 53, 54] 0) (.region [
   ⟨(some 70), (.bin .add .num (.t 54) (.c (.c (.int .i64 1)))), none⟩,
   ⟨(some 54), (.mov (.t 70)), none⟩]))))))))))))
 (.seq (.kill [2, 11, 14, 15] 0) (.seq (.region [
  ⟨(some 71), (.mov (.t 15)), none⟩,
  ⟨(some 72), (.len .sl (.t 71)), none⟩,
  ⟨(some 73), (.mov (.t 14)), none⟩,
  ⟨(some 74), (.len .sl (.t 73)), none⟩,
  ⟨(some 75), (.bin .leq .num (.t 72) (.t 74)), none⟩,
  ⟨(some 76), (.mov (.t 75)), none⟩,
  ⟨(some 77), (.mov (.t 11)), (some (76, true))⟩,
  ⟨(some 78), (.mov (.t 2)), (some (76, true))⟩,
  ⟨(some 79), (.call 5 [(.t 77), (.t 78), (.c (.c (.int .i64 256)))]), (some (76, true))⟩,
  ⟨(some 80), (.len .sl (.t 79)), (some (76, true))⟩,
  ⟨(some 81), (.bin .eql .num (.t 80) (.c (.c (.int .i64 0)))), (some (76, true))⟩,
  ⟨(some 82), (.pick (.t 76) (.t 81) (.c (.c (.bool false)))), none⟩,
  ⟨(some 83), (.mov (.t 82)), none⟩,
  ⟨(some 84), (.call 1 []), (some (83, true))⟩,
  ⟨(some 85), (.pick (.t 83) (.t 84) (.c (.c (.bool false)))), none⟩,
  ⟨(some 10), (.mov (.t 85)), none⟩])
 (.ret)))))))))))))))⟩
/-- campanile/campanilelaw20.TopoPlays -/
def n9 : NF := ⟨62, [6],
 .seq (.region [
  ⟨(some 6), (.mov (.c (.c (.bool false)))), none⟩])
 (.seq (.kill [0, 1, 2] 0) (.seq (.region [
  ⟨(some 13), (.mov (.t 0)), none⟩,
  ⟨(some 14), (.mov (.t 1)), none⟩,
  ⟨(some 15), (.call 7 [(.t 13), (.t 14)]), none⟩,
  ⟨(some 12), (.mov (.t 15)), none⟩,
  ⟨(some 16), (.ext (.t 12) 0), none⟩,
  ⟨(some 17), (.ext (.t 12) 1), none⟩,
  ⟨(some 18), (.ext (.t 12) 2), none⟩,
  ⟨(some 7), (.mov (.t 16)), none⟩,
  ⟨(some 8), (.mov (.t 17)), none⟩,
  ⟨(some 9), (.mov (.t 18)), none⟩])
 (.seq (.kill [2, 7, 8, 9] 0) (.seq (.seq (.draw 0 [
  ⟨0, none, ⟨(some 19), (.mov (.t 7)), none⟩, []⟩,
  ⟨1, none, ⟨(some 20), (.bin .eql .ptr (.t 19) (.c (.c .nilp))), none⟩, []⟩,
  ⟨2, none, ⟨(some 21), (.mov (.t 20)), none⟩, []⟩,
  ⟨3, none, ⟨(some 22), (.mov (.t 9)), (some (21, false))⟩, []⟩,
  ⟨4, none, ⟨(some 23), (.bin .neq .num (.t 22) (.c (.c (.int .i64 0)))), (some (21, false))⟩, []⟩,
  ⟨5, none, ⟨(some 24), (.pick (.t 21) (.c (.c (.bool true))) (.t 23)), none⟩, []⟩,
  ⟨6, none, ⟨(some 25), (.mov (.t 24)), none⟩, []⟩,
  ⟨7, none, ⟨(some 26), (.mov (.t 7)), (some (25, false))⟩, []⟩,
  ⟨9, none, ⟨(some 28), (.mov (.t 8)), (some (25, false))⟩, []⟩,
  ⟨10, none, ⟨(some 29), (.nilck (.t 28)), (some (25, false))⟩, []⟩,
  ⟨11, none, ⟨(some 30), (.faddr 0 (.t 29)), (some (25, false))⟩, []⟩,
  ⟨12, none, ⟨(some 31), (.load none (.t 30)), (some (25, false))⟩, []⟩,
  ⟨8, none, ⟨(some 27), (.call 10 [(.t 26)]), (some (25, false))⟩, [(12, ⟨(some 31), (.load none (.t 30)), (some (25, false))⟩)]⟩,
  ⟨13, none, ⟨(some 32), (.bin .neq .num (.t 27) (.t 31)), (some (25, false))⟩, []⟩,
  ⟨14, none, ⟨(some 33), (.pick (.t 25) (.c (.c (.bool true))) (.t 32)), none⟩, []⟩])
 (.seq (.kill [2, 7, 8, 33] 0) (.cond (.t 33)
 (.seq (.region [
   ⟨(some 6), (.mov (.c (.c (.bool false)))), none⟩])
  (.ret))
 (.skip))))
 (.seq (.kill [2, 7, 8] 0) (.seq (.seq (.region [
  ⟨(some 10), (.mov (.c (.c (.int .i64 (-1))))), none⟩])
 (.seq (.kill [2, 7, 8, 10] 0) (.block 0 (.loop (.seq (.kill [2, 7, 8, 10] 0) (.seq (.seq (.region [
   ⟨(some 34), (.mov (.t 10)), none⟩,
   ⟨(some 35), (.bin .leq .num (.t 34) (.c (.c (.int .i64 16)))), none⟩])
  (.seq (.kill [2, 7, 8, 10, 35] 0) (.cond (.t 35)
  (.skip)
  (.exit 0))))
  (.seq (.kill [2, 7, 8, 10] 0) (.seq (.block 1 (.seq (.seq (.region [
   ⟨(some 11), (.mov (.c (.c (.int .i64 (-1))))), none⟩])
  (.seq (.kill [2, 7, 8, 10, 11] 0) (.block 2 (.loop (.seq (.kill [2, 7, 8, 10, 11] 0) (.seq (.seq (.region [
    ⟨(some 38), (.mov (.t 11)), none⟩,
    ⟨(some 39), (.bin .leq .num (.t 38) (.c (.c (.int .i64 16)))), none⟩])
   (.seq (.kill [2, 7, 8, 10, 11, 39] 0) (.cond (.t 39)
   (.skip)
   (.exit 2))))
   (.seq (.kill [2, 7, 8, 10, 11] 0) (.seq (.block 3 (.seq (.region [
    ⟨(some 42), (.mov (.t 7)), none⟩,
    ⟨(some 43), (.mov (.t 10)), none⟩,
    ⟨(some 44), (.mov (.t 11)), none⟩,
    ⟨(some 45), (.call 4 [(.t 42), (.t 43), (.t 44)]), none⟩,
    ⟨(some 46), (.mov (.t 8)), none⟩,
    ⟨(some 47), (.mov (.t 10)), none⟩,
    ⟨(some 48), (.mov (.t 11)), none⟩,
    ⟨(some 49), (.call 11 [(.t 46), (.t 47), (.t 48)]), none⟩,
    ⟨(some 50), (.bin .neq .num (.t 45) (.t 49)), none⟩])
   (.seq (.kill [2, 7, 8, 10, 11, 50] 0) (.cond (.t 50)
   (.seq (.region [
     ⟨(some 6), (.mov (.c (.c (.bool false)))), none⟩])
    (.ret))
   (.skip)))))
   (.seq (.kill [2, 7, 8, 10, 11] 0) (.region [
    ⟨(some 40), (.mov (.t 11)), none⟩,
    ⟨(some 41), (.bin .add .num (.t 40) (.c (.c (.int .i64 1)))), none⟩,
    ⟨(some 11), (.mov (.t 41)), none⟩]))))))))))
  (.seq (.kill [2, 7, 8, 10] 0) (.seq (.region [
   ⟨(some 51), (.mov (.t 7)), none⟩,
   ⟨(some 52), (.mov (.t 10)), none⟩,
   ⟨(some 53), (.mov (.t 2)), none⟩,
   ⟨(some 54), (.call 5 [(.t 51), (.t 52), (.t 53)]), none⟩,
   ⟨(some 55), (.mov (.t 8)), none⟩,
   ⟨(some 56), (.mov (.t 10)), none⟩,
   ⟨(some 57), (.mov (.t 2)), none⟩,
   ⟨(some 58), (.call 12 [(.t 55), (.t 56), (.t 57)]), none⟩,
   ⟨(some 59), (.call 13 [(.t 54), (.t 58)]), none⟩,
   ⟨(some 60), (.un .not (.t 59)), none⟩])
  (.seq (.kill [2, 7, 8, 10, 60] 0) (.cond (.t 60)
  (.seq (.region [
    ⟨(some 6), (.mov (.c (.c (.bool false)))), none⟩])
   (.ret))
  (.skip)))))))
  (.seq (.kill [2, 7, 8, 10] 0) (.region [
   ⟨(some 36), (.mov (.t 10)), none⟩,
   ⟨(some 37), (.bin .add .num (.t 36) (.c (.c (.int .i64 1)))), none⟩,
   ⟨(some 10), (.mov (.t 37)), none⟩]))))))))))
 (.seq (.kill [] 0) (.seq (.region [
  ⟨(some 61), (.call 1 []), none⟩,
  ⟨(some 6), (.mov (.t 61)), none⟩])
 (.ret)))))))))⟩
/-- campanile/campanilelaw20.TopoNil -/
def n14 : NF := ⟨37, [4],
 .seq (.region [
  ⟨(some 2), (.box true 3 (.t 0)), none⟩,
  ⟨(some 4), (.mov (.c (.c (.bool false)))), none⟩])
 (.seq (.kill [1, 2] 1) (.seq (.region [
  ⟨(some 5), (.mov (.c (.c .nilp))), none⟩])
 (.seq (.kill [1, 2, 5] 1) (.seq (.region [
  ⟨(some 6), (.mov (.t 5)), none⟩,
  ⟨(some 7), (.mov (.t 1)), none⟩,
  ⟨(some 8), (.call 15 [(.t 6), (.t 7)]), none⟩])
 (.seq (.kill [1, 2, 5] 1) (.seq (.region [
  ⟨(some 9), (.mov (.t 5)), none⟩,
  ⟨(some 10), (.faddr 1 (.t 2)), none⟩,
  ⟨(some 11), (.load none (.t 10)), none⟩,
  ⟨(some 12), (.faddr 2 (.t 2)), none⟩,
  ⟨(some 13), (.load none (.t 12)), none⟩,
  ⟨(some 14), (.call 3 [(.t 9), (.t 11), (.t 13)]), none⟩,
  ⟨(some 15), (.bin .eql .num (.t 14) (.c (.c (.int .i64 1)))), none⟩,
  ⟨(some 16), (.mov (.t 15)), none⟩,
  ⟨(some 17), (.mov (.t 5)), (some (16, true))⟩,
  ⟨(some 18), (.mov (.t 1)), (some (16, true))⟩,
  ⟨(some 19), (.call 4 [(.t 17), (.t 18), (.c (.c (.int .i64 0)))]), (some (16, true))⟩,
  ⟨(some 20), (.bin .eql .num (.t 19) (.c (.c (.int .i64 0)))), (some (16, true))⟩,
  ⟨(some 21), (.pick (.t 16) (.t 20) (.c (.c (.bool false)))), none⟩,
  ⟨(some 22), (.mov (.t 21)), none⟩,
  ⟨(some 23), (.mov (.t 5)), (some (22, true))⟩,
  ⟨(some 24), (.mov (.t 1)), (some (22, true))⟩,
  ⟨(some 25), (.call 5 [(.t 23), (.t 24), (.c (.c (.int .i64 0)))]), (some (22, true))⟩,
  ⟨(some 26), (.len .sl (.t 25)), (some (22, true))⟩,
  ⟨(some 27), (.bin .eql .num (.t 26) (.c (.c (.int .i64 0)))), (some (22, true))⟩,
  ⟨(some 28), (.pick (.t 22) (.t 27) (.c (.c (.bool false)))), none⟩,
  ⟨(some 29), (.mov (.t 28)), none⟩,
  ⟨(some 30), (.mov (.t 5)), (some (29, true))⟩,
  ⟨(some 31), (.call 10 [(.t 30)]), (some (29, true))⟩,
  ⟨(some 32), (.bin .eql .num (.t 31) (.c (.c (.int .i64 0)))), (some (29, true))⟩,
  ⟨(some 33), (.pick (.t 29) (.t 32) (.c (.c (.bool false)))), none⟩,
  ⟨(some 34), (.mov (.t 33)), none⟩,
  ⟨(some 35), (.call 1 []), (some (34, true))⟩,
  ⟨(some 36), (.pick (.t 34) (.t 35) (.c (.c (.bool false)))), none⟩,
  ⟨(some 4), (.mov (.t 36)), none⟩])
 (.ret)))))))⟩
/-- campanile/campanilelaw20.TopoBoth -/
def n16 : NF := ⟨121, [8],
 .seq (.region [
  ⟨(some 8), (.mov (.c (.c (.bool false)))), none⟩])
 (.seq (.kill [0, 1, 2, 3] 0) (.seq (.region [
  ⟨(some 17), (.mov (.t 0)), none⟩,
  ⟨(some 18), (.mov (.t 1)), none⟩,
  ⟨(some 19), (.call 7 [(.t 17), (.t 18)]), none⟩,
  ⟨(some 16), (.mov (.t 19)), none⟩,
  ⟨(some 20), (.ext (.t 16) 0), none⟩,
  ⟨(some 21), (.ext (.t 16) 1), none⟩,
  ⟨(some 22), (.ext (.t 16) 2), none⟩,
  ⟨(some 9), (.mov (.t 20)), none⟩,
  ⟨(some 10), (.mov (.t 21)), none⟩,
  ⟨(some 11), (.mov (.t 22)), none⟩])
 (.seq (.kill [2, 3, 9, 11] 0) (.seq (.seq (.region [
  ⟨(some 23), (.mov (.t 9)), none⟩,
  ⟨(some 24), (.bin .eql .ptr (.t 23) (.c (.c .nilp))), none⟩,
  ⟨(some 25), (.mov (.t 24)), none⟩,
  ⟨(some 26), (.mov (.t 11)), (some (25, false))⟩,
  ⟨(some 27), (.bin .neq .num (.t 26) (.c (.c (.int .i64 0)))), (some (25, false))⟩,
  ⟨(some 28), (.pick (.t 25) (.c (.c (.bool true))) (.t 27)), none⟩])
 (.seq (.kill [2, 3, 9, 28] 0) (.cond (.t 28)
 (.seq (.region [
   ⟨(some 8), (.mov (.c (.c (.bool false)))), none⟩])
  (.ret))
 (.skip))))
 (.seq (.kill [2, 3, 9] 0) (.seq (.region [
  ⟨(some 29), (.mov (.t 9)), none⟩,
  ⟨(some 30), (.call 10 [(.t 29)]), none⟩,
  ⟨(some 12), (.mov (.t 30)), none⟩])
 (.seq (.kill [2, 3, 9, 12] 0) (.seq (.seq (.region [
  ⟨(some 31), (.mov (.t 12)), none⟩,
  ⟨(some 32), (.bin .lss .num (.t 31) (.c (.c (.int .i64 1)))), none⟩])
 (.seq (.kill [2, 3, 9, 12, 32] 0) (.cond (.t 32)
 (.seq (.region [
   ⟨(some 8), (.mov (.c (.c (.bool false)))), none⟩])
  (.ret))
 (.skip))))
 (.seq (.kill [2, 3, 9, 12] 0) (.seq (.region [
  ⟨(some 33), (.mov (.t 3)), none⟩,
  ⟨(some 34), (.conv (.toInt .u64) (.t 33)), none⟩,
  ⟨(some 35), (.mov (.t 12)), none⟩,
  ⟨(some 36), (.conv (.toInt .u64) (.t 35)), none⟩,
  ⟨(some 37), (.bin .rem .num (.t 34) (.t 36)), none⟩,
  ⟨(some 38), (.conv (.toInt .i64) (.t 37)), none⟩,
  ⟨(some 3), (.mov (.t 38)), none⟩])
 (.seq (.kill [2, 3, 9, 12] 0) (.seq (.seq (.region [
  ⟨(some 39), (.mov (.c (.c (.int .i64 0)))), none⟩])
 (.seq (.kill [2, 3, 9, 12, 39] 0) (.block 0 (.loop (.seq (.kill [2, 3, 9, 12, 39] 0) (.seq (.region [
   ⟨(some 40), (.bin .lss .num (.t 39) (.c (.c (.int .i64 2)))), none⟩])
  (.seq (.kill [2, 3, 9, 12, 39, 40] 0) (.seq (.cond (.t 40)
  (.skip)
  (.exit 0))
  (.seq (.kill [2, 3, 9, 12, 39] 0) (.seq (.block 1 (.seq (.region [
   ⟨(some 41), (.mov (.t 39)), none⟩,
   ⟨(some 13), (.mov (.t 41)), none⟩])
  (.seq (.kill [2, 3, 9, 12, 13, 39] 0) (.seq (.seq (.region [
   ⟨(some 42), (.mov (.t 12)), none⟩,
   ⟨(some 43), (.mov (.c (.c (.int .i64 0)))), none⟩])
  (.seq (.kill [2, 3, 9, 12, 13, 39, 42, 43] 0) (.block 2 (.loop (.seq (.kill [2, 3, 9, 12, 13, 39, 42, 43] 0) (.seq (.region [
    ⟨(some 44), (.bin .lss .num (.t 43) (.t 42)), none⟩])
   (.seq (.kill [2, 3, 9, 12, 13, 39, 42, 43, 44] 0) (.seq (.cond (.t 44)
   (.skip)
   (.exit 2))
   (.seq (.kill [2, 3, 9, 12, 13, 39, 42, 43] 0) (.seq (.block 3 (.seq (.region [
    ⟨(some 45), (.mov (.t 43)), none⟩,
    ⟨(some 14), (.mov (.t 45)), none⟩])
   (.seq (.kill [2, 3, 9, 12, 13, 14, 39, 42, 43] 0) (.seq (.region [
    ⟨(some 46), (.mov (.t 12)), none⟩,
    ⟨(some 47), (.mov (.c (.c (.int .i64 0)))), none⟩])
   (.seq (.kill [2, 3, 9, 12, 13, 14, 39, 42, 43, 46, 47] 0) (.block 4 (.loop (.seq (.kill [2, 3, 9, 12, 13, 14, 39, 42, 43, 46, 47] 0) (.seq (.region [
     ⟨(some 48), (.bin .lss .num (.t 47) (.t 46)), none⟩])
    (.seq (.kill [2, 3, 9, 12, 13, 14, 39, 42, 43, 46, 47, 48] 0) (.seq (.cond (.t 48)
    (.skip)
    (.exit 4))
    (.seq (.kill [2, 3, 9, 12, 13, 14, 39, 42, 43, 46, 47] 0) (.seq (.block 5 (.seq (.region [
     ⟨(some 49), (.mov (.t 47)), none⟩,
     ⟨(some 15), (.mov (.t 49)), none⟩])
    (.seq (.kill [2, 3, 9, 12, 13, 14, 15, 39, 42, 43, 46, 47] 0) (.seq (.region [
     ⟨(some 50), (.mov (.t 9)), none⟩,
     ⟨(some 51), (.mov (.t 14)), none⟩,
     ⟨(some 52), (.mov (.t 15)), none⟩,
     ⟨(some 53), (.call 4 [(.t 50), (.t 51), (.t 52)]), none⟩,
     ⟨(some 54), (.mov (.t 9)), none⟩,
     ⟨(some 55), (.mov (.t 15)), none⟩,
     ⟨(some 56), (.mov (.t 14)), none⟩,
     ⟨(some 57), (.call 4 [(.t 54), (.t 55), (.t 56)]), none⟩,
     ⟨(some 58), (.bin .neq .num (.t 53) (.t 57)), none⟩,
     ⟨(some 59), (.mov (.t 58)), none⟩,
     ⟨(some 60), (.mov (.t 14)), (some (59, false))⟩,
     ⟨(some 61), (.mov (.t 15)), (some (59, false))⟩,
     ⟨(some 62), (.bin .eql .num (.t 60) (.t 61)), (some (59, false))⟩,
     ⟨(some 63), (.mov (.t 62)), (some (59, false))⟩,
     ⟨(some 64), (.mov (.t 9)), (some (63, true))⟩,
     ⟨(some 65), (.mov (.t 14)), (some (63, true))⟩,
     ⟨(some 66), (.mov (.t 15)), (some (63, true))⟩,
     ⟨(some 67), (.call 4 [(.t 64), (.t 65), (.t 66)]), (some (63, true))⟩,
     ⟨(some 68), (.bin .neq .num (.t 67) (.c (.c (.int .i64 0)))), (some (63, true))⟩,
     ⟨(some 69), (.pick (.t 63) (.t 68) (.c (.c (.bool false)))), (some (59, false))⟩,
     ⟨(some 70), (.pick (.t 59) (.c (.c (.bool true))) (.t 69)), none⟩,
     ⟨(some 71), (.mov (.t 70)), none⟩,
     ⟨(some 72), (.mov (.t 9)), (some (71, false))⟩,
     ⟨(some 73), (.mov (.t 14)), (some (71, false))⟩,
     ⟨(some 74), (.mov (.t 2)), (some (71, false))⟩,
     ⟨(some 75), (.call 5 [(.t 72), (.t 73), (.t 74)]), (some (71, false))⟩,
     ⟨(some 76), (.mov (.t 15)), (some (71, false))⟩,
     ⟨(some 77), (.call 8 [(.t 75), (.t 76)]), (some (71, false))⟩,
     ⟨(some 78), (.mov (.t 9)), (some (71, false))⟩,
     ⟨(some 79), (.mov (.t 15)), (some (71, false))⟩,
     ⟨(some 80), (.mov (.t 2)), (some (71, false))⟩,
     ⟨(some 81), (.call 5 [(.t 78), (.t 79), (.t 80)]), (some (71, false))⟩,
     ⟨(some 82), (.mov (.t 14)), (some (71, false))⟩,
     ⟨(some 83), (.call 8 [(.t 81), (.t 82)]), (some (71, false))⟩,
     ⟨(some 84), (.bin .neq .bool (.t 77) (.t 83)), (some (71, false))⟩,
     ⟨(some 85), (.pick (.t 71) (.c (.c (.bool true))) (.t 84)), none⟩,
     ⟨(some 86), (.mov (.t 85)), none⟩,
     ⟨(some 87), (.mov (.t 13)), (some (86, false))⟩,
     ⟨(some 88), (.bin .eql .num (.t 87) (.c (.c (.int .i64 1)))), (some (86, false))⟩,
     ⟨(some 89), (.mov (.t 88)), (some (86, false))⟩,
     ⟨(some 90), (.mov (.t 14)), (some (89, true))⟩,
     ⟨(some 91), (.mov (.t 3)), (some (89, true))⟩,
     ⟨(some 92), (.bin .eql .num (.t 90) (.t 91)), (some (89, true))⟩,
     ⟨(some 93), (.mov (.t 92)), (some (89, true))⟩,
     ⟨(some 94), (.mov (.t 15)), (some (93, false))⟩,
     ⟨(some 95), (.mov (.t 3)), (some (93, false))⟩,
     ⟨(some 96), (.bin .eql .num (.t 94) (.t 95)), (some (93, false))⟩,
     ⟨(some 97), (.pick (.t 93) (.c (.c (.bool true))) (.t 96)), (some (89, true))⟩,
     ⟨(some 98), (.pick (.t 89) (.t 97) (.c (.c (.bool false)))), (some (86, false))⟩,
     ⟨(some 99), (.mov (.t 98)), (some (86, false))⟩,
     ⟨(some 100), (.mov (.t 9)), (some (99, true))⟩,
     ⟨(some 101), (.mov (.t 14)), (some (99, true))⟩,
     ⟨(some 102), (.mov (.t 15)), (some (99, true))⟩,
     ⟨(some 103), (.call 4 [(.t 100), (.t 101), (.t 102)]), (some (99, true))⟩,
     ⟨(some 104), (.bin .neq .num (.t 103) (.c (.c (.int .i64 0)))), (some (99, true))⟩,
     ⟨(some 105), (.pick (.t 99) (.t 104) (.c (.c (.bool false)))), (some (86, false))⟩,
     ⟨(some 106), (.pick (.t 86) (.c (.c (.bool true))) (.t 105)), none⟩])
    (.seq (.kill [2, 3, 9, 12, 13, 14, 39, 42, 43, 46, 47, 106] 0) (.cond (.t 106)
    (.seq (.region [
      ⟨(some 8), (.mov (.c (.c (.bool false)))), none⟩])
     (.ret))
    (.skip)))))))
    (.seq (.kill [2, 3, 9, 12, 13, 14, 39, 42, 43, 46, 47] 0) (.region [
     ⟨(some 107), (.bin .add .num (.t 47) (.c (.c (.int .i64 1)))), none⟩,
     ⟨(some 47), (.mov (.t 107)), none⟩])))))))))))))))
   (.seq (.kill [2, 3, 9, 12, 13, 39, 42, 43] 0) (.region [
    ⟨(some 108), (.bin .add .num (.t 43) (.c (.c (.int .i64 1)))), none⟩,
    ⟨(some 43), (.mov (.t 108)), none⟩]))))))))))))
  (.seq (.kill [2, 3, 9, 12, 39] 0) (.region [
   ⟨(some 109), (.mov (.t 9)), none⟩,
   ⟨(some 110), (.mov (.t 3)), none⟩,
   ⟨(some 111), (.call 15 [(.t 109), (.t 110)]), none⟩]))))))
  (.seq (.kill [2, 3, 9, 12, 39] 0) (.region [
   ⟨(some 112), (.bin .add .num (.t 39) (.c (.c (.int .i64 1)))), none⟩,
   ⟨(some 39), (.mov (.t 112)), none⟩]))))))))))))
 (.seq (.kill [3, 9] 0) (.seq (.region [
  ⟨(some 113), (.mov (.t 9)), none⟩,
  ⟨(some 114), (.mov (.t 3)), none⟩,
  ⟨(some 115), (.call 5 [(.t 113), (.t 114), (.c (.c (.int .i64 0)))]), none⟩,
  ⟨(some 116), (.len .sl (.t 115)), none⟩,
  ⟨(some 117), (.bin .eql .num (.t 116) (.c (.c (.int .i64 0)))), none⟩,
  ⟨(some 118), (.mov (.t 117)), none⟩,
  ⟨(some 119), (.call 1 []), (some (118, true))⟩,
  ⟨(some 120), (.pick (.t 118) (.t 119) (.c (.c (.bool false)))), none⟩,
  ⟨(some 8), (.mov (.t 120)), none⟩])
 (.ret)))))))))))))))⟩
/-- campanile/campanilelaw20.awake -/
def n1 : NF := ⟨36, [0],
 .seq (.region [
  ⟨(some 0), (.mov (.c (.c (.bool false)))), none⟩])
 (.seq (.kill [] 0) (.seq (.region [
  ⟨(some 4), (.call 2 [(.c (.c (.int .i64 3)))]), none⟩,
  ⟨(some 1), (.mov (.t 4)), none⟩])
 (.seq (.kill [1] 0) (.seq (.region [
  ⟨(some 5), (.mov (.t 1)), none⟩,
  ⟨(some 6), (.build [(.int .i64 0), (.int .i64 0), (.int .i64 0)] [(0, (1, (.c (.c (.int .i64 0))))), (1, (1, (.c (.c (.int .i64 1))))), (2, (1, (.c (.c (.int .i64 9)))))]), none⟩,
  ⟨(some 7), (.bslice false 3 1 [(.int .i64 0), (.int .i64 0), (.int .i64 0)] [(0, (3, (.t 6)))]), none⟩,
  ⟨(some 8), (.call 3 [(.t 5), (.c (.c (.int .i64 0))), (.t 7)]), none⟩,
  ⟨(some 9), (.mov (.t 1)), none⟩,
  ⟨(some 10), (.build [(.int .i64 0), (.int .i64 0), (.int .i64 0)] [(0, (1, (.c (.c (.int .i64 1))))), (1, (1, (.c (.c (.int .i64 0))))), (2, (1, (.c (.c (.int .i64 7)))))]), none⟩,
  ⟨(some 11), (.bslice false 3 1 [(.int .i64 0), (.int .i64 0), (.int .i64 0)] [(0, (3, (.t 10)))]), none⟩,
  ⟨(some 12), (.call 3 [(.t 9), (.c (.c (.int .i64 1))), (.t 11)]), none⟩,
  ⟨(some 2), (.mov (.t 8)), none⟩,
  ⟨(some 3), (.mov (.t 12)), none⟩])
 (.seq (.kill [1, 2, 3] 0) (.seq (.region [
  ⟨(some 13), (.mov (.t 2)), none⟩,
  ⟨(some 14), (.bin .eql .num (.t 13) (.c (.c (.int .i64 0)))), none⟩,
  ⟨(some 15), (.mov (.t 14)), none⟩,
  ⟨(some 16), (.mov (.t 3)), (some (15, true))⟩,
  ⟨(some 17), (.bin .eql .num (.t 16) (.c (.c (.int .i64 0)))), (some (15, true))⟩,
  ⟨(some 18), (.pick (.t 15) (.t 17) (.c (.c (.bool false)))), none⟩,
  ⟨(some 19), (.mov (.t 18)), none⟩,
  ⟨(some 20), (.mov (.t 1)), (some (19, true))⟩,
  ⟨(some 21), (.call 4 [(.t 20), (.c (.c (.int .i64 0))), (.c (.c (.int .i64 1)))]), (some (19, true))⟩,
  ⟨(some 22), (.bin .eql .num (.t 21) (.c (.c (.int .i64 7)))), (some (19, true))⟩,
  ⟨(some 23), (.pick (.t 19) (.t 22) (.c (.c (.bool false)))), none⟩,
  ⟨(some 24), (.mov (.t 23)), none⟩,
  ⟨(some 25), (.mov (.t 1)), (some (24, true))⟩,
  ⟨(some 26), (.call 5 [(.t 25), (.c (.c (.int .i64 0))), (.c (.c (.int .i64 7)))]), (some (24, true))⟩,
  ⟨(some 27), (.len .sl (.t 26)), (some (24, true))⟩,
  ⟨(some 28), (.bin .eql .num (.t 27) (.c (.c (.int .i64 1)))), (some (24, true))⟩,
  ⟨(some 29), (.pick (.t 24) (.t 28) (.c (.c (.bool false)))), none⟩,
  ⟨(some 30), (.mov (.t 29)), none⟩,
  ⟨(some 31), (.mov (.t 1)), (some (30, true))⟩,
  ⟨(some 32), (.call 5 [(.t 31), (.c (.c (.int .i64 0))), (.c (.c (.int .i64 8)))]), (some (30, true))⟩,
  ⟨(some 33), (.len .sl (.t 32)), (some (30, true))⟩,
  ⟨(some 34), (.bin .eql .num (.t 33) (.c (.c (.int .i64 0)))), (some (30, true))⟩,
  ⟨(some 35), (.pick (.t 30) (.t 34) (.c (.c (.bool false)))), none⟩,
  ⟨(some 0), (.mov (.t 35)), none⟩])
 (.ret)))))))⟩
/-- campanile/topo.New -/
def n2 : NF := ⟨9, [2],
 .seq (.region [
  ⟨(some 2), (.mov (.c (.c .nilp))), none⟩])
 (.seq (.kill [0] 0) (.seq (.region [
  ⟨(some 3), (.mov (.t 0)), none⟩,
  ⟨(some 4), (.min [(.t 3), (.c (.c (.int .i64 16)))]), none⟩,
  ⟨(some 5), (.max [(.c (.c (.int .i64 1))), (.t 4)]), none⟩,
  ⟨(some 6), .mkmap, none⟩,
  ⟨(some 7), (.build [(.int .i64 0), .nilm] [(0, (1, (.t 5))), (1, (1, (.t 6)))]), none⟩,
  ⟨(some 8), (.box false 2 (.t 7)), none⟩,
  ⟨(some 2), (.mov (.t 8)), none⟩])
 (.ret)))⟩
/-- (*campanile/topo.Graph).Report -/
def n3 : NF := ⟨47, [6],
 .seq (.region [
  ⟨(some 6), (.mov (.c (.c (.int .i64 0)))), none⟩])
 (.seq (.kill [0, 1, 2] 0) (.seq (.seq (.region [
  ⟨(some 10), (.mov (.t 0)), none⟩,
  ⟨(some 11), (.mov (.t 1)), none⟩,
  ⟨(some 12), (.mov (.t 2)), none⟩,
  ⟨(some 13), (.call 17 [(.t 10), (.t 11), (.t 12)]), none⟩,
  ⟨(some 14), (.un .not (.t 13)), none⟩])
 (.seq (.kill [0, 1, 2, 14] 0) (.cond (.t 14)
 (.seq (.region [
   ⟨(some 6), (.mov (.c (.c (.int .i64 1)))), none⟩])
  (.ret))
 (.skip))))
 (.seq (.kill [0, 1, 2] 0) (.seq (.seq (.region [
  ⟨(some 15), (.mov (.t 0)), none⟩,
  ⟨(some 16), (.nilck (.t 15)), none⟩,
  ⟨(some 17), (.faddr 0 (.t 16)), none⟩,
  ⟨(some 18), (.load none (.t 17)), none⟩,
  ⟨(some 19), (.mov (.c (.c (.int .i64 0)))), none⟩])
 (.seq (.kill [0, 1, 2, 18, 19] 0) (.block 0 (.loop (.seq (.kill [0, 1, 2, 18, 19] 0) (.seq (.region [
   ⟨(some 20), (.bin .lss .num (.t 19) (.t 18)), none⟩])
  (.seq (.kill [0, 1, 2, 18, 19, 20] 0) (.seq (.cond (.t 20)
  (.skip)
  (.exit 0))
  (.seq (.kill [0, 1, 2, 18, 19] 0) (.seq (.block 1 (.seq (.region [
   ⟨(some 21), (.mov (.t 19)), none⟩,
   ⟨(some 7), (.mov (.t 21)), none⟩])
  (.seq (.kill [0, 1, 2, 7, 18, 19] 0) (.region [
   ⟨(some 22), (.mov (.t 0)), none⟩,
   ⟨(some 23), (.nilck (.t 22)), none⟩,
   ⟨(some 24), (.faddr 1 (.t 23)), none⟩,
   ⟨(some 25), (.load none (.t 24)), none⟩,
   ⟨(some 26), (.mov (.t 1)), none⟩,
   ⟨(some 27), (.mov (.t 7)), none⟩,
   ⟨(some 28), (.build [(.int .i64 0), (.int .i64 0)] [(0, (1, (.t 26))), (1, (1, (.t 27)))]), none⟩,
   ⟨none, (.mdel (.arr 2 .i64) (.t 25) (.t 28)), none⟩]))))
  (.seq (.kill [0, 1, 2, 18, 19] 0) (.region [
   ⟨(some 29), (.bin .add .num (.t 19) (.c (.c (.int .i64 1)))), none⟩,
   ⟨(some 19), (.mov (.t 29)), none⟩]))))))))))))
 (.seq (.kill [0, 1, 2] 0) (.seq (.seq (.region [
  ⟨(some 30), (.mov (.t 2)), none⟩,
  ⟨(some 31), (.len .sl (.t 30)), none⟩,
  ⟨(some 32), (.mov (.c (.c (.int .i64 0)))), none⟩])
 (.seq (.kill [0, 1, 30, 31, 32] 0) (.block 2 (.loop (.seq (.kill [0, 1, 30, 31, 32] 0) (.seq (.region [
   ⟨(some 33), (.bin .lss .num (.t 32) (.t 31)), none⟩])
  (.seq (.kill [0, 1, 30, 31, 32, 33] 0) (.seq (.cond (.t 33)
  (.skip)
  (.exit 2))
  (.seq (.kill [0, 1, 30, 31, 32] 0) (.seq (.block 3 (.seq (.region [
   ⟨(some 34), (.iaddr 3 (.t 30) (.t 32)), none⟩,
   ⟨(some 35), (.load (some 3) (.t 34)), none⟩,
   ⟨(some 9), (.box true 3 (.c (.agg [(.int .i64 0), (.int .i64 0), (.int .i64 0)]))), none⟩,
   ⟨none, (.store 3 (.t 9) (.t 35)), none⟩])
  (.seq (.kill [0, 1, 9, 30, 31, 32] 1) (.draw 0 [
   ⟨0, none, ⟨(some 36), (.mov (.t 0)), none⟩, []⟩,
   ⟨1, none, ⟨(some 37), (.nilck (.t 36)), none⟩, []⟩,
   ⟨2, none, ⟨(some 38), (.faddr 1 (.t 37)), none⟩, []⟩,
   ⟨3, none, ⟨(some 39), (.load none (.t 38)), none⟩, []⟩,
   ⟨4, none, ⟨(some 40), (.mov (.t 1)), none⟩, []⟩,
   ⟨5, none, ⟨(some 41), (.faddr 1 (.t 9)), none⟩, []⟩,
   ⟨6, none, ⟨(some 42), (.load none (.t 41)), none⟩, []⟩,
   ⟨7, none, ⟨(some 43), (.build [(.int .i64 0), (.int .i64 0)] [(0, (1, (.t 40))), (1, (1, (.t 42)))]), none⟩, []⟩,
   ⟨8, none, ⟨(some 44), (.faddr 2 (.t 9)), none⟩, []⟩,
   ⟨9, none, ⟨(some 45), (.load none (.t 44)), none⟩, []⟩,
   ⟨10, none, ⟨none, (.mupd (.arr 2 .i64) (.t 39) (.t 43) (.t 45)), none⟩, []⟩]))))
  (.seq (.kill [0, 1, 30, 31, 32] 0) (.region [
   ⟨(some 46), (.bin .add .num (.t 32) (.c (.c (.int .i64 1)))), none⟩,
   ⟨(some 32), (.mov (.t 46)), none⟩]))))))))))))
 (.seq (.kill [] 0) (.seq (.region [
  ⟨(some 6), (.mov (.c (.c (.int .i64 0)))), none⟩])
 (.ret)))))))))⟩
/-- (*campanile/topo.Graph).Quality -/
def n4 : NF := ⟨26, [6],
 .seq (.region [
  ⟨(some 6), (.mov (.c (.c (.int .i64 0)))), none⟩])
 (.seq (.kill [0, 1, 2] 0) (.seq (.seq (.region [
  ⟨(some 7), (.mov (.t 0)), none⟩,
  ⟨(some 8), (.bin .eql .ptr (.t 7) (.c (.c .nilp))), none⟩])
 (.seq (.kill [0, 1, 2, 8] 0) (.cond (.t 8)
 (.seq (.region [
   ⟨(some 6), (.mov (.c (.c (.int .i64 0)))), none⟩])
  (.ret))
 (.skip))))
 (.seq (.kill [0, 1, 2] 0) (.seq (.draw 0 [
  ⟨0, none, ⟨(some 9), (.mov (.t 0)), none⟩, []⟩,
  ⟨1, none, ⟨(some 10), (.nilck (.t 9)), none⟩, []⟩,
  ⟨2, none, ⟨(some 11), (.faddr 1 (.t 10)), none⟩, []⟩,
  ⟨3, none, ⟨(some 12), (.load none (.t 11)), none⟩, []⟩,
  ⟨4, none, ⟨(some 13), (.mov (.t 1)), none⟩, []⟩,
  ⟨5, none, ⟨(some 14), (.mov (.t 2)), none⟩, []⟩,
  ⟨6, none, ⟨(some 15), (.build [(.int .i64 0), (.int .i64 0)] [(0, (1, (.t 13))), (1, (1, (.t 14)))]), none⟩, []⟩,
  ⟨7, none, ⟨(some 16), (.look (.arr 2 .i64) (.c (.int .i64 0)) false (.t 12) (.t 15)), none⟩, []⟩,
  ⟨8, none, ⟨(some 17), (.mov (.t 0)), none⟩, []⟩,
  ⟨9, none, ⟨(some 18), (.nilck (.t 17)), none⟩, []⟩,
  ⟨10, none, ⟨(some 19), (.faddr 1 (.t 18)), none⟩, []⟩,
  ⟨11, none, ⟨(some 20), (.load none (.t 19)), none⟩, []⟩,
  ⟨12, none, ⟨(some 21), (.mov (.t 2)), none⟩, []⟩,
  ⟨13, none, ⟨(some 22), (.mov (.t 1)), none⟩, []⟩,
  ⟨14, none, ⟨(some 23), (.build [(.int .i64 0), (.int .i64 0)] [(0, (1, (.t 21))), (1, (1, (.t 22)))]), none⟩, []⟩,
  ⟨15, none, ⟨(some 24), (.look (.arr 2 .i64) (.c (.int .i64 0)) false (.t 20) (.t 23)), none⟩, []⟩,
  ⟨16, none, ⟨(some 25), (.min [(.t 16), (.t 24)]), none⟩, []⟩,
  ⟨17, none, ⟨(some 6), (.mov (.t 25)), none⟩, []⟩])
 (.ret)))))⟩
/-- (*campanile/topo.Graph).Near -/
def n5 : NF := ⟨38, [6],
 .seq (.region [
  ⟨(some 6), (.mov (.c (.c .nils))), none⟩])
 (.seq (.kill [0, 1, 2] 0) (.seq (.seq (.region [
  ⟨(some 10), (.mov (.t 0)), none⟩,
  ⟨(some 11), (.mov (.t 1)), none⟩,
  ⟨(some 12), (.call 18 [(.t 10), (.t 11)]), none⟩,
  ⟨(some 13), (.un .not (.t 12)), none⟩])
 (.seq (.kill [0, 1, 2, 13] 0) (.cond (.t 13)
 (.seq (.region [
   ⟨(some 6), (.mov (.c (.c .nils))), none⟩])
  (.ret))
 (.skip))))
 (.seq (.kill [0, 1, 2] 0) (.seq (.region [
  ⟨(some 7), (.mov (.c (.c .nils))), none⟩])
 (.seq (.kill [0, 1, 2, 7] 0) (.seq (.seq (.region [
  ⟨(some 14), (.mov (.t 0)), none⟩,
  ⟨(some 15), (.nilck (.t 14)), none⟩,
  ⟨(some 16), (.faddr 0 (.t 15)), none⟩,
  ⟨(some 17), (.load none (.t 16)), none⟩,
  ⟨(some 18), (.mov (.c (.c (.int .i64 0)))), none⟩])
 (.seq (.kill [0, 1, 2, 7, 17, 18] 0) (.block 0 (.loop (.seq (.kill [0, 1, 2, 7, 17, 18] 0) (.seq (.region [
   ⟨(some 19), (.bin .lss .num (.t 18) (.t 17)), none⟩])
  (.seq (.kill [0, 1, 2, 7, 17, 18, 19] 0) (.seq (.cond (.t 19)
  (.skip)
  (.exit 0))
  (.seq (.kill [0, 1, 2, 7, 17, 18] 0) (.seq (.block 1 (.seq (.region [
   ⟨(some 20), (.mov (.t 18)), none⟩,
   ⟨(some 8), (.mov (.t 20)), none⟩])
  (.seq (.kill [0, 1, 2, 7, 8, 17, 18] 0) (.seq (.region [
   ⟨(some 21), (.mov (.t 0)), none⟩,
   ⟨(some 22), (.mov (.t 1)), none⟩,
   ⟨(some 23), (.mov (.t 8)), none⟩,
   ⟨(some 24), (.call 4 [(.t 21), (.t 22), (.t 23)]), none⟩,
   ⟨(some 9), (.mov (.t 24)), none⟩])
  (.seq (.kill [0, 1, 2, 7, 8, 9, 17, 18] 0) (.seq (.region [
   ⟨(some 25), (.mov (.t 9)), none⟩,
   ⟨(some 26), (.bin .gtr .num (.t 25) (.c (.c (.int .i64 0)))), none⟩,
   ⟨(some 27), (.mov (.t 26)), none⟩,
   ⟨(some 28), (.mov (.t 9)), (some (27, true))⟩,
   ⟨(some 29), (.mov (.t 2)), (some (27, true))⟩,
   ⟨(some 30), (.bin .geq .num (.t 28) (.t 29)), (some (27, true))⟩,
   ⟨(some 31), (.pick (.t 27) (.t 30) (.c (.c (.bool false)))), none⟩])
  (.seq (.kill [0, 1, 2, 7, 8, 17, 18, 31] 0) (.cond (.t 31)
  (.region [
    ⟨(some 32), (.mov (.t 7)), none⟩,
    ⟨(some 33), (.mov (.t 8)), none⟩,
    ⟨(some 34), (.bslice true 1 1 [(.int .i64 0)] [(0, (1, (.t 33)))]), none⟩,
    ⟨(some 35), (.app 1 8 (.t 32) (.t 34)), none⟩,
    ⟨(some 7), (.mov (.t 35)), none⟩])
  (.skip)))))))))
  (.seq (.kill [0, 1, 2, 7, 17, 18] 0) (.region [
   ⟨(some 36), (.bin .add .num (.t 18) (.c (.c (.int .i64 1)))), none⟩,
   ⟨(some 18), (.mov (.t 36)), none⟩]))))))))))))
 (.seq (.kill [7] 0) (.seq (.region [
  ⟨(some 37), (.mov (.t 7)), none⟩,
  ⟨(some 6), (.mov (.t 37)), none⟩])
 (.ret)))))))))⟩
/-- campanile/campanilelaw20.Made -/
def n7 : NF := ⟨58, [4, 5, 6],
 .seq (.region [
  ⟨(some 4), (.mov (.c (.c .nilp))), none⟩,
  ⟨(some 5), (.mov (.c (.c .nilp))), none⟩,
  ⟨(some 6), (.mov (.c (.c (.int .i64 0)))), none⟩])
 (.seq (.kill [0, 1] 0) (.seq (.region [
  ⟨(some 11), (.mov (.t 0)), none⟩,
  ⟨(some 12), (.call 2 [(.t 11)]), none⟩,
  ⟨(some 13), (.mov (.t 0)), none⟩,
  ⟨(some 14), (.call 19 [(.t 13)]), none⟩,
  ⟨(some 7), (.mov (.t 12)), none⟩,
  ⟨(some 8), (.mov (.t 14)), none⟩])
 (.seq (.kill [1, 7, 8] 0) (.seq (.seq (.region [
  ⟨(some 15), (.mov (.t 1)), none⟩,
  ⟨(some 16), (.len .sl (.t 15)), none⟩,
  ⟨(some 17), (.mov (.c (.c (.int .i64 0)))), none⟩])
 (.seq (.kill [7, 8, 15, 16, 17] 0) (.block 0 (.loop (.seq (.kill [7, 8, 15, 16, 17] 0) (.seq (.region [
   ⟨(some 18), (.bin .lss .num (.t 17) (.t 16)), none⟩])
  (.seq (.kill [7, 8, 15, 16, 17, 18] 0) (.seq (.cond (.t 18)
  (.skip)
  (.exit 0))
  (.seq (.kill [7, 8, 15, 16, 17] 0) (.seq (.block 1 (.seq (.region [
   ⟨(some 19), (.mov (.t 17)), none⟩,
   ⟨(some 20), (.iaddr 3 (.t 15) (.t 17)), none⟩,
   ⟨(some 21), (.load (some 3) (.t 20)), none⟩,
   ⟨(some 10), (.box true 3 (.c (.agg [(.bool false), (.int .i64 0), .nils]))), none⟩,
   ⟨(some 9), (.mov (.t 19)), none⟩,
   ⟨none, (.store 3 (.t 10) (.t 21)), none⟩])
  (.seq (.kill [7, 8, 9, 10, 15, 16, 17] 1) (.seq (.seq (.region [
   ⟨(some 22), (.mov (.t 9)), none⟩,
   ⟨(some 23), (.bin .geq .num (.t 22) (.c (.c (.int .i64 60)))), none⟩,
   ⟨(some 24), (.mov (.t 23)), none⟩,
   ⟨(some 25), (.faddr 2 (.t 10)), (some (24, false))⟩,
   ⟨(some 26), (.load none (.t 25)), (some (24, false))⟩,
   ⟨(some 27), (.len .sl (.t 26)), (some (24, false))⟩,
   ⟨(some 28), (.bin .gtr .num (.t 27) (.c (.c (.int .i64 60)))), (some (24, false))⟩,
   ⟨(some 29), (.pick (.t 24) (.c (.c (.bool true))) (.t 28)), none⟩])
  (.seq (.kill [7, 8, 10, 15, 16, 17, 29] 1) (.cond (.t 29)
  (.exit 0)
  (.skip))))
  (.seq (.kill [7, 8, 10, 15, 16, 17] 1) (.seq (.region [
   ⟨(some 30), (.faddr 0 (.t 10)), none⟩,
   ⟨(some 31), (.load none (.t 30)), none⟩])
  (.seq (.kill [7, 8, 10, 15, 16, 17, 31] 1) (.cond (.t 31)
  (.seq (.region [
    ⟨(some 32), (.mov (.t 7)), none⟩,
    ⟨(some 33), (.faddr 1 (.t 10)), none⟩,
    ⟨(some 34), (.load none (.t 33)), none⟩,
    ⟨(some 35), (.call 15 [(.t 32), (.t 34)]), none⟩])
   (.seq (.kill [7, 8, 10, 15, 16, 17] 1) (.region [
    ⟨(some 36), (.mov (.t 8)), none⟩,
    ⟨(some 37), (.faddr 1 (.t 10)), none⟩,
    ⟨(some 38), (.load none (.t 37)), none⟩,
    ⟨(some 39), (.call 20 [(.t 36), (.t 38)]), none⟩])))
  (.seq (.draw 0 [
    ⟨0, none, ⟨(some 40), (.mov (.t 7)), none⟩, []⟩,
    ⟨1, none, ⟨(some 41), (.faddr 1 (.t 10)), none⟩, []⟩,
    ⟨2, none, ⟨(some 42), (.load none (.t 41)), none⟩, []⟩,
    ⟨3, none, ⟨(some 43), (.faddr 2 (.t 10)), none⟩, []⟩,
    ⟨4, none, ⟨(some 44), (.load none (.t 43)), none⟩, []⟩,
    ⟨6, none, ⟨(some 46), (.mov (.t 8)), none⟩, []⟩,
    ⟨7, none, ⟨(some 47), (.faddr 1 (.t 10)), none⟩, []⟩,
    ⟨8, none, ⟨(some 48), (.load none (.t 47)), none⟩, []⟩,
    ⟨9, none, ⟨(some 49), (.faddr 2 (.t 10)), none⟩, []⟩,
    ⟨10, none, ⟨(some 50), (.load none (.t 49)), none⟩, []⟩,
    ⟨5, none, ⟨(some 45), (.call 3 [(.t 40), (.t 42), (.t 44)]), none⟩, [(8, ⟨(some 48), (.load none (.t 47)), none⟩), (10, ⟨(some 50), (.load none (.t 49)), none⟩)]⟩,
    ⟨11, none, ⟨(some 51), (.call 21 [(.t 46), (.t 48), (.t 50)]), none⟩, []⟩,
    ⟨12, none, ⟨(some 52), (.bin .neq .num (.t 45) (.t 51)), none⟩, []⟩])
   (.seq (.kill [7, 8, 15, 16, 17, 52] 0) (.cond (.t 52)
   (.seq (.region [
     ⟨(some 53), (.mov (.t 7)), none⟩,
     ⟨(some 54), (.mov (.t 8)), none⟩,
     ⟨(some 4), (.mov (.t 53)), none⟩,
     ⟨(some 5), (.mov (.t 54)), none⟩,
     ⟨(some 6), (.mov (.c (.c (.int .i64 3)))), none⟩])
    (.ret))
   (.skip))))))))))))
  (.seq (.kill [7, 8, 15, 16, 17] 0) (.region [
   ⟨(some 55), (.bin .add .num (.t 17) (.c (.c (.int .i64 1)))), none⟩,
   ⟨(some 17), (.mov (.t 55)), none⟩]))))))))))))
 (.seq (.kill [7, 8] 0) (.seq (.region [
  ⟨(some 56), (.mov (.t 7)), none⟩,
  ⟨(some 57), (.mov (.t 8)), none⟩,
  ⟨(some 4), (.mov (.t 56)), none⟩,
  ⟨(some 5), (.mov (.t 57)), none⟩,
  ⟨(some 6), (.mov (.c (.c (.int .i64 0)))), none⟩])
 (.ret)))))))⟩
/-- campanile/campanilelaw20.has -/
def n8 : NF := ⟨17, [4],
 .seq (.region [
  ⟨(some 4), (.mov (.c (.c (.bool false)))), none⟩])
 (.seq (.kill [0, 1] 0) (.seq (.seq (.region [
  ⟨(some 7), (.mov (.t 0)), none⟩,
  ⟨(some 8), (.len .sl (.t 7)), none⟩,
  ⟨(some 9), (.mov (.c (.c (.int .i64 0)))), none⟩])
 (.seq (.kill [1, 7, 8, 9] 0) (.block 0 (.loop (.seq (.kill [1, 7, 8, 9] 0) (.seq (.region [
   ⟨(some 10), (.bin .lss .num (.t 9) (.t 8)), none⟩])
  (.seq (.kill [1, 7, 8, 9, 10] 0) (.seq (.cond (.t 10)
  (.skip)
  (.exit 0))
  (.seq (.kill [1, 7, 8, 9] 0) (.seq (.block 1 (.seq (.region [
   ⟨(some 11), (.iaddr 1 (.t 7) (.t 9)), none⟩,
   ⟨(some 12), (.load none (.t 11)), none⟩,
   ⟨(some 6), (.mov (.t 12)), none⟩])
  (.seq (.kill [1, 6, 7, 8, 9] 0) (.seq (.region [
   ⟨(some 13), (.mov (.t 6)), none⟩,
   ⟨(some 14), (.mov (.t 1)), none⟩,
   ⟨(some 15), (.bin .eql .num (.t 13) (.t 14)), none⟩])
  (.seq (.kill [1, 7, 8, 9, 15] 0) (.cond (.t 15)
  (.seq (.region [
    ⟨(some 4), (.mov (.c (.c (.bool true)))), none⟩])
   (.ret))
  (.skip)))))))
  (.seq (.kill [1, 7, 8, 9] 0) (.region [
   ⟨(some 16), (.bin .add .num (.t 9) (.c (.c (.int .i64 1)))), none⟩,
   ⟨(some 9), (.mov (.t 16)), none⟩]))))))))))))
 (.seq (.kill [] 0) (.seq (.region [
  ⟨(some 4), (.mov (.c (.c (.bool false)))), none⟩])
 (.ret)))))⟩
/-- (*campanile/topo.Graph).Nodes -/
def n10 : NF := ⟨9, [2],
 .seq (.region [
  ⟨(some 2), (.mov (.c (.c (.int .i64 0)))), none⟩])
 (.seq (.kill [0] 0) (.seq (.seq (.region [
  ⟨(some 3), (.mov (.t 0)), none⟩,
  ⟨(some 4), (.bin .eql .ptr (.t 3) (.c (.c .nilp))), none⟩])
 (.seq (.kill [0, 4] 0) (.cond (.t 4)
 (.seq (.region [
   ⟨(some 2), (.mov (.c (.c (.int .i64 0)))), none⟩])
  (.ret))
 (.skip))))
 (.seq (.kill [0] 0) (.seq (.region [
  ⟨(some 5), (.mov (.t 0)), none⟩,
  ⟨(some 6), (.nilck (.t 5)), none⟩,
  ⟨(some 7), (.faddr 0 (.t 6)), none⟩,
  ⟨(some 8), (.load none (.t 7)), none⟩,
  ⟨(some 2), (.mov (.t 8)), none⟩])
 (.ret)))))⟩
/-- (*campanile/campanileref18.Graph).Quality -/
def n11 : NF := ⟨34, [6],
 .seq (.region [
  ⟨(some 6), (.mov (.c (.c (.int .i64 0)))), none⟩])
 (.seq (.kill [0, 1, 2] 0) (.seq (.seq (.region [
  ⟨(some 7), (.mov (.t 0)), none⟩,
  ⟨(some 8), (.mov (.t 1)), none⟩,
  ⟨(some 9), (.call 22 [(.t 7), (.t 8)]), none⟩,
  ⟨(some 10), (.un .not (.t 9)), none⟩,
  ⟨(some 11), (.mov (.t 10)), none⟩,
  ⟨(some 12), (.mov (.t 0)), (some (11, false))⟩,
  ⟨(some 13), (.mov (.t 2)), (some (11, false))⟩,
  ⟨(some 14), (.call 22 [(.t 12), (.t 13)]), (some (11, false))⟩,
  ⟨(some 15), (.un .not (.t 14)), (some (11, false))⟩,
  ⟨(some 16), (.pick (.t 11) (.c (.c (.bool true))) (.t 15)), none⟩])
 (.seq (.kill [0, 1, 2, 16] 0) (.cond (.t 16)
 (.seq (.region [
   ⟨(some 6), (.mov (.c (.c (.int .i64 0)))), none⟩])
  (.ret))
 (.skip))))
 (.seq (.kill [0, 1, 2] 0) (.seq (.draw 0 [
  ⟨0, none, ⟨(some 17), (.mov (.t 0)), none⟩, []⟩,
  ⟨1, none, ⟨(some 18), (.mov (.t 1)), none⟩, []⟩,
  ⟨2, none, ⟨(some 19), (.mov (.t 2)), none⟩, []⟩,
  ⟨3, none, ⟨(some 20), (.nilck (.t 17)), none⟩, []⟩,
  ⟨4, none, ⟨(some 21), (.faddr 1 (.t 20)), none⟩, []⟩,
  ⟨5, none, ⟨(some 22), (.iaddrA 16 16 (.t 21) (.t 18)), none⟩, []⟩,
  ⟨6, none, ⟨(some 23), (.iaddrA 16 1 (.t 22) (.t 19)), none⟩, []⟩,
  ⟨7, none, ⟨(some 24), (.load none (.t 23)), none⟩, []⟩,
  ⟨8, none, ⟨(some 25), (.mov (.t 0)), none⟩, []⟩,
  ⟨9, none, ⟨(some 26), (.mov (.t 2)), none⟩, []⟩,
  ⟨10, none, ⟨(some 27), (.mov (.t 1)), none⟩, []⟩,
  ⟨11, none, ⟨(some 28), (.nilck (.t 25)), none⟩, []⟩,
  ⟨12, none, ⟨(some 29), (.faddr 1 (.t 28)), none⟩, []⟩,
  ⟨13, none, ⟨(some 30), (.iaddrA 16 16 (.t 29) (.t 26)), none⟩, []⟩,
  ⟨14, none, ⟨(some 31), (.iaddrA 16 1 (.t 30) (.t 27)), none⟩, []⟩,
  ⟨15, none, ⟨(some 32), (.load none (.t 31)), none⟩, []⟩,
  ⟨16, none, ⟨(some 33), (.min [(.t 24), (.t 32)]), none⟩, []⟩,
  ⟨17, none, ⟨(some 6), (.mov (.t 33)), none⟩, []⟩])
 (.ret)))))⟩
/-- campanile/campanileref1.SameInts -/
def n13 : NF := ⟨26, [4],
 .seq (.region [
  ⟨(some 4), (.mov (.c (.c (.bool false)))), none⟩])
 (.seq (.kill [0, 1] 0) (.seq (.seq (.region [
  ⟨(some 6), (.mov (.t 0)), none⟩,
  ⟨(some 7), (.len .sl (.t 6)), none⟩,
  ⟨(some 8), (.mov (.t 1)), none⟩,
  ⟨(some 9), (.len .sl (.t 8)), none⟩,
  ⟨(some 10), (.bin .neq .num (.t 7) (.t 9)), none⟩])
 (.seq (.kill [0, 1, 10] 0) (.cond (.t 10)
 (.seq (.region [
   ⟨(some 4), (.mov (.c (.c (.bool false)))), none⟩])
  (.ret))
 (.skip))))
 (.seq (.kill [0, 1] 0) (.seq (.seq (.region [
  ⟨(some 11), (.mov (.t 0)), none⟩,
  ⟨(some 12), (.len .sl (.t 11)), none⟩,
  ⟨(some 13), (.mov (.c (.c (.int .i64 0)))), none⟩])
 (.seq (.kill [0, 1, 12, 13] 0) (.block 0 (.loop (.seq (.kill [0, 1, 12, 13] 0) (.seq (.region [
   ⟨(some 14), (.bin .lss .num (.t 13) (.t 12)), none⟩])
  (.seq (.kill [0, 1, 12, 13, 14] 0) (.seq (.cond (.t 14)
  (.skip)
  (.exit 0))
  (.seq (.kill [0, 1, 12, 13] 0) (.seq (.block 1 (.seq (.region [
   ⟨(some 15), (.mov (.t 13)), none⟩,
   ⟨(some 5), (.mov (.t 15)), none⟩])
  (.seq (.kill [0, 1, 5, 12, 13] 0) (.seq (.draw 0 [
   ⟨0, none, ⟨(some 16), (.mov (.t 0)), none⟩, []⟩,
   ⟨1, none, ⟨(some 17), (.mov (.t 5)), none⟩, []⟩,
   ⟨2, none, ⟨(some 18), (.iaddr 1 (.t 16) (.t 17)), none⟩, []⟩,
   ⟨3, none, ⟨(some 19), (.load none (.t 18)), none⟩, []⟩,
   ⟨4, none, ⟨(some 20), (.mov (.t 1)), none⟩, []⟩,
   ⟨5, none, ⟨(some 21), (.mov (.t 5)), none⟩, []⟩,
   ⟨6, none, ⟨(some 22), (.iaddr 1 (.t 20) (.t 21)), none⟩, []⟩,
   ⟨7, none, ⟨(some 23), (.load none (.t 22)), none⟩, []⟩,
   ⟨8, none, ⟨(some 24), (.bin .neq .num (.t 19) (.t 23)), none⟩, []⟩])
  (.seq (.kill [0, 1, 12, 13, 24] 0) (.cond (.t 24)
  (.seq (.region [
    ⟨(some 4), (.mov (.c (.c (.bool false)))), none⟩])
   (.ret))
  (.skip)))))))
  (.seq (.kill [0, 1, 12, 13] 0) (.region [
   ⟨(some 25), (.bin .add .num (.t 13) (.c (.c (.int .i64 1)))), none⟩,
   ⟨(some 13), (.mov (.t 25)), none⟩]))))))))))))
 (.seq (.kill [] 0) (.seq (.region [
  ⟨(some 4), (.mov (.c (.c (.bool true)))), none⟩])
 (.ret)))))))⟩
/-- (*campanile/campanileref18.Graph).Near -/
def n12 : NF := ⟨34, [6],
 .seq (.region [
  ⟨(some 6), (.mov (.c (.c .nils))), none⟩])
 (.seq (.kill [0, 1, 2] 0) (.seq (.region [
  ⟨(some 7), (.mov (.c (.c .nils))), none⟩])
 (.seq (.kill [0, 1, 2, 7] 0) (.seq (.seq (.region [
  ⟨(some 10), (.mov (.t 0)), none⟩,
  ⟨(some 11), (.nilck (.t 10)), none⟩,
  ⟨(some 12), (.faddr 0 (.t 11)), none⟩,
  ⟨(some 13), (.load none (.t 12)), none⟩,
  ⟨(some 14), (.mov (.c (.c (.int .i64 0)))), none⟩])
 (.seq (.kill [0, 1, 2, 7, 13, 14] 0) (.block 0 (.loop (.seq (.kill [0, 1, 2, 7, 13, 14] 0) (.seq (.region [
   ⟨(some 15), (.bin .lss .num (.t 14) (.t 13)), none⟩])
  (.seq (.kill [0, 1, 2, 7, 13, 14, 15] 0) (.seq (.cond (.t 15)
  (.skip)
  (.exit 0))
  (.seq (.kill [0, 1, 2, 7, 13, 14] 0) (.seq (.block 1 (.seq (.region [
   ⟨(some 16), (.mov (.t 14)), none⟩,
   ⟨(some 8), (.mov (.t 16)), none⟩])
  (.seq (.kill [0, 1, 2, 7, 8, 13, 14] 0) (.seq (.region [
   ⟨(some 17), (.mov (.t 0)), none⟩,
   ⟨(some 18), (.mov (.t 1)), none⟩,
   ⟨(some 19), (.mov (.t 8)), none⟩,
   ⟨(some 20), (.call 11 [(.t 17), (.t 18), (.t 19)]), none⟩,
   ⟨(some 9), (.mov (.t 20)), none⟩])
  (.seq (.kill [0, 1, 2, 7, 8, 9, 13, 14] 0) (.seq (.region [
   ⟨(some 21), (.mov (.t 9)), none⟩,
   ⟨(some 22), (.bin .gtr .num (.t 21) (.c (.c (.int .i64 0)))), none⟩,
   ⟨(some 23), (.mov (.t 22)), none⟩,
   ⟨(some 24), (.mov (.t 9)), (some (23, true))⟩,
   ⟨(some 25), (.mov (.t 2)), (some (23, true))⟩,
   ⟨(some 26), (.bin .geq .num (.t 24) (.t 25)), (some (23, true))⟩,
   ⟨(some 27), (.pick (.t 23) (.t 26) (.c (.c (.bool false)))), none⟩])
  (.seq (.kill [0, 1, 2, 7, 8, 13, 14, 27] 0) (.cond (.t 27)
  (.region [
    ⟨(some 28), (.mov (.t 7)), none⟩,
    ⟨(some 29), (.mov (.t 8)), none⟩,
    ⟨(some 30), (.bslice true 1 1 [(.int .i64 0)] [(0, (1, (.t 29)))]), none⟩,
    ⟨(some 31), (.app 1 8 (.t 28) (.t 30)), none⟩,
    ⟨(some 7), (.mov (.t 31)), none⟩])
  (.skip)))))))))
  (.seq (.kill [0, 1, 2, 7, 13, 14] 0) (.region [
   ⟨(some 32), (.bin .add .num (.t 14) (.c (.c (.int .i64 1)))), none⟩,
   ⟨(some 14), (.mov (.t 32)), none⟩]))))))))))))
 (.seq (.kill [7] 0) (.seq (.region [
  ⟨(some 33), (.mov (.t 7)), none⟩,
  ⟨(some 6), (.mov (.t 33)), none⟩])
 (.ret)))))))⟩
/-- (*campanile/topo.Graph).Forget -/
def n15 : NF := ⟨31, [],
 .seq (.seq (.region [
  ⟨(some 5), (.mov (.t 0)), none⟩,
  ⟨(some 6), (.mov (.t 1)), none⟩,
  ⟨(some 7), (.call 18 [(.t 5), (.t 6)]), none⟩,
  ⟨(some 8), (.un .not (.t 7)), none⟩])
 (.seq (.kill [0, 1, 8] 0) (.cond (.t 8)
 (.ret)
 (.skip))))
 (.seq (.kill [0, 1] 0) (.seq (.region [
  ⟨(some 9), (.mov (.t 0)), none⟩,
  ⟨(some 10), (.nilck (.t 9)), none⟩,
  ⟨(some 11), (.faddr 0 (.t 10)), none⟩,
  ⟨(some 12), (.load none (.t 11)), none⟩,
  ⟨(some 13), (.mov (.c (.c (.int .i64 0)))), none⟩])
 (.seq (.kill [0, 1, 12, 13] 0) (.block 0 (.loop (.seq (.kill [0, 1, 12, 13] 0) (.seq (.region [
   ⟨(some 14), (.bin .lss .num (.t 13) (.t 12)), none⟩])
  (.seq (.kill [0, 1, 12, 13, 14] 0) (.seq (.cond (.t 14)
  (.skip)
  (.exit 0))
  (.seq (.kill [0, 1, 12, 13] 0) (.seq (.block 1 (.seq (.region [
   ⟨(some 15), (.mov (.t 13)), none⟩,
   ⟨(some 4), (.mov (.t 15)), none⟩])
  (.seq (.kill [0, 1, 4, 12, 13] 0) (.seq (.region [
   ⟨(some 16), (.mov (.t 0)), none⟩,
   ⟨(some 17), (.nilck (.t 16)), none⟩,
   ⟨(some 18), (.faddr 1 (.t 17)), none⟩,
   ⟨(some 19), (.load none (.t 18)), none⟩,
   ⟨(some 20), (.mov (.t 1)), none⟩,
   ⟨(some 21), (.mov (.t 4)), none⟩,
   ⟨(some 22), (.build [(.int .i64 0), (.int .i64 0)] [(0, (1, (.t 20))), (1, (1, (.t 21)))]), none⟩,
   ⟨none, (.mdel (.arr 2 .i64) (.t 19) (.t 22)), none⟩])
  (.seq (.kill [0, 1, 4, 12, 13] 0) (.region [
   ⟨(some 23), (.mov (.t 0)), none⟩,
   ⟨(some 24), (.nilck (.t 23)), none⟩,
   ⟨(some 25), (.faddr 1 (.t 24)), none⟩,
   ⟨(some 26), (.load none (.t 25)), none⟩,
   ⟨(some 27), (.mov (.t 4)), none⟩,
   ⟨(some 28), (.mov (.t 1)), none⟩,
   ⟨(some 29), (.build [(.int .i64 0), (.int .i64 0)] [(0, (1, (.t 27))), (1, (1, (.t 28)))]), none⟩,
   ⟨none, (.mdel (.arr 2 .i64) (.t 26) (.t 29)), none⟩]))))))
  (.seq (.kill [0, 1, 12, 13] 0) (.region [
   ⟨(some 30), (.bin .add .num (.t 13) (.c (.c (.int .i64 1)))), none⟩,
   ⟨(some 13), (.mov (.t 30)), none⟩])))))))))))))⟩
/-- (*campanile/topo.Graph).may -/
def n17 : NF := ⟨66, [6],
 .seq (.region [
  ⟨(some 6), (.mov (.c (.c (.bool false)))), none⟩])
 (.seq (.kill [0, 1, 2] 0) (.seq (.seq (.region [
  ⟨(some 10), (.mov (.t 0)), none⟩,
  ⟨(some 11), (.mov (.t 1)), none⟩,
  ⟨(some 12), (.call 18 [(.t 10), (.t 11)]), none⟩,
  ⟨(some 13), (.un .not (.t 12)), none⟩,
  ⟨(some 14), (.mov (.t 13)), none⟩,
  ⟨(some 15), (.mov (.t 2)), (some (14, false))⟩,
  ⟨(some 16), (.len .sl (.t 15)), (some (14, false))⟩,
  ⟨(some 17), (.bin .gtr .num (.t 16) (.c (.c (.int .i64 16)))), (some (14, false))⟩,
  ⟨(some 18), (.pick (.t 14) (.c (.c (.bool true))) (.t 17)), none⟩])
 (.seq (.kill [0, 1, 2, 18] 0) (.cond (.t 18)
 (.seq (.region [
   ⟨(some 6), (.mov (.c (.c (.bool false)))), none⟩])
  (.ret))
 (.skip))))
 (.seq (.kill [0, 1, 2] 0) (.seq (.region [
  ⟨(some 19), .mkmap, none⟩,
  ⟨(some 7), (.mov (.t 19)), none⟩])
 (.seq (.kill [0, 1, 2, 7] 0) (.seq (.seq (.region [
  ⟨(some 20), (.mov (.t 2)), none⟩,
  ⟨(some 21), (.len .sl (.t 20)), none⟩,
  ⟨(some 22), (.mov (.c (.c (.int .i64 0)))), none⟩])
 (.seq (.kill [0, 1, 7, 20, 21, 22] 0) (.block 0 (.loop (.seq (.kill [0, 1, 7, 20, 21, 22] 0) (.seq (.region [
   ⟨(some 23), (.bin .lss .num (.t 22) (.t 21)), none⟩])
  (.seq (.kill [0, 1, 7, 20, 21, 22, 23] 0) (.seq (.cond (.t 23)
  (.skip)
  (.exit 0))
  (.seq (.kill [0, 1, 7, 20, 21, 22] 0) (.seq (.block 1 (.seq (.region [
   ⟨(some 24), (.iaddr 3 (.t 20) (.t 22)), none⟩,
   ⟨(some 25), (.load (some 3) (.t 24)), none⟩,
   ⟨(some 9), (.box true 3 (.c (.agg [(.int .i64 0), (.int .i64 0), (.int .i64 0)]))), none⟩,
   ⟨none, (.store 3 (.t 9) (.t 25)), none⟩])
  (.seq (.kill [0, 1, 7, 9, 20, 21, 22] 1) (.seq (.region [
   ⟨(some 26), (.mov (.t 7)), none⟩,
   ⟨(some 27), (.faddr 1 (.t 9)), none⟩,
   ⟨(some 28), (.load none (.t 27)), none⟩,
   ⟨(some 29), (.look (.int .i64) (.c (.int .i64 0)) false (.t 26) (.t 28)), none⟩,
   ⟨(some 30), (.bin .add .num (.t 29) (.c (.c (.int .i64 1)))), none⟩,
   ⟨none, (.mupd (.int .i64) (.t 26) (.t 28) (.t 30)), none⟩])
  (.seq (.kill [0, 1, 7, 9, 20, 21, 22] 1) (.seq (.region [
   ⟨(some 31), (.faddr 0 (.t 9)), none⟩,
   ⟨(some 32), (.load none (.t 31)), none⟩,
   ⟨(some 33), (.mov (.t 1)), none⟩,
   ⟨(some 34), (.bin .neq .num (.t 32) (.t 33)), none⟩,
   ⟨(some 35), (.mov (.t 34)), none⟩,
   ⟨(some 36), (.faddr 1 (.t 9)), (some (35, false))⟩,
   ⟨(some 37), (.load none (.t 36)), (some (35, false))⟩,
   ⟨(some 38), (.mov (.t 1)), (some (35, false))⟩,
   ⟨(some 39), (.bin .eql .num (.t 37) (.t 38)), (some (35, false))⟩,
   ⟨(some 40), (.pick (.t 35) (.c (.c (.bool true))) (.t 39)), none⟩,
   ⟨(some 41), (.mov (.t 40)), none⟩,
   ⟨(some 42), (.mov (.t 0)), (some (41, false))⟩,
   ⟨(some 43), (.faddr 1 (.t 9)), (some (41, false))⟩,
   ⟨(some 44), (.load none (.t 43)), (some (41, false))⟩,
   ⟨(some 45), (.call 18 [(.t 42), (.t 44)]), (some (41, false))⟩,
   ⟨(some 46), (.un .not (.t 45)), (some (41, false))⟩,
   ⟨(some 47), (.pick (.t 41) (.c (.c (.bool true))) (.t 46)), none⟩,
   ⟨(some 48), (.mov (.t 47)), none⟩,
   ⟨(some 49), (.faddr 2 (.t 9)), (some (48, false))⟩,
   ⟨(some 50), (.load none (.t 49)), (some (48, false))⟩,
   ⟨(some 51), (.bin .lss .num (.t 50) (.c (.c (.int .i64 0)))), (some (48, false))⟩,
   ⟨(some 52), (.pick (.t 48) (.c (.c (.bool true))) (.t 51)), none⟩,
   ⟨(some 53), (.mov (.t 52)), none⟩,
   ⟨(some 54), (.faddr 2 (.t 9)), (some (53, false))⟩,
   ⟨(some 55), (.load none (.t 54)), (some (53, false))⟩,
   ⟨(some 56), (.bin .gtr .num (.t 55) (.c (.c (.int .i64 255)))), (some (53, false))⟩,
   ⟨(some 57), (.pick (.t 53) (.c (.c (.bool true))) (.t 56)), none⟩,
   ⟨(some 58), (.mov (.t 57)), none⟩,
   ⟨(some 59), (.mov (.t 7)), (some (58, false))⟩,
   ⟨(some 60), (.faddr 1 (.t 9)), (some (58, false))⟩,
   ⟨(some 61), (.load none (.t 60)), (some (58, false))⟩,
   ⟨(some 62), (.look (.int .i64) (.c (.int .i64 0)) false (.t 59) (.t 61)), (some (58, false))⟩,
   ⟨(some 63), (.bin .gtr .num (.t 62) (.c (.c (.int .i64 1)))), (some (58, false))⟩,
   ⟨(some 64), (.pick (.t 58) (.c (.c (.bool true))) (.t 63)), none⟩])
  (.seq (.kill [0, 1, 7, 20, 21, 22, 64] 0) (.cond (.t 64)
  (.seq (.region [
    ⟨(some 6), (.mov (.c (.c (.bool false)))), none⟩])
   (.ret))
  (.skip)))))))))
  (.seq (.kill [0, 1, 7, 20, 21, 22] 0) (.region [
   ⟨(some 65), (.bin .add .num (.t 22) (.c (.c (.int .i64 1)))), none⟩,
   ⟨(some 22), (.mov (.t 65)), none⟩]))))))))))))
 (.seq (.kill [] 0) (.seq (.region [
  ⟨(some 6), (.mov (.c (.c (.bool true)))), none⟩])
 (.ret)))))))))⟩
/-- (*campanile/topo.Graph).has -/
def n18 : NF := ⟨19, [4],
 .seq (.region [
  ⟨(some 4), (.mov (.c (.c (.bool false)))), none⟩])
 (.seq (.kill [0, 1] 0) (.seq (.region [
  ⟨(some 5), (.mov (.t 0)), none⟩,
  ⟨(some 6), (.bin .neq .ptr (.t 5) (.c (.c .nilp))), none⟩,
  ⟨(some 7), (.mov (.t 6)), none⟩,
  ⟨(some 8), (.mov (.t 1)), (some (7, true))⟩,
  ⟨(some 9), (.bin .geq .num (.t 8) (.c (.c (.int .i64 0)))), (some (7, true))⟩,
  ⟨(some 10), (.pick (.t 7) (.t 9) (.c (.c (.bool false)))), none⟩,
  ⟨(some 11), (.mov (.t 10)), none⟩,
  ⟨(some 12), (.mov (.t 1)), (some (11, true))⟩,
  ⟨(some 13), (.mov (.t 0)), (some (11, true))⟩,
  ⟨(some 14), (.nilck (.t 13)), (some (11, true))⟩,
  ⟨(some 15), (.faddr 0 (.t 14)), (some (11, true))⟩,
  ⟨(some 16), (.load none (.t 15)), (some (11, true))⟩,
  ⟨(some 17), (.bin .lss .num (.t 12) (.t 16)), (some (11, true))⟩,
  ⟨(some 18), (.pick (.t 11) (.t 17) (.c (.c (.bool false)))), none⟩,
  ⟨(some 4), (.mov (.t 18)), none⟩])
 (.ret)))⟩
/-- campanile/campanileref18.NewGraph -/
def n19 : NF := ⟨8, [2],
 .seq (.region [
  ⟨(some 2), (.mov (.c (.c .nilp))), none⟩])
 (.seq (.kill [0] 0) (.seq (.region [
  ⟨(some 3), (.mov (.t 0)), none⟩,
  ⟨(some 4), (.min [(.t 3), (.c (.c (.int .i64 16)))]), none⟩,
  ⟨(some 5), (.max [(.c (.c (.int .i64 1))), (.t 4)]), none⟩,
  ⟨(some 6), (.build [(.int .i64 0), (.int .i64 0), (.int .i64 0), (.int .i64 0), (.int .i64 0), (.int .i64 0), (.int .i64 0), (.int .i64 0), (.int .i64 0), (.int .i64 0), (.int .i64 0), (.int .i64 0), (.int .i64 0), (.int .i64 0), (.int .i64 0), (.int .i64 0), (.int .i64 0), (.int .i64 0), (.int .i64 0), (.int .i64 0), (.int .i64 0), (.int .i64 0), (.int .i64 0), (.int .i64 0), (.int .i64 0), (.int .i64 0), (.int .i64 0), (.int .i64 0), (.int .i64 0), (.int .i64 0), (.int .i64 0), (.int .i64 0), (.int .i64 0), (.int .i64 0), (.int .i64 0), (.int .i64 0), (.int .i64 0), (.int .i64 0), (.int .i64 0), (.int .i64 0), (.int .i64 0), (.int .i64 0), (.int .i64 0), (.int .i64 0), (.int .i64 0), (.int .i64 0), (.int .i64 0), (.int .i64 0), (.int .i64 0), (.int .i64 0), (.int .i64 0), (.int .i64 0), (.int .i64 0), (.int .i64 0), (.int .i64 0), (.int .i64 0), (.int .i64 0), (.int .i64 0), (.int .i64 0), (.int .i64 0), (.int .i64 0), (.int .i64 0), (.int .i64 0), (.int .i64 0), (.int .i64 0), (.int .i64 0), (.int .i64 0), (.int .i64 0), (.int .i64 0), (.int .i64 0), (.int .i64 0), (.int .i64 0), (.int .i64 0), (.int .i64 0), (.int .i64 0), (.int .i64 0), (.int .i64 0), (.int .i64 0), (.int .i64 0), (.int .i64 0), (.int .i64 0), (.int .i64 0), (.int .i64 0), (.int .i64 0), (.int .i64 0), (.int .i64 0), (.int .i64 0), (.int .i64 0), (.int .i64 0), (.int .i64 0), (.int .i64 0), (.int .i64 0), (.int .i64 0), (.int .i64 0), (.int .i64 0), (.int .i64 0), (.int .i64 0), (.int .i64 0), (.int .i64 0), (.int .i64 0), (.int .i64 0), (.int .i64 0), (.int .i64 0), (.int .i64 0), (.int .i64 0), (.int .i64 0), (.int .i64 0), (.int .i64 0), (.int .i64 0), (.int .i64 0), (.int .i64 0), (.int .i64 0), (.int .i64 0), (.int .i64 0), (.int .i64 0), (.int .i64 0), (.int .i64 0), (.int .i64 0), (.int .i64 0), (.int .i64 0), (.int .i64 0), (.int .i64 0), (.int .i64 0), (.int .i64 0), (.int .i64 0), (.int .i64 0), (.int .i64 0), (.int .i64 0), (.int .i64 0), (.int .i64 0), (.int .i64 0), (.int .i64 0), (.int .i64 0), (.int .i64 0), (.int .i64 0), (.int .i64 0), (.int .i64 0), (.int .i64 0), (.int .i64 0), (.int .i64 0), (.int .i64 0), (.int .i64 0), (.int .i64 0), (.int .i64 0), (.int .i64 0), (.int .i64 0), (.int .i64 0), (.int .i64 0), (.int .i64 0), (.int .i64 0), (.int .i64 0), (.int .i64 0), (.int .i64 0), (.int .i64 0), (.int .i64 0), (.int .i64 0), (.int .i64 0), (.int .i64 0), (.int .i64 0), (.int .i64 0), (.int .i64 0), (.int .i64 0), (.int .i64 0), (.int .i64 0), (.int .i64 0), (.int .i64 0), (.int .i64 0), (.int .i64 0), (.int .i64 0), (.int .i64 0), (.int .i64 0), (.int .i64 0), (.int .i64 0), (.int .i64 0), (.int .i64 0), (.int .i64 0), (.int .i64 0), (.int .i64 0), (.int .i64 0), (.int .i64 0), (.int .i64 0), (.int .i64 0), (.int .i64 0), (.int .i64 0), (.int .i64 0), (.int .i64 0), (.int .i64 0), (.int .i64 0), (.int .i64 0), (.int .i64 0), (.int .i64 0), (.int .i64 0), (.int .i64 0), (.int .i64 0), (.int .i64 0), (.int .i64 0), (.int .i64 0), (.int .i64 0), (.int .i64 0), (.int .i64 0), (.int .i64 0), (.int .i64 0), (.int .i64 0), (.int .i64 0), (.int .i64 0), (.int .i64 0), (.int .i64 0), (.int .i64 0), (.int .i64 0), (.int .i64 0), (.int .i64 0), (.int .i64 0), (.int .i64 0), (.int .i64 0), (.int .i64 0), (.int .i64 0), (.int .i64 0), (.int .i64 0), (.int .i64 0), (.int .i64 0), (.int .i64 0), (.int .i64 0), (.int .i64 0), (.int .i64 0), (.int .i64 0), (.int .i64 0), (.int .i64 0), (.int .i64 0), (.int .i64 0), (.int .i64 0), (.int .i64 0), (.int .i64 0), (.int .i64 0), (.int .i64 0), (.int .i64 0), (.int .i64 0), (.int .i64 0), (.int .i64 0), (.int .i64 0), (.int .i64 0), (.int .i64 0), (.int .i64 0), (.int .i64 0), (.int .i64 0), (.int .i64 0), (.int .i64 0), (.int .i64 0), (.int .i64 0), (.int .i64 0), (.int .i64 0), (.int .i64 0), (.int .i64 0), (.int .i64 0), (.int .i64 0), (.int .i64 0), (.int .i64 0), (.int .i64 0)] [(0, (1, (.t 5)))]), none⟩,
  ⟨(some 7), (.box false 257 (.t 6)), none⟩,
  ⟨(some 2), (.mov (.t 7)), none⟩])
 (.ret)))⟩
/-- (*campanile/campanileref18.Graph).Forget -/
def n20 : NF := ⟨26, [],
 .seq (.seq (.region [
  ⟨(some 5), (.mov (.t 0)), none⟩,
  ⟨(some 6), (.mov (.t 1)), none⟩,
  ⟨(some 7), (.call 22 [(.t 5), (.t 6)]), none⟩,
  ⟨(some 8), (.un .not (.t 7)), none⟩])
 (.seq (.kill [0, 1, 8] 0) (.cond (.t 8)
 (.ret)
 (.skip))))
 (.seq (.kill [0, 1] 0) (.seq (.region [
  ⟨(some 9), (.mov (.t 0)), none⟩,
  ⟨(some 10), (.mov (.t 1)), none⟩,
  ⟨(some 11), (.build [(.int .i64 0), (.int .i64 0), (.int .i64 0), (.int .i64 0), (.int .i64 0), (.int .i64 0), (.int .i64 0), (.int .i64 0), (.int .i64 0), (.int .i64 0), (.int .i64 0), (.int .i64 0), (.int .i64 0), (.int .i64 0), (.int .i64 0), (.int .i64 0)] []), none⟩,
  ⟨(some 12), (.nilck (.t 9)), none⟩,
  ⟨(some 13), (.faddr 1 (.t 12)), none⟩,
  ⟨(some 14), (.iaddrA 16 16 (.t 13) (.t 10)), none⟩,
  ⟨none, (.store 16 (.t 14) (.t 11)), none⟩])
 (.seq (.kill [0, 1] 0) (.seq (.region [
  ⟨(some 15), (.mov (.c (.c (.int .i64 0)))), none⟩])
 (.seq (.kill [0, 1, 15] 0) (.block 0 (.loop (.seq (.kill [0, 1, 15] 0) (.seq (.region [
   ⟨(some 16), (.bin .lss .num (.t 15) (.c (.c (.int .i64 16)))), none⟩])
  (.seq (.kill [0, 1, 15, 16] 0) (.seq (.cond (.t 16)
  (.skip)
  (.exit 0))
  (.seq (.kill [0, 1, 15] 0) (.seq (.block 1 (.seq (.region [
   ⟨(some 17), (.mov (.t 15)), none⟩,
   ⟨(some 4), (.mov (.t 17)), none⟩])
  (.seq (.kill [0, 1, 4, 15] 0) (.region [
   ⟨(some 18), (.mov (.t 0)), none⟩,
   ⟨(some 19), (.mov (.t 4)), none⟩,
   ⟨(some 20), (.mov (.t 1)), none⟩,
   ⟨(some 21), (.nilck (.t 18)), none⟩,
   ⟨(some 22), (.faddr 1 (.t 21)), none⟩,
   ⟨(some 23), (.iaddrA 16 16 (.t 22) (.t 19)), none⟩,
   ⟨(some 24), (.iaddrA 16 1 (.t 23) (.t 20)), none⟩,
   ⟨none, (.store 1 (.t 24) (.c (.c (.int .i64 0)))), none⟩]))))
  (.seq (.kill [0, 1, 15] 0) (.region [
   ⟨(some 25), (.bin .add .num (.t 15) (.c (.c (.int .i64 1)))), none⟩,
   ⟨(some 15), (.mov (.t 25)), none⟩])))))))))))))))⟩
/-- (*campanile/campanileref18.Graph).Report -/
def n21 : NF := ⟨75, [6],
 .seq (.region [
  ⟨(some 6), (.mov (.c (.c (.int .i64 0)))), none⟩])
 (.seq (.kill [0, 1, 2] 0) (.seq (.seq (.region [
  ⟨(some 11), (.mov (.t 0)), none⟩,
  ⟨(some 12), (.mov (.t 1)), none⟩,
  ⟨(some 13), (.call 22 [(.t 11), (.t 12)]), none⟩,
  ⟨(some 14), (.un .not (.t 13)), none⟩,
  ⟨(some 15), (.mov (.t 14)), none⟩,
  ⟨(some 16), (.mov (.t 2)), (some (15, false))⟩,
  ⟨(some 17), (.len .sl (.t 16)), (some (15, false))⟩,
  ⟨(some 18), (.bin .gtr .num (.t 17) (.c (.c (.int .i64 16)))), (some (15, false))⟩,
  ⟨(some 19), (.pick (.t 15) (.c (.c (.bool true))) (.t 18)), none⟩])
 (.seq (.kill [0, 1, 2, 19] 0) (.cond (.t 19)
 (.seq (.region [
   ⟨(some 6), (.mov (.c (.c (.int .i64 1)))), none⟩])
  (.ret))
 (.skip))))
 (.seq (.kill [0, 1, 2] 0) (.seq (.region [
  ⟨(some 7), (.box true 16 (.c (.agg [(.int .i64 0), (.int .i64 0), (.int .i64 0), (.int .i64 0), (.int .i64 0), (.int .i64 0), (.int .i64 0), (.int .i64 0), (.int .i64 0), (.int .i64 0), (.int .i64 0), (.int .i64 0), (.int .i64 0), (.int .i64 0), (.int .i64 0), (.int .i64 0)]))), none⟩])
 (.seq (.kill [0, 1, 2, 7] 1) (.seq (.region [
  ⟨(some 20), (.build [(.bool false), (.bool false), (.bool false), (.bool false), (.bool false), (.bool false), (.bool false), (.bool false), (.bool false), (.bool false), (.bool false), (.bool false), (.bool false), (.bool false), (.bool false), (.bool false)] []), none⟩,
  ⟨(some 8), (.box true 16 (.c (.agg [(.bool false), (.bool false), (.bool false), (.bool false), (.bool false), (.bool false), (.bool false), (.bool false), (.bool false), (.bool false), (.bool false), (.bool false), (.bool false), (.bool false), (.bool false), (.bool false)]))), none⟩,
  ⟨none, (.store 16 (.t 8) (.t 20)), none⟩])
 (.seq (.kill [0, 1, 2, 7, 8] 2) (.seq (.seq (.region [
  ⟨(some 21), (.mov (.t 2)), none⟩,
  ⟨(some 22), (.len .sl (.t 21)), none⟩,
  ⟨(some 23), (.mov (.c (.c (.int .i64 0)))), none⟩])
 (.seq (.kill [0, 1, 7, 8, 21, 22, 23] 2) (.block 0 (.loop (.seq (.kill [0, 1, 7, 8, 21, 22, 23] 2) (.seq (.region [
   ⟨(some 24), (.bin .lss .num (.t 23) (.t 22)), none⟩])
  (.seq (.kill [0, 1, 7, 8, 21, 22, 23, 24] 2) (.seq (.cond (.t 24)
  (.skip)
  (.exit 0))
  (.seq (.kill [0, 1, 7, 8, 21, 22, 23] 2) (.seq (.block 1 (.seq (.region [
   ⟨(some 25), (.iaddr 3 (.t 21) (.t 23)), none⟩,
   ⟨(some 26), (.load (some 3) (.t 25)), none⟩,
   ⟨(some 10), (.box true 3 (.c (.agg [(.int .i64 0), (.int .i64 0), (.int .i64 0)]))), none⟩,
   ⟨none, (.store 3 (.t 10) (.t 26)), none⟩])
  (.seq (.kill [0, 1, 7, 8, 10, 21, 22, 23] 3) (.seq (.seq (.region [
   ⟨(some 27), (.faddr 0 (.t 10)), none⟩,
   ⟨(some 28), (.load none (.t 27)), none⟩,
   ⟨(some 29), (.mov (.t 1)), none⟩,
   ⟨(some 30), (.bin .neq .num (.t 28) (.t 29)), none⟩,
   ⟨(some 31), (.mov (.t 30)), none⟩,
   ⟨(some 32), (.mov (.t 0)), (some (31, false))⟩,
   ⟨(some 33), (.faddr 1 (.t 10)), (some (31, false))⟩,
   ⟨(some 34), (.load none (.t 33)), (some (31, false))⟩,
   ⟨(some 35), (.call 22 [(.t 32), (.t 34)]), (some (31, false))⟩,
   ⟨(some 36), (.un .not (.t 35)), (some (31, false))⟩,
   ⟨(some 37), (.pick (.t 31) (.c (.c (.bool true))) (.t 36)), none⟩,
   ⟨(some 38), (.mov (.t 37)), none⟩,
   ⟨(some 39), (.faddr 1 (.t 10)), (some (38, false))⟩,
   ⟨(some 40), (.load none (.t 39)), (some (38, false))⟩,
   ⟨(some 41), (.mov (.t 1)), (some (38, false))⟩,
   ⟨(some 42), (.bin .eql .num (.t 40) (.t 41)), (some (38, false))⟩,
   ⟨(some 43), (.pick (.t 38) (.c (.c (.bool true))) (.t 42)), none⟩,
   ⟨(some 44), (.mov (.t 43)), none⟩,
   ⟨(some 45), (.faddr 2 (.t 10)), (some (44, false))⟩,
   ⟨(some 46), (.load none (.t 45)), (some (44, false))⟩,
   ⟨(some 47), (.bin .lss .num (.t 46) (.c (.c (.int .i64 0)))), (some (44, false))⟩,
   ⟨(some 48), (.pick (.t 44) (.c (.c (.bool true))) (.t 47)), none⟩,
   ⟨(some 49), (.mov (.t 48)), none⟩,
   ⟨(some 50), (.faddr 2 (.t 10)), (some (49, false))⟩,
   ⟨(some 51), (.load none (.t 50)), (some (49, false))⟩,
   ⟨(some 52), (.bin .gtr .num (.t 51) (.c (.c (.int .i64 255)))), (some (49, false))⟩,
   ⟨(some 53), (.pick (.t 49) (.c (.c (.bool true))) (.t 52)), none⟩,
   ⟨(some 54), (.mov (.t 53)), none⟩,
   ⟨(some 55), (.faddr 1 (.t 10)), (some (54, false))⟩,
   ⟨(some 56), (.load none (.t 55)), (some (54, false))⟩,
   ⟨(some 57), (.iaddrA 16 1 (.t 8) (.t 56)), (some (54, false))⟩,
   ⟨(some 58), (.load none (.t 57)), (some (54, false))⟩,
   ⟨(some 59), (.pick (.t 54) (.c (.c (.bool true))) (.t 58)), none⟩])
  (.seq (.kill [0, 1, 7, 8, 10, 21, 22, 23, 59] 3) (.cond (.t 59)
  (.seq (.region [
    ⟨(some 6), (.mov (.c (.c (.int .i64 1)))), none⟩])
   (.ret))
  (.skip))))
  (.seq (.kill [0, 1, 7, 8, 10, 21, 22, 23] 3) (.draw 0 [
   ⟨0, none, ⟨(some 60), (.faddr 1 (.t 10)), none⟩, []⟩,
   ⟨1, none, ⟨(some 61), (.load none (.t 60)), none⟩, []⟩,
   ⟨2, none, ⟨(some 62), (.faddr 1 (.t 10)), none⟩, []⟩,
   ⟨3, none, ⟨(some 63), (.load none (.t 62)), none⟩, []⟩,
   ⟨4, none, ⟨(some 64), (.faddr 2 (.t 10)), none⟩, []⟩,
   ⟨5, none, ⟨(some 65), (.load none (.t 64)), none⟩, []⟩,
   ⟨6, none, ⟨(some 66), (.iaddrA 16 1 (.t 8) (.t 61)), none⟩, []⟩,
   ⟨7, none, ⟨none, (.store 1 (.t 66) (.c (.c (.bool true)))), none⟩, [(3, ⟨(some 63), (.load none (.t 62)), none⟩), (5, ⟨(some 65), (.load none (.t 64)), none⟩)]⟩,
   ⟨8, none, ⟨(some 67), (.iaddrA 16 1 (.t 7) (.t 63)), none⟩, []⟩,
   ⟨9, none, ⟨none, (.store 1 (.t 67) (.t 65)), none⟩, []⟩]))))))
  (.seq (.kill [0, 1, 7, 8, 21, 22, 23] 2) (.region [
   ⟨(some 68), (.bin .add .num (.t 23) (.c (.c (.int .i64 1)))), none⟩,
   ⟨(some 23), (.mov (.t 68)), none⟩]))))))))))))
 (.seq (.kill [0, 1, 7] 1) (.seq (.draw 0 [
  ⟨0, none, ⟨(some 69), (.mov (.t 0)), none⟩, []⟩,
  ⟨1, none, ⟨(some 70), (.mov (.t 1)), none⟩, []⟩,
  ⟨2, none, ⟨(some 71), (.load (some 16) (.t 7)), none⟩, []⟩,
  ⟨3, none, ⟨(some 72), (.nilck (.t 69)), none⟩, []⟩,
  ⟨4, none, ⟨(some 73), (.faddr 1 (.t 72)), none⟩, []⟩,
  ⟨5, none, ⟨(some 74), (.iaddrA 16 16 (.t 73) (.t 70)), none⟩, []⟩,
  ⟨6, none, ⟨none, (.store 16 (.t 74) (.t 71)), none⟩, []⟩])
 (.seq (.kill [] 0) (.seq (.region [
  ⟨(some 6), (.mov (.c (.c (.int .i64 0)))), none⟩])
 (.ret)))))))))))))⟩
/-- (*campanile/campanileref18.Graph).Has -/
def n22 : NF := ⟨15, [4],
 .seq (.region [
  ⟨(some 4), (.mov (.c (.c (.bool false)))), none⟩])
 (.seq (.kill [0, 1] 0) (.seq (.region [
  ⟨(some 5), (.mov (.t 1)), none⟩,
  ⟨(some 6), (.bin .geq .num (.t 5) (.c (.c (.int .i64 0)))), none⟩,
  ⟨(some 7), (.mov (.t 6)), none⟩,
  ⟨(some 8), (.mov (.t 1)), (some (7, true))⟩,
  ⟨(some 9), (.mov (.t 0)), (some (7, true))⟩,
  ⟨(some 10), (.nilck (.t 9)), (some (7, true))⟩,
  ⟨(some 11), (.faddr 0 (.t 10)), (some (7, true))⟩,
  ⟨(some 12), (.load none (.t 11)), (some (7, true))⟩,
  ⟨(some 13), (.bin .lss .num (.t 8) (.t 12)), (some (7, true))⟩,
  ⟨(some 14), (.pick (.t 7) (.t 13) (.c (.c (.bool false)))), none⟩,
  ⟨(some 4), (.mov (.t 14)), none⟩])
 (.ret)))⟩
def N : Nat → Option NF
  | 0 => some n0
  | 1 => some n1
  | 2 => some n2
  | 3 => some n3
  | 4 => some n4
  | 5 => some n5
  | 6 => some n6
  | 7 => some n7
  | 8 => some n8
  | 9 => some n9
  | 10 => some n10
  | 11 => some n11
  | 12 => some n12
  | 13 => some n13
  | 14 => some n14
  | 15 => some n15
  | 16 => some n16
  | 17 => some n17
  | 18 => some n18
  | 19 => some n19
  | 20 => some n20
  | 21 => some n21
  | 22 => some n22
  | _ => none
end Camp

/-! CsTopo -/
namespace Camp.S
open Go Go.Proofs
def tbl : List Nat := [1000000, 1000000, 1000000, 0, 6, 9, 14, 16, 1, 2, 3, 4, 5, 7, 8, 10, 11, 13, 12, 15, 17, 18, 19, 20, 21, 22, 1000000, 1000000, 1000000, 1000000, 1000000, 1000000, 1000000, 1000000, 1000000, 1000000, 1000000, 1000000, 1000000, 1000000, 1000000, 1000000]
abbrev rn : FuncId → Nat := rnOf tbl
theorem c0 : CFn Try.prog rn (DJ Try.prog rn) Try.f3 n0 := cfn_ok [74] (by kernel_rfl) (by kernel_rfl) (by kernel_rfl) (by kernel_rfl)
theorem c6 : CFn Try.prog rn (DJ Try.prog rn) Try.f4 n6 := cfn_ok [] (by kernel_rfl) (by kernel_rfl) (by kernel_rfl) (by kernel_rfl)
theorem c9 : CFn Try.prog rn (DJ Try.prog rn) Try.f5 n9 := cfn_ok [] (by kernel_rfl) (by kernel_rfl) (by kernel_rfl) (by kernel_rfl)
theorem c14 : CFn Try.prog rn (DJ Try.prog rn) Try.f6 n14 := cfn_ok [2] (by kernel_rfl) (by kernel_rfl) (by kernel_rfl) (by kernel_rfl)
theorem c16 : CFn Try.prog rn (DJ Try.prog rn) Try.f7 n16 := cfn_ok [] (by kernel_rfl) (by kernel_rfl) (by kernel_rfl) (by kernel_rfl)
theorem c1 : CFn Try.prog rn (DJ Try.prog rn) Try.f8 n1 := cfn_ok [] (by kernel_rfl) (by kernel_rfl) (by kernel_rfl) (by kernel_rfl)
theorem c2 : CFn Try.prog rn (DJ Try.prog rn) Try.f9 n2 := cfn_ok [] (by kernel_rfl) (by kernel_rfl) (by kernel_rfl) (by kernel_rfl)
theorem c3 : CFn Try.prog rn (DJ Try.prog rn) Try.f10 n3 := cfn_ok [9] (by kernel_rfl) (by kernel_rfl) (by kernel_rfl) (by kernel_rfl)
theorem c4 : CFn Try.prog rn (DJ Try.prog rn) Try.f11 n4 := cfn_ok [] (by kernel_rfl) (by kernel_rfl) (by kernel_rfl) (by kernel_rfl)
theorem c5 : CFn Try.prog rn (DJ Try.prog rn) Try.f12 n5 := cfn_ok [34] (by kernel_rfl) (by kernel_rfl) (by kernel_rfl) (by kernel_rfl)
theorem c7 : CFn Try.prog rn (DJ Try.prog rn) Try.f13 n7 := cfn_ok [10] (by kernel_rfl) (by kernel_rfl) (by kernel_rfl) (by kernel_rfl)
theorem c8 : CFn Try.prog rn (DJ Try.prog rn) Try.f14 n8 := cfn_ok [] (by kernel_rfl) (by kernel_rfl) (by kernel_rfl) (by kernel_rfl)
theorem c10 : CFn Try.prog rn (DJ Try.prog rn) Try.f15 n10 := cfn_ok [] (by kernel_rfl) (by kernel_rfl) (by kernel_rfl) (by kernel_rfl)
theorem c11 : CFn Try.prog rn (DJ Try.prog rn) Try.f16 n11 := cfn_ok [] (by kernel_rfl) (by kernel_rfl) (by kernel_rfl) (by kernel_rfl)
theorem c13 : CFn Try.prog rn (DJ Try.prog rn) Try.f17 n13 := cfn_ok [] (by kernel_rfl) (by kernel_rfl) (by kernel_rfl) (by kernel_rfl)
theorem c12 : CFn Try.prog rn (DJ Try.prog rn) Try.f18 n12 := cfn_ok [30] (by kernel_rfl) (by kernel_rfl) (by kernel_rfl) (by kernel_rfl)
theorem c15 : CFn Try.prog rn (DJ Try.prog rn) Try.f19 n15 := cfn_ok [] (by kernel_rfl) (by kernel_rfl) (by kernel_rfl) (by kernel_rfl)
theorem c17 : CFn Try.prog rn (DJ Try.prog rn) Try.f20 n17 := cfn_ok [9] (by kernel_rfl) (by kernel_rfl) (by kernel_rfl) (by kernel_rfl)
theorem c18 : CFn Try.prog rn (DJ Try.prog rn) Try.f21 n18 := cfn_ok [] (by kernel_rfl) (by kernel_rfl) (by kernel_rfl) (by kernel_rfl)
theorem c19 : CFn Try.prog rn (DJ Try.prog rn) Try.f22 n19 := cfn_ok [] (by kernel_rfl) (by kernel_rfl) (by kernel_rfl) (by kernel_rfl)
theorem c20 : CFn Try.prog rn (DJ Try.prog rn) Try.f23 n20 := cfn_ok [] (by kernel_rfl) (by kernel_rfl) (by kernel_rfl) (by kernel_rfl)
theorem c21 : CFn Try.prog rn (DJ Try.prog rn) Try.f24 n21 := cfn_ok [7, 8, 10] (by kernel_rfl) (by kernel_rfl) (by kernel_rfl) (by kernel_rfl)
theorem c22 : CFn Try.prog rn (DJ Try.prog rn) Try.f25 n22 := cfn_ok [] (by kernel_rfl) (by kernel_rfl) (by kernel_rfl) (by kernel_rfl)
theorem all : AllOk Try.prog rn N tbl 0 :=
  ⟨ok_none rfl,
   ok_none rfl,
   ok_none rfl,
   ok_some rfl Try.func3 c0,
   ok_some rfl Try.func4 c6,
   ok_some rfl Try.func5 c9,
   ok_some rfl Try.func6 c14,
   ok_some rfl Try.func7 c16,
   ok_some rfl Try.func8 c1,
   ok_some rfl Try.func9 c2,
   ok_some rfl Try.func10 c3,
   ok_some rfl Try.func11 c4,
   ok_some rfl Try.func12 c5,
   ok_some rfl Try.func13 c7,
   ok_some rfl Try.func14 c8,
   ok_some rfl Try.func15 c10,
   ok_some rfl Try.func16 c11,
   ok_some rfl Try.func17 c13,
   ok_some rfl Try.func18 c12,
   ok_some rfl Try.func19 c15,
   ok_some rfl Try.func20 c17,
   ok_some rfl Try.func21 c18,
   ok_some rfl Try.func22 c19,
   ok_some rfl Try.func23 c20,
   ok_some rfl Try.func24 c21,
   ok_some rfl Try.func25 c22,
   ok_none rfl,
   ok_none rfl,
   ok_none rfl,
   ok_none rfl,
   ok_none rfl,
   ok_none rfl,
   ok_none rfl,
   ok_none rfl,
   ok_none rfl,
   ok_none rfl,
   ok_none rfl,
   ok_none rfl,
   ok_none rfl,
   ok_none rfl,
   ok_none rfl,
   ok_none rfl, trivial⟩
theorem hprog : HProg Try.prog rn (DJ Try.prog rn) N := hprog_of all rfl
theorem mixed : Try.prog.follows .mixedOrders = true := by kernel_rfl
end Camp.S
