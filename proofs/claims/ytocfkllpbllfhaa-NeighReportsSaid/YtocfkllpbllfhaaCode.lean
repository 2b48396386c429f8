/- Functions of the program, as the machine runs them. Printed by a program of mine (ncode.py). The seat's program is what the machine runs. Printed by a program of mine (seatgen.py). -/
import Derived.Test.YtocfkllpbllfhaaEngF
import Derived.Test.YtocfkllpbllfhaaProg

set_option linter.unnecessarySimpa false
set_option linter.unusedVariables false
set_option linter.unusedSimpArgs false
set_option linter.unusedSectionVars false
/-! CnNeigh -/
namespace Camp
open Go
def bs (l : List UInt8) : ByteArray := ⟨⟨l⟩⟩
/-- campanile/campanilelaw16.NeighApart -/
def n23 : NF := ⟨64, [6],
 .seq (.region [
  ⟨(some 6), (.mov (.c (.c (.bool false)))), none⟩])
 (.seq (.kill [0, 1, 2] 0) (.seq (.region [
  ⟨(some 10), (.mov (.t 0)), none⟩,
  ⟨(some 11), (.conv (.toInt .u64) (.t 10)), none⟩,
  ⟨(some 12), (.bin .rem .num (.t 11) (.c (.c (.int .u64 16)))), none⟩,
  ⟨(some 13), (.conv (.toInt .i64) (.t 12)), none⟩,
  ⟨(some 14), (.mov (.t 1)), none⟩,
  ⟨(some 15), (.conv (.toInt .u64) (.t 14)), none⟩,
  ⟨(some 16), (.bin .rem .num (.t 15) (.c (.c (.int .u64 16)))), none⟩,
  ⟨(some 17), (.conv (.toInt .i64) (.t 16)), none⟩,
  ⟨(some 0), (.mov (.t 13)), none⟩,
  ⟨(some 1), (.mov (.t 17)), none⟩])
 (.seq (.kill [0, 1, 2] 0) (.seq (.region [
  ⟨(some 18), (.mov (.t 0)), none⟩,
  ⟨(some 19), (.call 24 [(.t 18)]), none⟩,
  ⟨(some 7), (.mov (.t 19)), none⟩])
 (.seq (.kill [0, 1, 2, 7] 0) (.seq (.seq (.region [
  ⟨(some 20), (.mov (.t 7)), none⟩,
  ⟨(some 21), (.bin .eql .ptr (.t 20) (.c (.c .nilp))), none⟩])
 (.seq (.kill [0, 1, 2, 7, 21] 0) (.cond (.t 21)
 (.seq (.region [
   ⟨(some 6), (.mov (.c (.c (.bool false)))), none⟩])
  (.ret))
 (.skip))))
 (.seq (.kill [0, 1, 2, 7] 0) (.seq (.seq (.region [
  ⟨(some 22), (.mov (.t 2)), none⟩,
  ⟨(some 23), (.conv (.toInt .u64) (.t 22)), none⟩,
  ⟨(some 24), (.bin .rem .num (.t 23) (.c (.c (.int .u64 40)))), none⟩,
  ⟨(some 25), (.conv (.toInt .i64) (.t 24)), none⟩,
  ⟨(some 26), (.mov (.c (.c (.int .i64 0)))), none⟩])
 (.seq (.kill [0, 1, 2, 7, 25, 26] 0) (.block 0 (.loop (.seq (.kill [0, 1, 2, 7, 25, 26] 0) (.seq (.region [
   ⟨(some 27), (.bin .lss .num (.t 26) (.t 25)), none⟩])
  (.seq (.kill [0, 1, 2, 7, 25, 26, 27] 0) (.seq (.cond (.t 27)
  (.skip)
  (.exit 0))
  (.seq (.kill [0, 1, 2, 7, 25, 26] 0) (.seq (.block 1 (.region [
   ⟨(some 28), (.mov (.t 7)), none⟩,
   ⟨(some 29), (.mov (.t 1)), none⟩,
   ⟨(some 30), (.call 25 [(.t 28), (.t 29)]), none⟩]))
  (.seq (.kill [0, 1, 2, 7, 25, 26] 0) (.region [
   ⟨(some 31), (.bin .add .num (.t 26) (.c (.c (.int .i64 1)))), none⟩,
   ⟨(some 26), (.mov (.t 31)), none⟩]))))))))))))
 (.seq (.kill [0, 1, 2, 7] 0) (.seq (.seq (.region [
  ⟨(some 32), (.mov (.c (.c (.int .i64 0)))), none⟩])
 (.seq (.kill [0, 1, 2, 7, 32] 0) (.block 2 (.loop (.seq (.kill [0, 1, 2, 7, 32] 0) (.seq (.region [
   ⟨(some 33), (.bin .lss .num (.t 32) (.c (.c (.int .i64 16)))), none⟩])
  (.seq (.kill [0, 1, 2, 7, 32, 33] 0) (.seq (.cond (.t 33)
  (.skip)
  (.exit 2))
  (.seq (.kill [0, 1, 2, 7, 32] 0) (.seq (.block 3 (.seq (.region [
   ⟨(some 34), (.mov (.t 32)), none⟩,
   ⟨(some 8), (.mov (.t 34)), none⟩])
  (.seq (.kill [0, 1, 2, 7, 8, 32] 0) (.seq (.region [
   ⟨(some 35), (.mov (.t 7)), none⟩,
   ⟨(some 36), (.mov (.t 8)), none⟩,
   ⟨(some 37), (.call 26 [(.t 35), (.t 36)]), none⟩,
   ⟨(some 38), (.bin .gtr .num (.t 37) (.c (.c (.int .i64 0)))), none⟩,
   ⟨(some 39), (.mov (.t 8)), none⟩,
   ⟨(some 40), (.mov (.t 1)), none⟩,
   ⟨(some 41), (.bin .eql .num (.t 39) (.t 40)), none⟩,
   ⟨(some 42), (.mov (.t 41)), none⟩,
   ⟨(some 43), (.mov (.t 1)), (some (42, true))⟩,
   ⟨(some 44), (.mov (.t 0)), (some (42, true))⟩,
   ⟨(some 45), (.bin .neq .num (.t 43) (.t 44)), (some (42, true))⟩,
   ⟨(some 46), (.pick (.t 42) (.t 45) (.c (.c (.bool false)))), none⟩,
   ⟨(some 47), (.mov (.t 46)), none⟩,
   ⟨(some 48), (.mov (.t 2)), (some (47, true))⟩,
   ⟨(some 49), (.conv (.toInt .u64) (.t 48)), (some (47, true))⟩,
   ⟨(some 50), (.bin .rem .num (.t 49) (.c (.c (.int .u64 40)))), (some (47, true))⟩,
   ⟨(some 51), (.bin .gtr .num (.t 50) (.c (.c (.int .u64 0)))), (some (47, true))⟩,
   ⟨(some 52), (.pick (.t 47) (.t 51) (.c (.c (.bool false)))), none⟩,
   ⟨(some 53), (.bin .neq .bool (.t 38) (.t 52)), none⟩])
  (.seq (.kill [0, 1, 2, 7, 32, 53] 0) (.cond (.t 53)
  (.seq (.region [
    ⟨(some 6), (.mov (.c (.c (.bool false)))), none⟩])
   (.ret))
  (.skip)))))))
  (.seq (.kill [0, 1, 2, 7, 32] 0) (.region [
   ⟨(some 54), (.bin .add .num (.t 32) (.c (.c (.int .i64 1)))), none⟩,
   ⟨(some 32), (.mov (.t 54)), none⟩]))))))))))))
 (.seq (.kill [7] 0) (.seq (.region [
  ⟨(some 9), (.mov (.c (.c .nils))), none⟩])
 (.seq (.kill [7, 9] 0) (.seq (.region [
  ⟨(some 55), (.mov (.t 7)), none⟩,
  ⟨(some 56), (.call 27 [(.t 55), (.c (.c (.int .i64 256))), (.c (.c (.int .i64 5)))]), none⟩,
  ⟨(some 57), (.len .sl (.t 56)), none⟩,
  ⟨(some 58), (.mov (.t 9)), none⟩,
  ⟨(some 59), (.len .sl (.t 58)), none⟩,
  ⟨(some 60), (.bin .eql .num (.t 57) (.t 59)), none⟩,
  ⟨(some 61), (.mov (.t 60)), none⟩,
  ⟨(some 62), (.call 28 []), (some (61, true))⟩,
  ⟨(some 63), (.pick (.t 61) (.t 62) (.c (.c (.bool false)))), none⟩,
  ⟨(some 6), (.mov (.t 63)), none⟩])
 (.ret)))))))))))))))⟩
/-- campanile/campanilelaw16.NeighPlays -/
def n29 : NF := ⟨74, [8],
 .seq (.region [
  ⟨(some 8), (.mov (.c (.c (.bool false)))), none⟩])
 (.seq (.kill [0, 1, 2, 3] 0) (.seq (.region [
  ⟨(some 13), (.mov (.t 0)), none⟩,
  ⟨(some 14), (.call 24 [(.t 13)]), none⟩,
  ⟨(some 15), (.mov (.t 0)), none⟩,
  ⟨(some 16), (.call 30 [(.t 15)]), none⟩,
  ⟨(some 9), (.mov (.t 14)), none⟩,
  ⟨(some 10), (.mov (.t 16)), none⟩])
 (.seq (.kill [1, 2, 3, 9, 10] 0) (.seq (.seq (.region [
  ⟨(some 17), (.mov (.t 9)), none⟩,
  ⟨(some 18), (.bin .neq .ptr (.t 17) (.c (.c .nilp))), none⟩,
  ⟨(some 19), (.mov (.t 10)), none⟩,
  ⟨(some 20), (.bin .neq .ptr (.t 19) (.c (.c .nilp))), none⟩,
  ⟨(some 21), (.bin .neq .bool (.t 18) (.t 20)), none⟩])
 (.seq (.kill [1, 2, 3, 9, 10, 21] 0) (.cond (.t 21)
 (.seq (.region [
   ⟨(some 8), (.mov (.c (.c (.bool false)))), none⟩])
  (.ret))
 (.skip))))
 (.seq (.kill [1, 2, 3, 9, 10] 0) (.seq (.seq (.region [
  ⟨(some 22), (.mov (.t 10)), none⟩,
  ⟨(some 23), (.bin .eql .ptr (.t 22) (.c (.c .nilp))), none⟩])
 (.seq (.kill [1, 2, 3, 9, 10, 23] 0) (.cond (.t 23)
 (.seq (.region [
   ⟨(some 24), (.call 28 []), none⟩,
   ⟨(some 8), (.mov (.t 24)), none⟩])
  (.ret))
 (.skip))))
 (.seq (.kill [1, 2, 3, 9, 10] 0) (.seq (.seq (.region [
  ⟨(some 25), (.mov (.t 1)), none⟩,
  ⟨(some 26), (.len .sl (.t 25)), none⟩,
  ⟨(some 27), (.mov (.c (.c (.int .i64 0)))), none⟩])
 (.seq (.kill [2, 3, 9, 10, 25, 26, 27] 0) (.block 0 (.loop (.seq (.kill [2, 3, 9, 10, 25, 26, 27] 0) (.seq (.region [
   ⟨(some 28), (.bin .lss .num (.t 27) (.t 26)), none⟩])
  (.seq (.kill [2, 3, 9, 10, 25, 26, 27, 28] 0) (.seq (.cond (.t 28)
  (.skip)
  (.exit 0))
  (.seq (.kill [2, 3, 9, 10, 25, 26, 27] 0) (.seq (.block 1 (.seq (.region [
   ⟨(some 29), (.mov (.t 27)), none⟩,
   ⟨(some 30), (.iaddr 2 (.t 25) (.t 27)), none⟩,
   ⟨(some 31), (.load (some 2) (.t 30)), none⟩,
   ⟨(some 12), (.box true 2 (.c (.agg [(.bool false), (.int .i64 0)]))), none⟩,
   ⟨(some 11), (.mov (.t 29)), none⟩,
   ⟨none, (.store 2 (.t 12) (.t 31)), none⟩])
  (.seq (.kill [2, 3, 9, 10, 11, 12, 25, 26, 27] 1) (.seq (.seq (.region [
   ⟨(some 32), (.mov (.t 11)), none⟩,
   ⟨(some 33), (.bin .geq .num (.t 32) (.c (.c (.int .i64 300)))), none⟩])
  (.seq (.kill [2, 3, 9, 10, 12, 25, 26, 27, 33] 1) (.cond (.t 33)
  (.exit 0)
  (.skip))))
  (.seq (.kill [2, 3, 9, 10, 12, 25, 26, 27] 1) (.seq (.seq (.region [
   ⟨(some 34), (.faddr 0 (.t 12)), none⟩,
   ⟨(some 35), (.load none (.t 34)), none⟩])
  (.seq (.kill [2, 3, 9, 10, 12, 25, 26, 27, 35] 1) (.cond (.t 35)
  (.seq (.region [
    ⟨(some 36), (.mov (.t 9)), none⟩,
    ⟨(some 37), (.faddr 1 (.t 12)), none⟩,
    ⟨(some 38), (.load none (.t 37)), none⟩,
    ⟨(some 39), (.call 31 [(.t 36), (.t 38)]), none⟩])
   (.seq (.kill [2, 3, 9, 10, 12, 25, 26, 27] 1) (.region [
    ⟨(some 40), (.mov (.t 10)), none⟩,
    ⟨(some 41), (.faddr 1 (.t 12)), none⟩,
    ⟨(some 42), (.load none (.t 41)), none⟩,
    ⟨(some 43), (.call 32 [(.t 40), (.t 42)]), none⟩])))
  (.seq (.region [
    ⟨(some 44), (.mov (.t 9)), none⟩,
    ⟨(some 45), (.faddr 1 (.t 12)), none⟩,
    ⟨(some 46), (.load none (.t 45)), none⟩,
    ⟨(some 47), (.call 25 [(.t 44), (.t 46)]), none⟩])
   (.seq (.kill [2, 3, 9, 10, 12, 25, 26, 27] 1) (.region [
    ⟨(some 48), (.mov (.t 10)), none⟩,
    ⟨(some 49), (.faddr 1 (.t 12)), none⟩,
    ⟨(some 50), (.load none (.t 49)), none⟩,
    ⟨(some 51), (.call 33 [(.t 48), (.t 50)]), none⟩]))))))
  (.seq (.kill [2, 3, 9, 10, 12, 25, 26, 27] 1) (.seq (.draw 0 [
   ⟨0, none, ⟨(some 52), (.mov (.t 9)), none⟩, []⟩,
   ⟨1, none, ⟨(some 53), (.faddr 1 (.t 12)), none⟩, []⟩,
   ⟨2, none, ⟨(some 54), (.load none (.t 53)), none⟩, []⟩,
   ⟨4, none, ⟨(some 56), (.mov (.t 10)), none⟩, []⟩,
   ⟨5, none, ⟨(some 57), (.faddr 1 (.t 12)), none⟩, []⟩,
   ⟨6, none, ⟨(some 58), (.load none (.t 57)), none⟩, []⟩,
   ⟨3, none, ⟨(some 55), (.call 26 [(.t 52), (.t 54)]), none⟩, [(6, ⟨(some 58), (.load none (.t 57)), none⟩)]⟩,
   ⟨7, none, ⟨(some 59), (.call 34 [(.t 56), (.t 58)]), none⟩, []⟩,
   ⟨8, none, ⟨(some 60), (.bin .neq .num (.t 55) (.t 59)), none⟩, []⟩])
  (.seq (.kill [2, 3, 9, 10, 25, 26, 27, 60] 0) (.cond (.t 60)
  (.seq (.region [
    ⟨(some 8), (.mov (.c (.c (.bool false)))), none⟩])
   (.ret))
  (.skip)))))))))))
  (.seq (.kill [2, 3, 9, 10, 25, 26, 27] 0) (.region [
   ⟨(some 61), (.bin .add .num (.t 27) (.c (.c (.int .i64 1)))), none⟩,
   ⟨(some 27), (.mov (.t 61)), none⟩]))))))))))))
 (.seq (.kill [2, 3, 9, 10] 0) (.seq (.region [
  ⟨(some 62), (.mov (.t 9)), none⟩,
  ⟨(some 63), (.mov (.t 2)), none⟩,
  ⟨(some 64), (.mov (.t 3)), none⟩,
  ⟨(some 65), (.call 27 [(.t 62), (.t 63), (.t 64)]), none⟩,
  ⟨(some 66), (.mov (.t 10)), none⟩,
  ⟨(some 67), (.mov (.t 2)), none⟩,
  ⟨(some 68), (.mov (.t 3)), none⟩,
  ⟨(some 69), (.call 35 [(.t 66), (.t 67), (.t 68)]), none⟩,
  ⟨(some 70), (.call 36 [(.t 65), (.t 69)]), none⟩,
  ⟨(some 71), (.mov (.t 70)), none⟩,
  ⟨(some 72), (.call 28 []), (some (71, true))⟩,
  ⟨(some 73), (.pick (.t 71) (.t 72) (.c (.c (.bool false)))), none⟩,
  ⟨(some 8), (.mov (.t 73)), none⟩])
 (.ret)))))))))))⟩
/-- campanile/campanilelaw16.NeighNil -/
def n37 : NF := ⟨32, [6],
 .seq (.region [
  ⟨(some 3), (.box true 2 (.t 0)), none⟩,
  ⟨(some 6), (.mov (.c (.c (.bool false)))), none⟩])
 (.seq (.kill [1, 2, 3] 1) (.seq (.region [
  ⟨(some 7), (.mov (.c (.c .nilp))), none⟩])
 (.seq (.kill [1, 2, 3, 7] 1) (.seq (.region [
  ⟨(some 8), (.mov (.t 7)), none⟩,
  ⟨(some 9), (.faddr 1 (.t 3)), none⟩,
  ⟨(some 10), (.load none (.t 9)), none⟩,
  ⟨(some 11), (.call 25 [(.t 8), (.t 10)]), none⟩])
 (.seq (.kill [1, 2, 3, 7] 1) (.seq (.region [
  ⟨(some 12), (.mov (.t 7)), none⟩,
  ⟨(some 13), (.faddr 1 (.t 3)), none⟩,
  ⟨(some 14), (.load none (.t 13)), none⟩,
  ⟨(some 15), (.call 31 [(.t 12), (.t 14)]), none⟩])
 (.seq (.kill [1, 2, 3, 7] 1) (.seq (.region [
  ⟨(some 16), (.mov (.t 7)), none⟩,
  ⟨(some 17), (.faddr 1 (.t 3)), none⟩,
  ⟨(some 18), (.load none (.t 17)), none⟩,
  ⟨(some 19), (.call 26 [(.t 16), (.t 18)]), none⟩,
  ⟨(some 20), (.bin .eql .num (.t 19) (.c (.c (.int .i64 0)))), none⟩,
  ⟨(some 21), (.mov (.t 20)), none⟩,
  ⟨(some 22), (.mov (.t 7)), (some (21, true))⟩,
  ⟨(some 23), (.mov (.t 1)), (some (21, true))⟩,
  ⟨(some 24), (.mov (.t 2)), (some (21, true))⟩,
  ⟨(some 25), (.call 27 [(.t 22), (.t 23), (.t 24)]), (some (21, true))⟩,
  ⟨(some 26), (.len .sl (.t 25)), (some (21, true))⟩,
  ⟨(some 27), (.bin .eql .num (.t 26) (.c (.c (.int .i64 0)))), (some (21, true))⟩,
  ⟨(some 28), (.pick (.t 21) (.t 27) (.c (.c (.bool false)))), none⟩,
  ⟨(some 29), (.mov (.t 28)), none⟩,
  ⟨(some 30), (.call 28 []), (some (29, true))⟩,
  ⟨(some 31), (.pick (.t 29) (.t 30) (.c (.c (.bool false)))), none⟩,
  ⟨(some 6), (.mov (.t 31)), none⟩])
 (.ret)))))))))⟩
/-- campanile/campanilelaw16.NeighFades -/
def n38 : NF := ⟨78, [4],
 .seq (.region [
  ⟨(some 4), (.mov (.c (.c (.bool false)))), none⟩])
 (.seq (.kill [0, 1] 0) (.seq (.region [
  ⟨(some 9), (.mov (.t 0)), none⟩,
  ⟨(some 10), (.conv (.toInt .u64) (.t 9)), none⟩,
  ⟨(some 11), (.bin .rem .num (.t 10) (.c (.c (.int .u64 100)))), none⟩,
  ⟨(some 12), (.conv (.toInt .i64) (.t 11)), none⟩,
  ⟨(some 13), (.mov (.t 1)), none⟩,
  ⟨(some 14), (.conv (.toInt .u64) (.t 13)), none⟩,
  ⟨(some 15), (.bin .rem .num (.t 14) (.c (.c (.int .u64 100)))), none⟩,
  ⟨(some 16), (.conv (.toInt .i64) (.t 15)), none⟩,
  ⟨(some 0), (.mov (.t 12)), none⟩,
  ⟨(some 1), (.mov (.t 16)), none⟩])
 (.seq (.kill [0, 1] 0) (.seq (.region [
  ⟨(some 17), (.call 24 [(.c (.c (.int .i64 1)))]), none⟩,
  ⟨(some 5), (.mov (.t 17)), none⟩])
 (.seq (.kill [0, 1, 5] 0) (.seq (.region [
  ⟨(some 6), (.mov (.c (.c (.int .i64 0)))), none⟩])
 (.seq (.kill [0, 1, 5, 6] 0) (.seq (.seq (.region [
  ⟨(some 18), (.mov (.t 0)), none⟩,
  ⟨(some 19), (.mov (.c (.c (.int .i64 0)))), none⟩])
 (.seq (.kill [0, 1, 5, 6, 18, 19] 0) (.block 0 (.loop (.seq (.kill [0, 1, 5, 6, 18, 19] 0) (.seq (.region [
   ⟨(some 20), (.bin .lss .num (.t 19) (.t 18)), none⟩])
  (.seq (.kill [0, 1, 5, 6, 18, 19, 20] 0) (.seq (.cond (.t 20)
  (.skip)
  (.exit 0))
  (.seq (.kill [0, 1, 5, 6, 18, 19] 0) (.seq (.block 1 (.seq (.region [
   ⟨(some 21), (.mov (.t 5)), none⟩,
   ⟨(some 22), (.call 25 [(.t 21), (.c (.c (.int .i64 2)))]), none⟩])
  (.seq (.kill [0, 1, 5, 6, 18, 19] 0) (.seq (.region [
   ⟨(some 23), (.mov (.t 5)), none⟩,
   ⟨(some 24), (.call 26 [(.t 23), (.c (.c (.int .i64 2)))]), none⟩,
   ⟨(some 7), (.mov (.t 24)), none⟩])
  (.seq (.kill [0, 1, 5, 6, 7, 18, 19] 0) (.seq (.seq (.region [
   ⟨(some 25), (.mov (.t 7)), none⟩,
   ⟨(some 26), (.mov (.t 6)), none⟩,
   ⟨(some 27), (.bin .leq .num (.t 25) (.t 26)), none⟩,
   ⟨(some 28), (.mov (.t 27)), none⟩,
   ⟨(some 29), (.mov (.t 7)), (some (28, true))⟩,
   ⟨(some 30), (.bin .neq .num (.t 29) (.c (.c (.int .i64 255)))), (some (28, true))⟩,
   ⟨(some 31), (.pick (.t 28) (.t 30) (.c (.c (.bool false)))), none⟩,
   ⟨(some 32), (.mov (.t 31)), none⟩,
   ⟨(some 33), (.mov (.t 7)), (some (32, false))⟩,
   ⟨(some 34), (.bin .gtr .num (.t 33) (.c (.c (.int .i64 255)))), (some (32, false))⟩,
   ⟨(some 35), (.pick (.t 32) (.c (.c (.bool true))) (.t 34)), none⟩])
  (.seq (.kill [0, 1, 5, 7, 18, 19, 35] 0) (.cond (.t 35)
  (.seq (.region [
    ⟨(some 4), (.mov (.c (.c (.bool false)))), none⟩])
   (.ret))
  (.skip))))
  (.seq (.kill [0, 1, 5, 7, 18, 19] 0) (.region [
   ⟨(some 36), (.mov (.t 7)), none⟩,
   ⟨(some 6), (.mov (.t 36)), none⟩]))))))))
  (.seq (.kill [0, 1, 5, 6, 18, 19] 0) (.region [
   ⟨(some 37), (.bin .add .num (.t 19) (.c (.c (.int .i64 1)))), none⟩,
   ⟨(some 19), (.mov (.t 37)), none⟩]))))))))))))
 (.seq (.kill [0, 1, 5, 6] 0) (.seq (.seq (.region [
  ⟨(some 38), (.mov (.t 0)), none⟩,
  ⟨(some 39), (.bin .geq .num (.t 38) (.c (.c (.int .i64 50)))), none⟩,
  ⟨(some 40), (.mov (.t 39)), none⟩,
  ⟨(some 41), (.mov (.t 6)), (some (40, true))⟩,
  ⟨(some 42), (.bin .neq .num (.t 41) (.c (.c (.int .i64 255)))), (some (40, true))⟩,
  ⟨(some 43), (.pick (.t 40) (.t 42) (.c (.c (.bool false)))), none⟩])
 (.seq (.kill [1, 5, 6, 43] 0) (.cond (.t 43)
 (.seq (.region [
   ⟨(some 4), (.mov (.c (.c (.bool false)))), none⟩])
  (.ret))
 (.skip))))
 (.seq (.kill [1, 5, 6] 0) (.seq (.seq (.region [
  ⟨(some 44), (.mov (.t 1)), none⟩,
  ⟨(some 45), (.mov (.c (.c (.int .i64 0)))), none⟩])
 (.seq (.kill [1, 5, 6, 44, 45] 0) (.block 2 (.loop (.seq (.kill [1, 5, 6, 44, 45] 0) (.seq (.region [
   ⟨(some 46), (.bin .lss .num (.t 45) (.t 44)), none⟩])
  (.seq (.kill [1, 5, 6, 44, 45, 46] 0) (.seq (.cond (.t 46)
  (.skip)
  (.exit 2))
  (.seq (.kill [1, 5, 6, 44, 45] 0) (.seq (.block 3 (.seq (.region [
   ⟨(some 47), (.mov (.t 5)), none⟩,
   ⟨(some 48), (.call 31 [(.t 47), (.c (.c (.int .i64 2)))]), none⟩])
  (.seq (.kill [1, 5, 6, 44, 45] 0) (.seq (.region [
   ⟨(some 49), (.mov (.t 5)), none⟩,
   ⟨(some 50), (.call 26 [(.t 49), (.c (.c (.int .i64 2)))]), none⟩,
   ⟨(some 8), (.mov (.t 50)), none⟩])
  (.seq (.kill [1, 5, 6, 8, 44, 45] 0) (.seq (.seq (.region [
   ⟨(some 51), (.mov (.t 8)), none⟩,
   ⟨(some 52), (.mov (.t 6)), none⟩,
   ⟨(some 53), (.bin .geq .num (.t 51) (.t 52)), none⟩,
   ⟨(some 54), (.mov (.t 53)), none⟩,
   ⟨(some 55), (.mov (.t 8)), (some (54, true))⟩,
   ⟨(some 56), (.bin .neq .num (.t 55) (.c (.c (.int .i64 0)))), (some (54, true))⟩,
   ⟨(some 57), (.pick (.t 54) (.t 56) (.c (.c (.bool false)))), none⟩,
   ⟨(some 58), (.mov (.t 57)), none⟩,
   ⟨(some 59), (.mov (.t 8)), (some (58, false))⟩,
   ⟨(some 60), (.bin .lss .num (.t 59) (.c (.c (.int .i64 0)))), (some (58, false))⟩,
   ⟨(some 61), (.pick (.t 58) (.c (.c (.bool true))) (.t 60)), none⟩])
  (.seq (.kill [1, 5, 8, 44, 45, 61] 0) (.cond (.t 61)
  (.seq (.region [
    ⟨(some 4), (.mov (.c (.c (.bool false)))), none⟩])
   (.ret))
  (.skip))))
  (.seq (.kill [1, 5, 8, 44, 45] 0) (.region [
   ⟨(some 62), (.mov (.t 8)), none⟩,
   ⟨(some 6), (.mov (.t 62)), none⟩]))))))))
  (.seq (.kill [1, 5, 6, 44, 45] 0) (.region [
   ⟨(some 63), (.bin .add .num (.t 45) (.c (.c (.int .i64 1)))), none⟩,
   ⟨(some 45), (.mov (.t 63)), none⟩]))))))))))))
 (.seq (.kill [1, 5, 6] 0) (.seq (.region [
  ⟨(some 64), (.mov (.t 1)), none⟩,
  ⟨(some 65), (.bin .lss .num (.t 64) (.c (.c (.int .i64 50)))), none⟩,
  ⟨(some 66), (.mov (.t 65)), none⟩,
  ⟨(some 67), (.mov (.t 6)), (some (66, false))⟩,
  ⟨(some 68), (.bin .eql .num (.t 67) (.c (.c (.int .i64 0)))), (some (66, false))⟩,
  ⟨(some 69), (.pick (.t 66) (.c (.c (.bool true))) (.t 68)), none⟩,
  ⟨(some 70), (.mov (.t 69)), none⟩,
  ⟨(some 71), (.mov (.t 5)), (some (70, true))⟩,
  ⟨(some 72), (.call 26 [(.t 71), (.c (.c (.int .i64 3)))]), (some (70, true))⟩,
  ⟨(some 73), (.bin .eql .num (.t 72) (.c (.c (.int .i64 0)))), (some (70, true))⟩,
  ⟨(some 74), (.pick (.t 70) (.t 73) (.c (.c (.bool false)))), none⟩,
  ⟨(some 75), (.mov (.t 74)), none⟩,
  ⟨(some 76), (.call 28 []), (some (75, true))⟩,
  ⟨(some 77), (.pick (.t 75) (.t 76) (.c (.c (.bool false)))), none⟩,
  ⟨(some 4), (.mov (.t 77)), none⟩])
 (.ret)))))))))))))))⟩
/-- campanile/campanilelaw16.NeighReports -/
def n39 : NF := ⟨151, [6],
 .seq (.region [
  ⟨(some 6), (.mov (.c (.c (.bool false)))), none⟩])
 (.seq (.kill [0, 1, 2] 0) (.seq (.region [
  ⟨(some 17), (.call 24 [(.c (.c (.int .i64 0)))]), none⟩,
  ⟨(some 7), (.mov (.t 17)), none⟩])
 (.seq (.kill [0, 1, 2, 7] 0) (.seq (.seq (.region [
  ⟨(some 18), (.mov (.t 7)), none⟩,
  ⟨(some 19), (.bin .eql .ptr (.t 18) (.c (.c .nilp))), none⟩])
 (.seq (.kill [0, 1, 2, 7, 19] 0) (.cond (.t 19)
 (.seq (.region [
   ⟨(some 6), (.mov (.c (.c (.bool false)))), none⟩])
  (.ret))
 (.skip))))
 (.seq (.kill [0, 1, 2, 7] 0) (.seq (.seq (.region [
  ⟨(some 20), (.mov (.t 0)), none⟩,
  ⟨(some 21), (.len .sl (.t 20)), none⟩,
  ⟨(some 22), (.mov (.c (.c (.int .i64 0)))), none⟩])
 (.seq (.kill [1, 2, 7, 20, 21, 22] 0) (.block 0 (.loop (.seq (.kill [1, 2, 7, 20, 21, 22] 0) (.seq (.region [
   ⟨(some 23), (.bin .lss .num (.t 22) (.t 21)), none⟩])
  (.seq (.kill [1, 2, 7, 20, 21, 22, 23] 0) (.seq (.cond (.t 23)
  (.skip)
  (.exit 0))
  (.seq (.kill [1, 2, 7, 20, 21, 22] 0) (.seq (.block 1 (.seq (.region [
   ⟨(some 24), (.mov (.t 22)), none⟩,
   ⟨(some 25), (.iaddr 2 (.t 20) (.t 22)), none⟩,
   ⟨(some 26), (.load (some 2) (.t 25)), none⟩,
   ⟨(some 9), (.box true 2 (.c (.agg [(.bool false), (.int .i64 0)]))), none⟩,
   ⟨(some 8), (.mov (.t 24)), none⟩,
   ⟨none, (.store 2 (.t 9) (.t 26)), none⟩])
  (.seq (.kill [1, 2, 7, 8, 9, 20, 21, 22] 1) (.seq (.seq (.region [
   ⟨(some 27), (.mov (.t 8)), none⟩,
   ⟨(some 28), (.bin .geq .num (.t 27) (.c (.c (.int .i64 200)))), none⟩])
  (.seq (.kill [1, 2, 7, 9, 20, 21, 22, 28] 1) (.cond (.t 28)
  (.exit 0)
  (.skip))))
  (.seq (.kill [1, 2, 7, 9, 20, 21, 22] 1) (.seq (.region [
   ⟨(some 29), (.faddr 0 (.t 9)), none⟩,
   ⟨(some 30), (.load none (.t 29)), none⟩])
  (.seq (.kill [1, 2, 7, 9, 20, 21, 22, 30] 1) (.cond (.t 30)
  (.region [
    ⟨(some 31), (.mov (.t 7)), none⟩,
    ⟨(some 32), (.faddr 1 (.t 9)), none⟩,
    ⟨(some 33), (.load none (.t 32)), none⟩,
    ⟨(some 34), (.call 31 [(.t 31), (.t 33)]), none⟩])
  (.region [
    ⟨(some 35), (.mov (.t 7)), none⟩,
    ⟨(some 36), (.faddr 1 (.t 9)), none⟩,
    ⟨(some 37), (.load none (.t 36)), none⟩,
    ⟨(some 38), (.call 25 [(.t 35), (.t 37)]), none⟩])))))))))
  (.seq (.kill [1, 2, 7, 20, 21, 22] 0) (.region [
   ⟨(some 39), (.bin .add .num (.t 22) (.c (.c (.int .i64 1)))), none⟩,
   ⟨(some 22), (.mov (.t 39)), none⟩]))))))))))))
 (.seq (.kill [1, 2, 7] 0) (.seq (.region [
  ⟨(some 10), (.mov (.c (.c (.int .i64 0)))), none⟩])
 (.seq (.kill [1, 2, 7, 10] 0) (.seq (.seq (.region [
  ⟨(some 40), (.mov (.c (.c (.int .i64 0)))), none⟩])
 (.seq (.kill [1, 2, 7, 10, 40] 0) (.block 2 (.loop (.seq (.kill [1, 2, 7, 10, 40] 0) (.seq (.region [
   ⟨(some 41), (.bin .lss .num (.t 40) (.c (.c (.int .i64 16)))), none⟩])
  (.seq (.kill [1, 2, 7, 10, 40, 41] 0) (.seq (.cond (.t 41)
  (.skip)
  (.exit 2))
  (.seq (.kill [1, 2, 7, 10, 40] 0) (.seq (.block 3 (.seq (.region [
   ⟨(some 42), (.mov (.t 40)), none⟩,
   ⟨(some 11), (.mov (.t 42)), none⟩])
  (.seq (.kill [1, 2, 7, 10, 11, 40] 0) (.seq (.region [
   ⟨(some 43), (.mov (.t 7)), none⟩,
   ⟨(some 44), (.mov (.t 11)), none⟩,
   ⟨(some 45), (.call 26 [(.t 43), (.t 44)]), none⟩,
   ⟨(some 12), (.mov (.t 45)), none⟩])
  (.seq (.kill [1, 2, 7, 10, 12, 40] 0) (.seq (.region [
   ⟨(some 46), (.mov (.t 12)), none⟩,
   ⟨(some 47), (.bin .gtr .num (.t 46) (.c (.c (.int .i64 0)))), none⟩,
   ⟨(some 48), (.mov (.t 47)), none⟩,
   ⟨(some 49), (.mov (.t 12)), (some (48, true))⟩,
   ⟨(some 50), (.mov (.t 1)), (some (48, true))⟩,
   ⟨(some 51), (.bin .geq .num (.t 49) (.t 50)), (some (48, true))⟩,
   ⟨(some 52), (.pick (.t 48) (.t 51) (.c (.c (.bool false)))), none⟩])
  (.seq (.kill [1, 2, 7, 10, 40, 52] 0) (.cond (.t 52)
  (.region [
    ⟨(some 53), (.mov (.t 10)), none⟩,
    ⟨(some 54), (.bin .add .num (.t 53) (.c (.c (.int .i64 1)))), none⟩,
    ⟨(some 10), (.mov (.t 54)), none⟩])
  (.skip)))))))))
  (.seq (.kill [1, 2, 7, 10, 40] 0) (.region [
   ⟨(some 55), (.bin .add .num (.t 40) (.c (.c (.int .i64 1)))), none⟩,
   ⟨(some 40), (.mov (.t 55)), none⟩]))))))))))))
 (.seq (.kill [1, 2, 7, 10] 0) (.seq (.region [
  ⟨(some 56), (.mov (.t 7)), none⟩,
  ⟨(some 57), (.mov (.t 1)), none⟩,
  ⟨(some 58), (.mov (.t 2)), none⟩,
  ⟨(some 59), (.call 27 [(.t 56), (.t 57), (.t 58)]), none⟩,
  ⟨(some 13), (.mov (.t 59)), none⟩])
 (.seq (.kill [1, 2, 7, 10, 13] 0) (.seq (.seq (.region [
  ⟨(some 60), (.mov (.t 13)), none⟩,
  ⟨(some 61), (.len .sl (.t 60)), none⟩,
  ⟨(some 62), (.mov (.t 10)), none⟩,
  ⟨(some 63), (.mov (.t 2)), none⟩,
  ⟨(some 64), (.min [(.t 62), (.t 63)]), none⟩,
  ⟨(some 65), (.max [(.c (.c (.int .i64 0))), (.t 64)]), none⟩,
  ⟨(some 66), (.bin .neq .num (.t 61) (.t 65)), none⟩])
 (.seq (.kill [1, 7, 13, 66] 0) (.cond (.t 66)
 (.seq (.region [
   ⟨(some 6), (.mov (.c (.c (.bool false)))), none⟩])
  (.ret))
 (.skip))))
 (.seq (.kill [1, 7, 13] 0) (.seq (.region [
  ⟨(some 67), (.build [(.bool false), (.bool false), (.bool false), (.bool false), (.bool false), (.bool false), (.bool false), (.bool false), (.bool false), (.bool false), (.bool false), (.bool false), (.bool false), (.bool false), (.bool false), (.bool false)] []), none⟩,
  ⟨(some 14), (.box true 16 (.c (.agg [(.bool false), (.bool false), (.bool false), (.bool false), (.bool false), (.bool false), (.bool false), (.bool false), (.bool false), (.bool false), (.bool false), (.bool false), (.bool false), (.bool false), (.bool false), (.bool false)]))), none⟩,
  ⟨none, (.store 16 (.t 14) (.t 67)), none⟩])
 (.seq (.kill [1, 7, 13, 14] 1) (.seq (.seq (.region [
  ⟨(some 68), (.mov (.t 13)), none⟩,
  ⟨(some 69), (.len .sl (.t 68)), none⟩,
  ⟨(some 70), (.mov (.c (.c (.int .i64 0)))), none⟩])
 (.seq (.kill [1, 7, 13, 14, 68, 69, 70] 1) (.block 4 (.loop (.seq (.kill [1, 7, 13, 14, 68, 69, 70] 1) (.seq (.region [
   ⟨(some 71), (.bin .lss .num (.t 70) (.t 69)), none⟩])
  (.seq (.kill [1, 7, 13, 14, 68, 69, 70, 71] 1) (.seq (.cond (.t 71)
  (.skip)
  (.exit 4))
  (.seq (.kill [1, 7, 13, 14, 68, 69, 70] 1) (.seq (.block 5 (.seq (.region [
   ⟨(some 72), (.mov (.t 70)), none⟩,
   ⟨(some 73), (.iaddr 3 (.t 68) (.t 70)), none⟩,
   ⟨(some 74), (.load (some 3) (.t 73)), none⟩,
   ⟨(some 16), (.box true 3 (.c (.agg [(.int .i64 0), (.int .i64 0), (.int .i64 0)]))), none⟩,
   ⟨(some 15), (.mov (.t 72)), none⟩,
   ⟨none, (.store 3 (.t 16) (.t 74)), none⟩])
  (.seq (.kill [1, 7, 13, 14, 15, 16, 68, 69, 70] 2) (.seq (.seq (.draw 0 [
   ⟨0, none, ⟨(some 75), (.faddr 0 (.t 16)), none⟩, []⟩,
   ⟨1, none, ⟨(some 76), (.load none (.t 75)), none⟩, []⟩,
   ⟨2, none, ⟨(some 77), (.bin .neq .num (.t 76) (.c (.c (.int .i64 0)))), none⟩, []⟩,
   ⟨3, none, ⟨(some 78), (.mov (.t 77)), none⟩, []⟩,
   ⟨4, none, ⟨(some 79), (.faddr 1 (.t 16)), (some (78, false))⟩, []⟩,
   ⟨5, none, ⟨(some 80), (.load none (.t 79)), (some (78, false))⟩, []⟩,
   ⟨6, none, ⟨(some 81), (.bin .lss .num (.t 80) (.c (.c (.int .i64 1)))), (some (78, false))⟩, []⟩,
   ⟨7, none, ⟨(some 82), (.pick (.t 78) (.c (.c (.bool true))) (.t 81)), none⟩, []⟩,
   ⟨8, none, ⟨(some 83), (.mov (.t 82)), none⟩, []⟩,
   ⟨9, none, ⟨(some 84), (.faddr 1 (.t 16)), (some (83, false))⟩, []⟩,
   ⟨10, none, ⟨(some 85), (.load none (.t 84)), (some (83, false))⟩, []⟩,
   ⟨11, none, ⟨(some 86), (.bin .gtr .num (.t 85) (.c (.c (.int .i64 15)))), (some (83, false))⟩, []⟩,
   ⟨12, none, ⟨(some 87), (.pick (.t 83) (.c (.c (.bool true))) (.t 86)), none⟩, []⟩,
   ⟨13, none, ⟨(some 88), (.mov (.t 87)), none⟩, []⟩,
   ⟨14, none, ⟨(some 89), (.faddr 1 (.t 16)), (some (88, false))⟩, []⟩,
   ⟨15, none, ⟨(some 90), (.load none (.t 89)), (some (88, false))⟩, []⟩,
   ⟨16, none, ⟨(some 91), (.iaddrA 16 1 (.t 14) (.t 90)), (some (88, false))⟩, []⟩,
   ⟨17, none, ⟨(some 92), (.load none (.t 91)), (some (88, false))⟩, []⟩,
   ⟨18, none, ⟨(some 93), (.pick (.t 88) (.c (.c (.bool true))) (.t 92)), none⟩, []⟩,
   ⟨19, none, ⟨(some 94), (.mov (.t 93)), none⟩, []⟩,
   ⟨20, none, ⟨(some 95), (.faddr 2 (.t 16)), (some (94, false))⟩, []⟩,
   ⟨21, none, ⟨(some 96), (.load none (.t 95)), (some (94, false))⟩, []⟩,
   ⟨22, none, ⟨(some 97), (.mov (.t 7)), (some (94, false))⟩, []⟩,
   ⟨23, none, ⟨(some 98), (.faddr 1 (.t 16)), (some (94, false))⟩, []⟩,
   ⟨24, none, ⟨(some 99), (.load none (.t 98)), (some (94, false))⟩, []⟩,
   ⟨25, none, ⟨(some 100), (.call 26 [(.t 97), (.t 99)]), (some (94, false))⟩, [(21, ⟨(some 96), (.load none (.t 95)), (some (94, false))⟩)]⟩,
   ⟨26, none, ⟨(some 101), (.bin .neq .num (.t 96) (.t 100)), (some (94, false))⟩, []⟩,
   ⟨27, none, ⟨(some 102), (.pick (.t 94) (.c (.c (.bool true))) (.t 101)), none⟩, []⟩,
   ⟨28, none, ⟨(some 103), (.mov (.t 102)), none⟩, []⟩,
   ⟨29, none, ⟨(some 104), (.faddr 2 (.t 16)), (some (103, false))⟩, []⟩,
   ⟨30, none, ⟨(some 105), (.load none (.t 104)), (some (103, false))⟩, []⟩,
   ⟨31, none, ⟨(some 106), (.mov (.t 1)), (some (103, false))⟩, []⟩,
   ⟨32, none, ⟨(some 107), (.bin .lss .num (.t 105) (.t 106)), (some (103, false))⟩, []⟩,
   ⟨33, none, ⟨(some 108), (.pick (.t 103) (.c (.c (.bool true))) (.t 107)), none⟩, []⟩,
   ⟨34, none, ⟨(some 109), (.mov (.t 108)), none⟩, []⟩,
   ⟨35, none, ⟨(some 110), (.mov (.t 15)), (some (109, false))⟩, []⟩,
   ⟨36, none, ⟨(some 111), (.bin .gtr .num (.t 110) (.c (.c (.int .i64 0)))), (some (109, false))⟩, []⟩,
   ⟨37, none, ⟨(some 112), (.mov (.t 111)), (some (109, false))⟩, []⟩,
   ⟨38, none, ⟨(some 113), (.faddr 2 (.t 16)), (some (112, true))⟩, []⟩,
   ⟨39, none, ⟨(some 114), (.load none (.t 113)), (some (112, true))⟩, []⟩,
   ⟨40, none, ⟨(some 115), (.mov (.t 13)), (some (112, true))⟩, []⟩,
   ⟨41, none, ⟨(some 116), (.mov (.t 15)), (some (112, true))⟩, []⟩,
   ⟨42, none, ⟨(some 117), (.bin .sub .num (.t 116) (.c (.c (.int .i64 1)))), (some (112, true))⟩, []⟩,
   ⟨43, none, ⟨(some 118), (.iaddr 3 (.t 115) (.t 117)), (some (112, true))⟩, []⟩,
   ⟨44, none, ⟨(some 119), (.faddr 2 (.t 118)), (some (112, true))⟩, []⟩,
   ⟨45, none, ⟨(some 120), (.load none (.t 119)), (some (112, true))⟩, []⟩,
   ⟨46, none, ⟨(some 121), (.bin .gtr .num (.t 114) (.t 120)), (some (112, true))⟩, []⟩,
   ⟨47, none, ⟨(some 122), (.mov (.t 121)), (some (112, true))⟩, []⟩,
   ⟨48, none, ⟨(some 123), (.faddr 2 (.t 16)), (some (122, false))⟩, []⟩,
   ⟨49, none, ⟨(some 124), (.load none (.t 123)), (some (122, false))⟩, []⟩,
   ⟨50, none, ⟨(some 125), (.mov (.t 13)), (some (122, false))⟩, []⟩,
   ⟨51, none, ⟨(some 126), (.mov (.t 15)), (some (122, false))⟩, []⟩,
   ⟨52, none, ⟨(some 127), (.bin .sub .num (.t 126) (.c (.c (.int .i64 1)))), (some (122, false))⟩, []⟩,
   ⟨53, none, ⟨(some 128), (.iaddr 3 (.t 125) (.t 127)), (some (122, false))⟩, []⟩,
   ⟨54, none, ⟨(some 129), (.faddr 2 (.t 128)), (some (122, false))⟩, []⟩,
   ⟨55, none, ⟨(some 130), (.load none (.t 129)), (some (122, false))⟩, []⟩,
   ⟨56, none, ⟨(some 131), (.bin .eql .num (.t 124) (.t 130)), (some (122, false))⟩, []⟩,
   ⟨57, none, ⟨(some 132), (.mov (.t 131)), (some (122, false))⟩, []⟩,
   ⟨58, none, ⟨(some 133), (.faddr 1 (.t 16)), (some (132, true))⟩, []⟩,
   ⟨59, none, ⟨(some 134), (.load none (.t 133)), (some (132, true))⟩, []⟩,
   ⟨60, none, ⟨(some 135), (.mov (.t 13)), (some (132, true))⟩, []⟩,
   ⟨61, none, ⟨(some 136), (.mov (.t 15)), (some (132, true))⟩, []⟩,
   ⟨62, none, ⟨(some 137), (.bin .sub .num (.t 136) (.c (.c (.int .i64 1)))), (some (132, true))⟩, []⟩,
   ⟨63, none, ⟨(some 138), (.iaddr 3 (.t 135) (.t 137)), (some (132, true))⟩, []⟩,
   ⟨64, none, ⟨(some 139), (.faddr 1 (.t 138)), (some (132, true))⟩, []⟩,
   ⟨65, none, ⟨(some 140), (.load none (.t 139)), (some (132, true))⟩, []⟩,
   ⟨66, none, ⟨(some 141), (.bin .lss .num (.t 134) (.t 140)), (some (132, true))⟩, []⟩,
   ⟨67, none, ⟨(some 142), (.pick (.t 132) (.t 141) (.c (.c (.bool false)))), (some (122, false))⟩, []⟩,
   ⟨68, none, ⟨(some 143), (.pick (.t 122) (.c (.c (.bool true))) (.t 142)), (some (112, true))⟩, []⟩,
   ⟨69, none, ⟨(some 144), (.pick (.t 112) (.t 143) (.c (.c (.bool false)))), (some (109, false))⟩, []⟩,
   ⟨70, none, ⟨(some 145), (.pick (.t 109) (.c (.c (.bool true))) (.t 144)), none⟩, []⟩])
  (.seq (.kill [1, 7, 13, 14, 16, 68, 69, 70, 145] 2) (.cond (.t 145)
  (.seq (.region [
    ⟨(some 6), (.mov (.c (.c (.bool false)))), none⟩])
   (.ret))
  (.skip))))
  (.seq (.kill [1, 7, 13, 14, 16, 68, 69, 70] 2) (.region [
   ⟨(some 146), (.faddr 1 (.t 16)), none⟩,
   ⟨(some 147), (.load none (.t 146)), none⟩,
   ⟨(some 148), (.iaddrA 16 1 (.t 14) (.t 147)), none⟩,
   ⟨none, (.store 1 (.t 148) (.c (.c (.bool true)))), none⟩]))))))
  (.seq (.kill [1, 7, 13, 14, 68, 69, 70] 1) (.region [
   ⟨(some 149), (.bin .add .num (.t 70) (.c (.c (.int .i64 1)))), none⟩,
   ⟨(some 70), (.mov (.t 149)), none⟩]))))))))))))
 (.seq (.kill [] 0) (.seq (.region [
  ⟨(some 150), (.call 28 []), none⟩,
  ⟨(some 6), (.mov (.t 150)), none⟩])
 (.ret)))))))))))))))))))))⟩
/-- campanile/neigh.New -/
def n24 : NF := ⟨12, [2],
 .seq (.region [
  ⟨(some 2), (.mov (.c (.c .nilp))), none⟩])
 (.seq (.kill [0] 0) (.seq (.seq (.region [
  ⟨(some 3), (.mov (.t 0)), none⟩,
  ⟨(some 4), (.bin .lss .num (.t 3) (.c (.c (.int .i64 0)))), none⟩,
  ⟨(some 5), (.mov (.t 4)), none⟩,
  ⟨(some 6), (.mov (.t 0)), (some (5, false))⟩,
  ⟨(some 7), (.bin .geq .num (.t 6) (.c (.c (.int .i64 16)))), (some (5, false))⟩,
  ⟨(some 8), (.pick (.t 5) (.c (.c (.bool true))) (.t 7)), none⟩])
 (.seq (.kill [0, 8] 0) (.cond (.t 8)
 (.seq (.region [
   ⟨(some 2), (.mov (.c (.c .nilp))), none⟩])
  (.ret))
 (.skip))))
 (.seq (.kill [0] 0) (.seq (.region [
  ⟨(some 9), (.mov (.t 0)), none⟩,
  ⟨(some 10), (.build [(.int .i64 0), (.int .i64 0), (.int .i64 0), (.int .i64 0), (.int .i64 0), (.int .i64 0), (.int .i64 0), (.int .i64 0), (.int .i64 0), (.int .i64 0), (.int .i64 0), (.int .i64 0), (.int .i64 0), (.int .i64 0), (.int .i64 0), (.int .i64 0), (.int .i64 0)] [(0, (1, (.t 9)))]), none⟩,
  ⟨(some 11), (.box false 17 (.t 10)), none⟩,
  ⟨(some 2), (.mov (.t 11)), none⟩])
 (.ret)))))⟩
/-- (*campanile/neigh.Table).Heard -/
def n25 : NF := ⟨25, [],
 .seq (.region [
  ⟨(some 4), (.mov (.t 0)), none⟩,
  ⟨(some 5), (.mov (.t 1)), none⟩,
  ⟨(some 6), (.call 40 [(.t 4), (.t 5)]), none⟩])
 (.seq (.kill [0, 1, 6] 0) (.cond (.t 6)
 (.draw 0 [
   ⟨0, none, ⟨(some 7), (.mov (.t 0)), none⟩, []⟩,
   ⟨1, none, ⟨(some 8), (.mov (.t 1)), none⟩, []⟩,
   ⟨2, none, ⟨(some 9), (.nilck (.t 7)), none⟩, []⟩,
   ⟨3, none, ⟨(some 10), (.faddr 1 (.t 9)), none⟩, []⟩,
   ⟨4, none, ⟨(some 11), (.iaddrA 16 1 (.t 10) (.t 8)), none⟩, []⟩,
   ⟨5, none, ⟨(some 12), (.load none (.t 11)), none⟩, []⟩,
   ⟨6, none, ⟨(some 13), (.mov (.t 0)), none⟩, []⟩,
   ⟨7, none, ⟨(some 14), (.mov (.t 1)), none⟩, []⟩,
   ⟨8, none, ⟨(some 15), (.nilck (.t 13)), none⟩, []⟩,
   ⟨9, none, ⟨(some 16), (.faddr 1 (.t 15)), none⟩, []⟩,
   ⟨10, none, ⟨(some 17), (.iaddrA 16 1 (.t 16) (.t 14)), none⟩, []⟩,
   ⟨11, none, ⟨(some 18), (.load none (.t 17)), none⟩, []⟩,
   ⟨12, none, ⟨(some 19), (.bin .sub .num (.c (.c (.int .i64 255))) (.t 18)), none⟩, []⟩,
   ⟨15, none, ⟨(some 22), (.nilck (.t 7)), none⟩, []⟩,
   ⟨16, none, ⟨(some 23), (.faddr 1 (.t 22)), none⟩, []⟩,
   ⟨13, none, ⟨(some 20), (.call 41 [(.t 19)]), none⟩, [(5, ⟨(some 12), (.load none (.t 11)), none⟩)]⟩,
   ⟨14, none, ⟨(some 21), (.bin .add .num (.t 12) (.t 20)), none⟩, []⟩,
   ⟨17, none, ⟨(some 24), (.iaddrA 16 1 (.t 23) (.t 8)), none⟩, []⟩,
   ⟨18, none, ⟨none, (.store 1 (.t 24) (.t 21)), none⟩, []⟩])
 (.skip)))⟩
/-- (*campanile/neigh.Table).Quality -/
def n26 : NF := ⟨15, [4],
 .seq (.region [
  ⟨(some 4), (.mov (.c (.c (.int .i64 0)))), none⟩])
 (.seq (.kill [0, 1] 0) (.seq (.seq (.region [
  ⟨(some 5), (.mov (.t 0)), none⟩,
  ⟨(some 6), (.mov (.t 1)), none⟩,
  ⟨(some 7), (.call 40 [(.t 5), (.t 6)]), none⟩,
  ⟨(some 8), (.un .not (.t 7)), none⟩])
 (.seq (.kill [0, 1, 8] 0) (.cond (.t 8)
 (.seq (.region [
   ⟨(some 4), (.mov (.c (.c (.int .i64 0)))), none⟩])
  (.ret))
 (.skip))))
 (.seq (.kill [0, 1] 0) (.seq (.region [
  ⟨(some 9), (.mov (.t 0)), none⟩,
  ⟨(some 10), (.mov (.t 1)), none⟩,
  ⟨(some 11), (.nilck (.t 9)), none⟩,
  ⟨(some 12), (.faddr 1 (.t 11)), none⟩,
  ⟨(some 13), (.iaddrA 16 1 (.t 12) (.t 10)), none⟩,
  ⟨(some 14), (.load none (.t 13)), none⟩,
  ⟨(some 4), (.mov (.t 14)), none⟩])
 (.ret)))))⟩
/-- (*campanile/neigh.Table).Report -/
def n27 : NF := ⟨47, [6],
 .seq (.region [
  ⟨(some 6), (.mov (.c (.c .nils))), none⟩])
 (.seq (.kill [0, 1, 2] 0) (.seq (.seq (.region [
  ⟨(some 10), (.mov (.t 0)), none⟩,
  ⟨(some 11), (.bin .eql .ptr (.t 10) (.c (.c .nilp))), none⟩])
 (.seq (.kill [0, 1, 2, 11] 0) (.cond (.t 11)
 (.seq (.region [
   ⟨(some 6), (.mov (.c (.c .nils))), none⟩])
  (.ret))
 (.skip))))
 (.seq (.kill [0, 1, 2] 0) (.seq (.region [
  ⟨(some 7), (.mov (.c (.c .nils))), none⟩])
 (.seq (.kill [0, 1, 2, 7] 0) (.seq (.seq (.region [
  ⟨(some 12), (.mov (.t 0)), none⟩,
  ⟨(some 13), (.nilck (.t 12)), none⟩,
  ⟨(some 14), (.faddr 1 (.t 13)), none⟩,
  ⟨(some 15), (.load (some 16) (.t 14)), none⟩,
  ⟨(some 16), (.mov (.c (.c (.int .i64 0)))), none⟩])
 (.seq (.kill [0, 1, 2, 7, 15, 16] 0) (.block 0 (.loop (.seq (.kill [0, 1, 2, 7, 15, 16] 0) (.seq (.region [
   ⟨(some 17), (.bin .lss .num (.t 16) (.c (.c (.int .i64 16)))), none⟩])
  (.seq (.kill [0, 1, 2, 7, 15, 16, 17] 0) (.seq (.cond (.t 17)
  (.skip)
  (.exit 0))
  (.seq (.kill [0, 1, 2, 7, 15, 16] 0) (.seq (.block 1 (.seq (.region [
   ⟨(some 18), (.mov (.t 16)), none⟩,
   ⟨(some 19), (.index 16 1 false (.t 15) (.t 16)), none⟩,
   ⟨(some 8), (.mov (.t 18)), none⟩,
   ⟨(some 9), (.mov (.t 19)), none⟩])
  (.seq (.kill [0, 1, 2, 7, 8, 9, 15, 16] 0) (.seq (.region [
   ⟨(some 20), (.mov (.t 9)), none⟩,
   ⟨(some 21), (.bin .gtr .num (.t 20) (.c (.c (.int .i64 0)))), none⟩,
   ⟨(some 22), (.mov (.t 21)), none⟩,
   ⟨(some 23), (.mov (.t 9)), (some (22, true))⟩,
   ⟨(some 24), (.mov (.t 1)), (some (22, true))⟩,
   ⟨(some 25), (.bin .geq .num (.t 23) (.t 24)), (some (22, true))⟩,
   ⟨(some 26), (.pick (.t 22) (.t 25) (.c (.c (.bool false)))), none⟩])
  (.seq (.kill [0, 1, 2, 7, 8, 9, 15, 16, 26] 0) (.cond (.t 26)
  (.region [
    ⟨(some 27), (.mov (.t 7)), none⟩,
    ⟨(some 28), (.mov (.t 0)), none⟩,
    ⟨(some 29), (.nilck (.t 28)), none⟩,
    ⟨(some 30), (.faddr 0 (.t 29)), none⟩,
    ⟨(some 31), (.load none (.t 30)), none⟩,
    ⟨(some 32), (.mov (.t 8)), none⟩,
    ⟨(some 33), (.mov (.t 9)), none⟩,
    ⟨(some 34), (.build [(.int .i64 0), (.int .i64 0), (.int .i64 0)] [(0, (1, (.t 31))), (1, (1, (.t 32))), (2, (1, (.t 33)))]), none⟩,
    ⟨(some 35), (.bslice true 3 1 [(.int .i64 0), (.int .i64 0), (.int .i64 0)] [(0, (3, (.t 34)))]), none⟩,
    ⟨(some 36), (.app 3 24 (.t 27) (.t 35)), none⟩,
    ⟨(some 7), (.mov (.t 36)), none⟩])
  (.skip)))))))
  (.seq (.kill [0, 1, 2, 7, 15, 16] 0) (.region [
   ⟨(some 37), (.bin .add .num (.t 16) (.c (.c (.int .i64 1)))), none⟩,
   ⟨(some 16), (.mov (.t 37)), none⟩]))))))))))))
 (.seq (.kill [2, 7] 0) (.seq (.region [
  ⟨(some 38), (.mov (.t 7)), none⟩,
  ⟨(some 39), (.call 42 [(.t 38), (.c (.c (.fn 43 [])))]), none⟩])
 (.seq (.kill [2, 7] 0) (.seq (.region [
  ⟨(some 40), (.mov (.t 7)), none⟩,
  ⟨(some 41), (.mov (.t 7)), none⟩,
  ⟨(some 42), (.len .sl (.t 41)), none⟩,
  ⟨(some 43), (.mov (.t 2)), none⟩,
  ⟨(some 44), (.max [(.c (.c (.int .i64 0))), (.t 43)]), none⟩,
  ⟨(some 45), (.min [(.t 42), (.t 44)]), none⟩,
  ⟨(some 46), (.slice 3 (.t 40) none (some (.t 45)) none), none⟩,
  ⟨(some 6), (.mov (.t 46)), none⟩])
 (.ret)))))))))))⟩
/-- campanile/campanilelaw16.awake -/
def n28 : NF := ⟨25, [0],
 .seq (.region [
  ⟨(some 0), (.mov (.c (.c (.bool false)))), none⟩])
 (.seq (.kill [] 0) (.seq (.region [
  ⟨(some 3), (.call 24 [(.c (.c (.int .i64 3)))]), none⟩,
  ⟨(some 1), (.mov (.t 3)), none⟩])
 (.seq (.kill [1] 0) (.seq (.region [
  ⟨(some 4), (.mov (.t 1)), none⟩,
  ⟨(some 5), (.call 25 [(.t 4), (.c (.c (.int .i64 5)))]), none⟩])
 (.seq (.kill [1] 0) (.seq (.region [
  ⟨(some 6), (.mov (.t 1)), none⟩,
  ⟨(some 7), (.call 25 [(.t 6), (.c (.c (.int .i64 5)))]), none⟩])
 (.seq (.kill [1] 0) (.seq (.region [
  ⟨(some 8), (.mov (.t 1)), none⟩,
  ⟨(some 9), (.call 27 [(.t 8), (.c (.c (.int .i64 1))), (.c (.c (.int .i64 9)))]), none⟩,
  ⟨(some 2), (.mov (.t 9)), none⟩])
 (.seq (.kill [1, 2] 0) (.seq (.region [
  ⟨(some 10), (.mov (.t 1)), none⟩,
  ⟨(some 11), (.call 26 [(.t 10), (.c (.c (.int .i64 5)))]), none⟩,
  ⟨(some 12), (.bin .eql .num (.t 11) (.c (.c (.int .i64 60)))), none⟩,
  ⟨(some 13), (.mov (.t 12)), none⟩,
  ⟨(some 14), (.mov (.t 2)), (some (13, true))⟩,
  ⟨(some 15), (.len .sl (.t 14)), (some (13, true))⟩,
  ⟨(some 16), (.bin .eql .num (.t 15) (.c (.c (.int .i64 1)))), (some (13, true))⟩,
  ⟨(some 17), (.pick (.t 13) (.t 16) (.c (.c (.bool false)))), none⟩,
  ⟨(some 18), (.mov (.t 17)), none⟩,
  ⟨(some 19), (.mov (.t 2)), (some (18, true))⟩,
  ⟨(some 20), (.iaddr 3 (.t 19) (.c (.c (.int .i64 0)))), (some (18, true))⟩,
  ⟨(some 21), (.load (some 3) (.t 20)), (some (18, true))⟩,
  ⟨(some 22), (.build [(.int .i64 0), (.int .i64 0), (.int .i64 0)] [(0, (1, (.c (.c (.int .i64 3))))), (1, (1, (.c (.c (.int .i64 5))))), (2, (1, (.c (.c (.int .i64 60)))))]), (some (18, true))⟩,
  ⟨(some 23), (.bin .eql (.st [.int, .int, .int]) (.t 21) (.t 22)), (some (18, true))⟩,
  ⟨(some 24), (.pick (.t 18) (.t 23) (.c (.c (.bool false)))), none⟩,
  ⟨(some 0), (.mov (.t 24)), none⟩])
 (.ret)))))))))))⟩
/-- campanile/campanileref8.NewNeigh -/
def n30 : NF := ⟨9, [2],
 .seq (.region [
  ⟨(some 2), (.mov (.c (.c .nilp))), none⟩])
 (.seq (.kill [0] 0) (.seq (.seq (.region [
  ⟨(some 3), (.mov (.t 0)), none⟩,
  ⟨(some 4), (.call 44 [(.t 3)]), none⟩,
  ⟨(some 5), (.un .not (.t 4)), none⟩])
 (.seq (.kill [0, 5] 0) (.cond (.t 5)
 (.seq (.region [
   ⟨(some 2), (.mov (.c (.c .nilp))), none⟩])
  (.ret))
 (.skip))))
 (.seq (.kill [0] 0) (.seq (.region [
  ⟨(some 6), (.mov (.t 0)), none⟩,
  ⟨(some 7), (.build [(.int .i64 0), (.int .i64 0), (.int .i64 0), (.int .i64 0), (.int .i64 0), (.int .i64 0), (.int .i64 0), (.int .i64 0), (.int .i64 0), (.int .i64 0), (.int .i64 0), (.int .i64 0), (.int .i64 0), (.int .i64 0), (.int .i64 0), (.int .i64 0), (.int .i64 0)] [(0, (1, (.t 6)))]), none⟩,
  ⟨(some 8), (.box false 17 (.t 7)), none⟩,
  ⟨(some 2), (.mov (.t 8)), none⟩])
 (.ret)))))⟩
/-- (*campanile/neigh.Table).Missed -/
def n31 : NF := ⟨24, [],
 .seq (.region [
  ⟨(some 4), (.mov (.t 0)), none⟩,
  ⟨(some 5), (.mov (.t 1)), none⟩,
  ⟨(some 6), (.call 40 [(.t 4), (.t 5)]), none⟩])
 (.seq (.kill [0, 1, 6] 0) (.cond (.t 6)
 (.draw 0 [
   ⟨0, none, ⟨(some 7), (.mov (.t 0)), none⟩, []⟩,
   ⟨1, none, ⟨(some 8), (.mov (.t 1)), none⟩, []⟩,
   ⟨2, none, ⟨(some 9), (.nilck (.t 7)), none⟩, []⟩,
   ⟨3, none, ⟨(some 10), (.faddr 1 (.t 9)), none⟩, []⟩,
   ⟨4, none, ⟨(some 11), (.iaddrA 16 1 (.t 10) (.t 8)), none⟩, []⟩,
   ⟨5, none, ⟨(some 12), (.load none (.t 11)), none⟩, []⟩,
   ⟨6, none, ⟨(some 13), (.mov (.t 0)), none⟩, []⟩,
   ⟨7, none, ⟨(some 14), (.mov (.t 1)), none⟩, []⟩,
   ⟨8, none, ⟨(some 15), (.nilck (.t 13)), none⟩, []⟩,
   ⟨9, none, ⟨(some 16), (.faddr 1 (.t 15)), none⟩, []⟩,
   ⟨10, none, ⟨(some 17), (.iaddrA 16 1 (.t 16) (.t 14)), none⟩, []⟩,
   ⟨11, none, ⟨(some 18), (.load none (.t 17)), none⟩, []⟩,
   ⟨14, none, ⟨(some 21), (.nilck (.t 7)), none⟩, []⟩,
   ⟨15, none, ⟨(some 22), (.faddr 1 (.t 21)), none⟩, []⟩,
   ⟨12, none, ⟨(some 19), (.call 41 [(.t 18)]), none⟩, [(5, ⟨(some 12), (.load none (.t 11)), none⟩)]⟩,
   ⟨13, none, ⟨(some 20), (.bin .sub .num (.t 12) (.t 19)), none⟩, []⟩,
   ⟨16, none, ⟨(some 23), (.iaddrA 16 1 (.t 22) (.t 8)), none⟩, []⟩,
   ⟨17, none, ⟨none, (.store 1 (.t 23) (.t 20)), none⟩, []⟩])
 (.skip)))⟩
/-- (*campanile/campanileref8.Neigh).Missed -/
def n32 : NF := ⟨32, [],
 .seq (.region [
  ⟨(some 4), (.mov (.t 1)), none⟩,
  ⟨(some 5), (.call 44 [(.t 4)]), none⟩,
  ⟨(some 6), (.mov (.t 5)), none⟩,
  ⟨(some 7), (.mov (.t 1)), (some (6, true))⟩,
  ⟨(some 8), (.mov (.t 0)), (some (6, true))⟩,
  ⟨(some 9), (.nilck (.t 8)), (some (6, true))⟩,
  ⟨(some 10), (.faddr 0 (.t 9)), (some (6, true))⟩,
  ⟨(some 11), (.load none (.t 10)), (some (6, true))⟩,
  ⟨(some 12), (.bin .neq .num (.t 7) (.t 11)), (some (6, true))⟩,
  ⟨(some 13), (.pick (.t 6) (.t 12) (.c (.c (.bool false)))), none⟩])
 (.seq (.kill [0, 1, 13] 0) (.cond (.t 13)
 (.draw 0 [
   ⟨0, none, ⟨(some 14), (.mov (.t 0)), none⟩, []⟩,
   ⟨1, none, ⟨(some 15), (.mov (.t 1)), none⟩, []⟩,
   ⟨2, none, ⟨(some 16), (.nilck (.t 14)), none⟩, []⟩,
   ⟨3, none, ⟨(some 17), (.faddr 1 (.t 16)), none⟩, []⟩,
   ⟨4, none, ⟨(some 18), (.iaddrA 16 1 (.t 17) (.t 15)), none⟩, []⟩,
   ⟨5, none, ⟨(some 19), (.load none (.t 18)), none⟩, []⟩,
   ⟨6, none, ⟨(some 20), (.mov (.t 0)), none⟩, []⟩,
   ⟨7, none, ⟨(some 21), (.mov (.t 1)), none⟩, []⟩,
   ⟨8, none, ⟨(some 22), (.nilck (.t 20)), none⟩, []⟩,
   ⟨9, none, ⟨(some 23), (.faddr 1 (.t 22)), none⟩, []⟩,
   ⟨10, none, ⟨(some 24), (.iaddrA 16 1 (.t 23) (.t 21)), none⟩, []⟩,
   ⟨11, none, ⟨(some 25), (.load none (.t 24)), none⟩, []⟩,
   ⟨12, none, ⟨(some 26), (.bin .add .num (.t 25) (.c (.c (.int .i64 7)))), none⟩, []⟩,
   ⟨13, none, ⟨(some 27), (.bin .quo .num (.t 26) (.c (.c (.int .i64 8)))), none⟩, []⟩,
   ⟨14, none, ⟨(some 28), (.bin .sub .num (.t 19) (.t 27)), none⟩, []⟩,
   ⟨15, none, ⟨(some 29), (.nilck (.t 14)), none⟩, []⟩,
   ⟨16, none, ⟨(some 30), (.faddr 1 (.t 29)), none⟩, []⟩,
   ⟨17, none, ⟨(some 31), (.iaddrA 16 1 (.t 30) (.t 15)), none⟩, []⟩,
   ⟨18, none, ⟨none, (.store 1 (.t 31) (.t 28)), none⟩, []⟩])
 (.skip)))⟩
/-- (*campanile/campanileref8.Neigh).Heard -/
def n33 : NF := ⟨33, [],
 .seq (.region [
  ⟨(some 4), (.mov (.t 1)), none⟩,
  ⟨(some 5), (.call 44 [(.t 4)]), none⟩,
  ⟨(some 6), (.mov (.t 5)), none⟩,
  ⟨(some 7), (.mov (.t 1)), (some (6, true))⟩,
  ⟨(some 8), (.mov (.t 0)), (some (6, true))⟩,
  ⟨(some 9), (.nilck (.t 8)), (some (6, true))⟩,
  ⟨(some 10), (.faddr 0 (.t 9)), (some (6, true))⟩,
  ⟨(some 11), (.load none (.t 10)), (some (6, true))⟩,
  ⟨(some 12), (.bin .neq .num (.t 7) (.t 11)), (some (6, true))⟩,
  ⟨(some 13), (.pick (.t 6) (.t 12) (.c (.c (.bool false)))), none⟩])
 (.seq (.kill [0, 1, 13] 0) (.cond (.t 13)
 (.draw 0 [
   ⟨0, none, ⟨(some 14), (.mov (.t 0)), none⟩, []⟩,
   ⟨1, none, ⟨(some 15), (.mov (.t 1)), none⟩, []⟩,
   ⟨2, none, ⟨(some 16), (.nilck (.t 14)), none⟩, []⟩,
   ⟨3, none, ⟨(some 17), (.faddr 1 (.t 16)), none⟩, []⟩,
   ⟨4, none, ⟨(some 18), (.iaddrA 16 1 (.t 17) (.t 15)), none⟩, []⟩,
   ⟨5, none, ⟨(some 19), (.load none (.t 18)), none⟩, []⟩,
   ⟨6, none, ⟨(some 20), (.mov (.t 0)), none⟩, []⟩,
   ⟨7, none, ⟨(some 21), (.mov (.t 1)), none⟩, []⟩,
   ⟨8, none, ⟨(some 22), (.nilck (.t 20)), none⟩, []⟩,
   ⟨9, none, ⟨(some 23), (.faddr 1 (.t 22)), none⟩, []⟩,
   ⟨10, none, ⟨(some 24), (.iaddrA 16 1 (.t 23) (.t 21)), none⟩, []⟩,
   ⟨11, none, ⟨(some 25), (.load none (.t 24)), none⟩, []⟩,
   ⟨12, none, ⟨(some 26), (.bin .sub .num (.c (.c (.int .i64 255))) (.t 25)), none⟩, []⟩,
   ⟨13, none, ⟨(some 27), (.bin .add .num (.t 26) (.c (.c (.int .i64 7)))), none⟩, []⟩,
   ⟨14, none, ⟨(some 28), (.bin .quo .num (.t 27) (.c (.c (.int .i64 8)))), none⟩, []⟩,
   ⟨15, none, ⟨(some 29), (.bin .add .num (.t 19) (.t 28)), none⟩, []⟩,
   ⟨16, none, ⟨(some 30), (.nilck (.t 14)), none⟩, []⟩,
   ⟨17, none, ⟨(some 31), (.faddr 1 (.t 30)), none⟩, []⟩,
   ⟨18, none, ⟨(some 32), (.iaddrA 16 1 (.t 31) (.t 15)), none⟩, []⟩,
   ⟨19, none, ⟨none, (.store 1 (.t 32) (.t 29)), none⟩, []⟩])
 (.skip)))⟩
/-- (*campanile/campanileref8.Neigh).Quality -/
def n34 : NF := ⟨14, [4],
 .seq (.region [
  ⟨(some 4), (.mov (.c (.c (.int .i64 0)))), none⟩])
 (.seq (.kill [0, 1] 0) (.seq (.seq (.region [
  ⟨(some 5), (.mov (.t 1)), none⟩,
  ⟨(some 6), (.call 44 [(.t 5)]), none⟩,
  ⟨(some 7), (.un .not (.t 6)), none⟩])
 (.seq (.kill [0, 1, 7] 0) (.cond (.t 7)
 (.seq (.region [
   ⟨(some 4), (.mov (.c (.c (.int .i64 0)))), none⟩])
  (.ret))
 (.skip))))
 (.seq (.kill [0, 1] 0) (.seq (.region [
  ⟨(some 8), (.mov (.t 0)), none⟩,
  ⟨(some 9), (.mov (.t 1)), none⟩,
  ⟨(some 10), (.nilck (.t 8)), none⟩,
  ⟨(some 11), (.faddr 1 (.t 10)), none⟩,
  ⟨(some 12), (.iaddrA 16 1 (.t 11) (.t 9)), none⟩,
  ⟨(some 13), (.load none (.t 12)), none⟩,
  ⟨(some 4), (.mov (.t 13)), none⟩])
 (.ret)))))⟩
/-- campanile/campanileref8.SameLinks -/
def n36 : NF := ⟨26, [4],
 .seq (.region [
  ⟨(some 4), (.mov (.c (.c (.bool false)))), none⟩])
 (.seq (.kill [0, 1] 0) (.seq (.seq (.region [
  ⟨(some 6), (.mov (.t 0)), none⟩,
  ⟨(some 7), (.len .sl (.t 6)), none⟩,
  ⟨(some 8), (.mov (.t 1)), none⟩,
  ⟨(some 9), (.len .sl (.t 8)), none⟩,
  ⟨(some 10), (.bin .neq .num (.t 7) (.t 9)), none⟩])
 (.seq (.kill [0, 1, 10] 0) (.cond (.t 10)
 (.seq (.region [
   ⟨(some 4), (.mov (.c (.c (.bool false)))), none⟩])
  (.ret))
 (.skip))))
 (.seq (.kill [0, 1] 0) (.seq (.seq (.region [
  ⟨(some 11), (.mov (.t 0)), none⟩,
  ⟨(some 12), (.len .sl (.t 11)), none⟩,
  ⟨(some 13), (.mov (.c (.c (.int .i64 0)))), none⟩])
 (.seq (.kill [0, 1, 12, 13] 0) (.block 0 (.loop (.seq (.kill [0, 1, 12, 13] 0) (.seq (.region [
   ⟨(some 14), (.bin .lss .num (.t 13) (.t 12)), none⟩])
  (.seq (.kill [0, 1, 12, 13, 14] 0) (.seq (.cond (.t 14)
  (.skip)
  (.exit 0))
  (.seq (.kill [0, 1, 12, 13] 0) (.seq (.block 1 (.seq (.region [
   ⟨(some 15), (.mov (.t 13)), none⟩,
   ⟨(some 5), (.mov (.t 15)), none⟩])
  (.seq (.kill [0, 1, 5, 12, 13] 0) (.seq (.draw 0 [
   ⟨0, none, ⟨(some 16), (.mov (.t 0)), none⟩, []⟩,
   ⟨1, none, ⟨(some 17), (.mov (.t 5)), none⟩, []⟩,
   ⟨2, none, ⟨(some 18), (.iaddr 3 (.t 16) (.t 17)), none⟩, []⟩,
   ⟨3, none, ⟨(some 19), (.load (some 3) (.t 18)), none⟩, []⟩,
   ⟨4, none, ⟨(some 20), (.mov (.t 1)), none⟩, []⟩,
   ⟨5, none, ⟨(some 21), (.mov (.t 5)), none⟩, []⟩,
   ⟨6, none, ⟨(some 22), (.iaddr 3 (.t 20) (.t 21)), none⟩, []⟩,
   ⟨7, none, ⟨(some 23), (.load (some 3) (.t 22)), none⟩, []⟩,
   ⟨8, none, ⟨(some 24), (.bin .neq (.st [.int, .int, .int]) (.t 19) (.t 23)), none⟩, []⟩])
  (.seq (.kill [0, 1, 12, 13, 24] 0) (.cond (.t 24)
  (.seq (.region [
    ⟨(some 4), (.mov (.c (.c (.bool false)))), none⟩])
   (.ret))
  (.skip)))))))
  (.seq (.kill [0, 1, 12, 13] 0) (.region [
   ⟨(some 25), (.bin .add .num (.t 13) (.c (.c (.int .i64 1)))), none⟩,
   ⟨(some 13), (.mov (.t 25)), none⟩]))))))))))))
 (.seq (.kill [] 0) (.seq (.region [
  ⟨(some 4), (.mov (.c (.c (.bool true)))), none⟩])
 (.ret)))))))⟩
/-- (*campanile/campanileref8.Neigh).Report -/
def n35 : NF := ⟨49, [6],
 .seq (.region [
  ⟨(some 6), (.mov (.c (.c .nils))), none⟩])
 (.seq (.kill [0, 1, 2] 0) (.seq (.region [
  ⟨(some 7), (.mov (.c (.c .nils))), none⟩])
 (.seq (.kill [0, 1, 2, 7] 0) (.seq (.seq (.region [
  ⟨(some 8), (.mov (.c (.c (.int .i64 255)))), none⟩])
 (.seq (.kill [0, 1, 2, 7, 8] 0) (.block 0 (.loop (.seq (.kill [0, 1, 2, 7, 8] 0) (.seq (.seq (.region [
   ⟨(some 11), (.mov (.t 8)), none⟩,
   ⟨(some 12), (.bin .geq .num (.t 11) (.c (.c (.int .i64 1)))), none⟩])
  (.seq (.kill [0, 1, 2, 7, 8, 12] 0) (.cond (.t 12)
  (.skip)
  (.exit 0))))
  (.seq (.kill [0, 1, 2, 7, 8] 0) (.seq (.block 1 (.seq (.region [
   ⟨(some 15), (.mov (.t 0)), none⟩,
   ⟨(some 16), (.nilck (.t 15)), none⟩,
   ⟨(some 17), (.faddr 1 (.t 16)), none⟩,
   ⟨(some 18), (.load (some 16) (.t 17)), none⟩,
   ⟨(some 19), (.mov (.c (.c (.int .i64 0)))), none⟩])
  (.seq (.kill [0, 1, 2, 7, 8, 18, 19] 0) (.block 2 (.loop (.seq (.kill [0, 1, 2, 7, 8, 18, 19] 0) (.seq (.region [
    ⟨(some 20), (.bin .lss .num (.t 19) (.c (.c (.int .i64 16)))), none⟩])
   (.seq (.kill [0, 1, 2, 7, 8, 18, 19, 20] 0) (.seq (.cond (.t 20)
   (.skip)
   (.exit 2))
   (.seq (.kill [0, 1, 2, 7, 8, 18, 19] 0) (.seq (.block 3 (.seq (.region [
    ⟨(some 21), (.mov (.t 19)), none⟩,
    ⟨(some 22), (.index 16 1 false (.t 18) (.t 19)), none⟩,
    ⟨(some 9), (.mov (.t 21)), none⟩,
    ⟨(some 10), (.mov (.t 22)), none⟩])
   (.seq (.kill [0, 1, 2, 7, 8, 9, 10, 18, 19] 0) (.seq (.region [
    ⟨(some 23), (.mov (.t 10)), none⟩,
    ⟨(some 24), (.mov (.t 8)), none⟩,
    ⟨(some 25), (.bin .eql .num (.t 23) (.t 24)), none⟩,
    ⟨(some 26), (.mov (.t 25)), none⟩,
    ⟨(some 27), (.mov (.t 8)), (some (26, true))⟩,
    ⟨(some 28), (.mov (.t 1)), (some (26, true))⟩,
    ⟨(some 29), (.bin .geq .num (.t 27) (.t 28)), (some (26, true))⟩,
    ⟨(some 30), (.pick (.t 26) (.t 29) (.c (.c (.bool false)))), none⟩,
    ⟨(some 31), (.mov (.t 30)), none⟩,
    ⟨(some 32), (.mov (.t 7)), (some (31, true))⟩,
    ⟨(some 33), (.len .sl (.t 32)), (some (31, true))⟩,
    ⟨(some 34), (.mov (.t 2)), (some (31, true))⟩,
    ⟨(some 35), (.bin .lss .num (.t 33) (.t 34)), (some (31, true))⟩,
    ⟨(some 36), (.pick (.t 31) (.t 35) (.c (.c (.bool false)))), none⟩])
   (.seq (.kill [0, 1, 2, 7, 8, 9, 18, 19, 36] 0) (.cond (.t 36)
   (.region [
     ⟨(some 37), (.mov (.t 7)), none⟩,
     ⟨(some 38), (.mov (.t 0)), none⟩,
     ⟨(some 39), (.nilck (.t 38)), none⟩,
     ⟨(some 40), (.faddr 0 (.t 39)), none⟩,
     ⟨(some 41), (.load none (.t 40)), none⟩,
     ⟨(some 42), (.mov (.t 9)), none⟩,
     ⟨(some 43), (.mov (.t 8)), none⟩,
     ⟨(some 44), (.build [(.int .i64 0), (.int .i64 0), (.int .i64 0)] [(0, (1, (.t 41))), (1, (1, (.t 42))), (2, (1, (.t 43)))]), none⟩,
     ⟨(some 45), (.bslice true 3 1 [(.int .i64 0), (.int .i64 0), (.int .i64 0)] [(0, (3, (.t 44)))]), none⟩,
     ⟨(some 46), (.app 3 24 (.t 37) (.t 45)), none⟩,
     ⟨(some 7), (.mov (.t 46)), none⟩])
   (.skip)))))))
   (.seq (.kill [0, 1, 2, 7, 8, 18, 19] 0) (.region [
    ⟨(some 47), (.bin .add .num (.t 19) (.c (.c (.int .i64 1)))), none⟩,
    ⟨(some 19), (.mov (.t 47)), none⟩])))))))))))))
  (.seq (.kill [0, 1, 2, 7, 8] 0) (.region [
   ⟨(some 13), (.mov (.t 8)), none⟩,
   ⟨(some 14), (.bin .sub .num (.t 13) (.c (.c (.int .i64 1)))), none⟩,
   ⟨(some 8), (.mov (.t 14)), none⟩]))))))))))
 (.seq (.kill [7] 0) (.seq (.region [
  ⟨(some 48), (.mov (.t 7)), none⟩,
  ⟨(some 6), (.mov (.t 48)), none⟩])
 (.ret)))))))⟩
/-- (*campanile/neigh.Table).has -/
def n40 : NF := ⟨23, [4],
 .seq (.region [
  ⟨(some 4), (.mov (.c (.c (.bool false)))), none⟩])
 (.seq (.kill [0, 1] 0) (.seq (.region [
  ⟨(some 5), (.mov (.t 0)), none⟩,
  ⟨(some 6), (.bin .neq .ptr (.t 5) (.c (.c .nilp))), none⟩,
  ⟨(some 7), (.mov (.t 6)), none⟩,
  ⟨(some 8), (.mov (.t 1)), (some (7, true))⟩,
  ⟨(some 9), (.bin .geq .num (.t 8) (.c (.c (.int .i64 0)))), (some (7, true))⟩,
  ⟨(some 10), (.pick (.t 7) (.t 9) (.c (.c (.bool false)))), none⟩,
  ⟨(some 11), (.mov (.t 10)), none⟩,
  ⟨(some 12), (.mov (.t 1)), (some (11, true))⟩,
  ⟨(some 13), (.bin .lss .num (.t 12) (.c (.c (.int .i64 16)))), (some (11, true))⟩,
  ⟨(some 14), (.pick (.t 11) (.t 13) (.c (.c (.bool false)))), none⟩,
  ⟨(some 15), (.mov (.t 14)), none⟩,
  ⟨(some 16), (.mov (.t 1)), (some (15, true))⟩,
  ⟨(some 17), (.mov (.t 0)), (some (15, true))⟩,
  ⟨(some 18), (.nilck (.t 17)), (some (15, true))⟩,
  ⟨(some 19), (.faddr 0 (.t 18)), (some (15, true))⟩,
  ⟨(some 20), (.load none (.t 19)), (some (15, true))⟩,
  ⟨(some 21), (.bin .neq .num (.t 16) (.t 20)), (some (15, true))⟩,
  ⟨(some 22), (.pick (.t 15) (.t 21) (.c (.c (.bool false)))), none⟩,
  ⟨(some 4), (.mov (.t 22)), none⟩])
 (.ret)))⟩
/-- campanile/neigh.up -/
def n41 : NF := ⟨7, [2],
 .seq (.region [
  ⟨(some 2), (.mov (.c (.c (.int .i64 0)))), none⟩])
 (.seq (.kill [0] 0) (.seq (.region [
  ⟨(some 3), (.mov (.t 0)), none⟩,
  ⟨(some 4), (.bin .add .num (.t 3) (.c (.c (.int .i64 8)))), none⟩,
  ⟨(some 5), (.bin .sub .num (.t 4) (.c (.c (.int .i64 1)))), none⟩,
  ⟨(some 6), (.bin .quo .num (.t 5) (.c (.c (.int .i64 8)))), none⟩,
  ⟨(some 2), (.mov (.t 6)), none⟩])
 (.ret)))⟩
/-- slices.SortStableFunc[[]campanile/api.Link,campanile/api.Link] -/
def n42 : NF := ⟨9, [],
 .region [
  ⟨(some 4), (.mov (.t 0)), none⟩,
  ⟨(some 5), (.mov (.t 0)), none⟩,
  ⟨(some 6), (.len .sl (.t 5)), none⟩,
  ⟨(some 7), (.mov (.t 1)), none⟩,
  ⟨(some 8), (.call 45 [(.t 4), (.t 6), (.t 7)]), none⟩]⟩
/-- (*campanile/neigh.Table).Report$1 -/
def n43 : NF := ⟨10, [4],
 .seq (.region [
  ⟨(some 2), (.box true 3 (.t 0)), none⟩,
  ⟨(some 3), (.box true 3 (.t 1)), none⟩,
  ⟨(some 4), (.mov (.c (.c (.int .i64 0)))), none⟩])
 (.seq (.kill [2, 3] 2) (.seq (.region [
  ⟨(some 5), (.faddr 2 (.t 3)), none⟩,
  ⟨(some 6), (.load none (.t 5)), none⟩,
  ⟨(some 7), (.faddr 2 (.t 2)), none⟩,
  ⟨(some 8), (.load none (.t 7)), none⟩,
  ⟨(some 9), (.call 46 [(.t 6), (.t 8)]), none⟩,
  ⟨(some 4), (.mov (.t 9)), none⟩])
 (.ret)))⟩
/-- cmp.Compare[int] -/
def n46 : NF := ⟨20, [4],
 .seq (.region [
  ⟨(some 4), (.mov (.c (.c (.int .i64 0)))), none⟩])
 (.seq (.kill [0, 1] 0) (.seq (.region [
  ⟨(some 7), (.mov (.t 0)), none⟩,
  ⟨(some 8), (.call 47 [(.t 7)]), none⟩,
  ⟨(some 5), (.mov (.t 8)), none⟩])
 (.seq (.kill [0, 1, 5] 0) (.seq (.region [
  ⟨(some 9), (.mov (.t 1)), none⟩,
  ⟨(some 10), (.call 47 [(.t 9)]), none⟩,
  ⟨(some 6), (.mov (.t 10)), none⟩])
 (.seq (.kill [0, 1, 5, 6] 0) (.seq (.seq (.region [
  ⟨(some 11), (.mov (.t 5)), none⟩])
 (.seq (.kill [0, 1, 6, 11] 0) (.cond (.t 11)
 (.seq (.seq (.region [
   ⟨(some 12), (.mov (.t 6)), none⟩])
  (.seq (.kill [12] 0) (.cond (.t 12)
  (.seq (.region [
    ⟨(some 4), (.mov (.c (.c (.int .i64 0)))), none⟩])
   (.ret))
  (.skip))))
  (.seq (.kill [] 0) (.seq (.region [
   ⟨(some 4), (.mov (.c (.c (.int .i64 (-1))))), none⟩])
  (.ret))))
 (.skip))))
 (.seq (.kill [0, 1, 6] 0) (.seq (.seq (.region [
  ⟨(some 13), (.mov (.t 6)), none⟩])
 (.seq (.kill [0, 1, 13] 0) (.cond (.t 13)
 (.seq (.region [
   ⟨(some 4), (.mov (.c (.c (.int .i64 1)))), none⟩])
  (.ret))
 (.skip))))
 (.seq (.kill [0, 1] 0) (.seq (.seq (.region [
  ⟨(some 14), (.mov (.t 0)), none⟩,
  ⟨(some 15), (.mov (.t 1)), none⟩,
  ⟨(some 16), (.bin .lss .num (.t 14) (.t 15)), none⟩])
 (.seq (.kill [0, 1, 16] 0) (.cond (.t 16)
 (.seq (.region [
   ⟨(some 4), (.mov (.c (.c (.int .i64 (-1))))), none⟩])
  (.ret))
 (.skip))))
 (.seq (.kill [0, 1] 0) (.seq (.seq (.region [
  ⟨(some 17), (.mov (.t 0)), none⟩,
  ⟨(some 18), (.mov (.t 1)), none⟩,
  ⟨(some 19), (.bin .gtr .num (.t 17) (.t 18)), none⟩])
 (.seq (.kill [19] 0) (.cond (.t 19)
 (.seq (.region [
   ⟨(some 4), (.mov (.c (.c (.int .i64 1)))), none⟩])
  (.ret))
 (.skip))))
 (.seq (.kill [] 0) (.seq (.region [
  ⟨(some 4), (.mov (.c (.c (.int .i64 0)))), none⟩])
 (.ret)))))))))))))))⟩
/-- campanile/campanileref1.Node -/
def n44 : NF := ⟨9, [2],
 .seq (.region [
  ⟨(some 2), (.mov (.c (.c (.bool false)))), none⟩])
 (.seq (.kill [0] 0) (.seq (.region [
  ⟨(some 3), (.mov (.t 0)), none⟩,
  ⟨(some 4), (.bin .geq .num (.t 3) (.c (.c (.int .i64 0)))), none⟩,
  ⟨(some 5), (.mov (.t 4)), none⟩,
  ⟨(some 6), (.mov (.t 0)), (some (5, true))⟩,
  ⟨(some 7), (.bin .lss .num (.t 6) (.c (.c (.int .i64 16)))), (some (5, true))⟩,
  ⟨(some 8), (.pick (.t 5) (.t 7) (.c (.c (.bool false)))), none⟩,
  ⟨(some 2), (.mov (.t 8)), none⟩])
 (.ret)))⟩
/-- slices.stableCmpFunc[campanile/api.Link] -/
def n45 : NF := ⟨63, [],
 .seq (.region [
  ⟨(some 6), (.mov (.c (.c (.int .i64 20)))), none⟩])
 (.seq (.kill [0, 1, 2, 6] 0) (.seq (.region [
  ⟨(some 10), (.mov (.t 6)), none⟩,
  ⟨(some 7), (.mov (.c (.c (.int .i64 0)))), none⟩,
  ⟨(some 8), (.mov (.t 10)), none⟩])
 (.seq (.kill [0, 1, 2, 6, 7, 8] 0) (.seq (.block 0 (.loop (.seq (.kill [0, 1, 2, 6, 7, 8] 0) (.seq (.seq (.region [
   ⟨(some 11), (.mov (.t 8)), none⟩,
   ⟨(some 12), (.mov (.t 1)), none⟩,
   ⟨(some 13), (.bin .leq .num (.t 11) (.t 12)), none⟩])
  (.seq (.kill [0, 1, 2, 6, 7, 8, 13] 0) (.cond (.t 13)
  (.skip)
  (.exit 0))))
  (.seq (.kill [0, 1, 2, 6, 7, 8] 0) (.block 1 (.seq (.region [
   ⟨(some 14), (.mov (.t 0)), none⟩,
   ⟨(some 15), (.mov (.t 7)), none⟩,
   ⟨(some 16), (.mov (.t 8)), none⟩,
   ⟨(some 17), (.mov (.t 2)), none⟩,
   ⟨(some 18), (.call 48 [(.t 14), (.t 15), (.t 16), (.t 17)]), none⟩])
  (.seq (.kill [0, 1, 2, 6, 8] 0) (.seq (.region [
   ⟨(some 19), (.mov (.t 8)), none⟩,
   ⟨(some 7), (.mov (.t 19)), none⟩])
  (.seq (.kill [0, 1, 2, 6, 7, 8] 0) (.region [
   ⟨(some 20), (.mov (.t 8)), none⟩,
   ⟨(some 21), (.mov (.t 6)), none⟩,
   ⟨(some 22), (.bin .add .num (.t 20) (.t 21)), none⟩,
   ⟨(some 8), (.mov (.t 22)), none⟩])))))))))))
 (.seq (.kill [0, 1, 2, 6, 7] 0) (.seq (.region [
  ⟨(some 23), (.mov (.t 0)), none⟩,
  ⟨(some 24), (.mov (.t 7)), none⟩,
  ⟨(some 25), (.mov (.t 1)), none⟩,
  ⟨(some 26), (.mov (.t 2)), none⟩,
  ⟨(some 27), (.call 48 [(.t 23), (.t 24), (.t 25), (.t 26)]), none⟩])
 (.seq (.kill [0, 1, 2, 6] 0) (.block 2 (.loop (.seq (.kill [0, 1, 2, 6] 0) (.seq (.seq (.region [
   ⟨(some 28), (.mov (.t 6)), none⟩,
   ⟨(some 29), (.mov (.t 1)), none⟩,
   ⟨(some 30), (.bin .lss .num (.t 28) (.t 29)), none⟩])
  (.seq (.kill [0, 1, 2, 6, 30] 0) (.cond (.t 30)
  (.skip)
  (.exit 2))))
  (.seq (.kill [0, 1, 2, 6] 0) (.block 3 (.seq (.region [
   ⟨(some 31), (.mov (.t 6)), none⟩,
   ⟨(some 32), (.bin .mul .num (.c (.c (.int .i64 2))) (.t 31)), none⟩,
   ⟨(some 7), (.mov (.c (.c (.int .i64 0)))), none⟩,
   ⟨(some 8), (.mov (.t 32)), none⟩])
  (.seq (.kill [0, 1, 2, 6, 7, 8] 0) (.seq (.block 4 (.loop (.seq (.kill [0, 1, 2, 6, 7, 8] 0) (.seq (.seq (.region [
    ⟨(some 33), (.mov (.t 8)), none⟩,
    ⟨(some 34), (.mov (.t 1)), none⟩,
    ⟨(some 35), (.bin .leq .num (.t 33) (.t 34)), none⟩])
   (.seq (.kill [0, 1, 2, 6, 7, 8, 35] 0) (.cond (.t 35)
   (.skip)
   (.exit 4))))
   (.seq (.kill [0, 1, 2, 6, 7, 8] 0) (.block 5 (.seq (.region [
    ⟨(some 36), (.mov (.t 0)), none⟩,
    ⟨(some 37), (.mov (.t 7)), none⟩,
    ⟨(some 38), (.mov (.t 7)), none⟩,
    ⟨(some 39), (.mov (.t 6)), none⟩,
    ⟨(some 40), (.bin .add .num (.t 38) (.t 39)), none⟩,
    ⟨(some 41), (.mov (.t 8)), none⟩,
    ⟨(some 42), (.mov (.t 2)), none⟩,
    ⟨(some 43), (.call 49 [(.t 36), (.t 37), (.t 40), (.t 41), (.t 42)]), none⟩])
   (.seq (.kill [0, 1, 2, 6, 8] 0) (.seq (.region [
    ⟨(some 44), (.mov (.t 8)), none⟩,
    ⟨(some 7), (.mov (.t 44)), none⟩])
   (.seq (.kill [0, 1, 2, 6, 7, 8] 0) (.region [
    ⟨(some 45), (.mov (.t 8)), none⟩,
    ⟨(some 46), (.mov (.t 6)), none⟩,
    ⟨(some 47), (.bin .mul .num (.c (.c (.int .i64 2))) (.t 46)), none⟩,
    ⟨(some 48), (.bin .add .num (.t 45) (.t 47)), none⟩,
    ⟨(some 8), (.mov (.t 48)), none⟩])))))))))))
  (.seq (.kill [0, 1, 2, 6, 7] 0) (.seq (.seq (.region [
   ⟨(some 49), (.mov (.t 7)), none⟩,
   ⟨(some 50), (.mov (.t 6)), none⟩,
   ⟨(some 51), (.bin .add .num (.t 49) (.t 50)), none⟩,
   ⟨(some 9), (.mov (.t 51)), none⟩])
  (.seq (.kill [0, 1, 2, 6, 7, 9] 0) (.seq (.region [
   ⟨(some 52), (.mov (.t 9)), none⟩,
   ⟨(some 53), (.mov (.t 1)), none⟩,
   ⟨(some 54), (.bin .lss .num (.t 52) (.t 53)), none⟩])
  (.seq (.kill [0, 1, 2, 6, 7, 9, 54] 0) (.cond (.t 54)
  (.region [
    ⟨(some 55), (.mov (.t 0)), none⟩,
    ⟨(some 56), (.mov (.t 7)), none⟩,
    ⟨(some 57), (.mov (.t 9)), none⟩,
    ⟨(some 58), (.mov (.t 1)), none⟩,
    ⟨(some 59), (.mov (.t 2)), none⟩,
    ⟨(some 60), (.call 49 [(.t 55), (.t 56), (.t 57), (.t 58), (.t 59)]), none⟩])
  (.skip))))))
  (.seq (.kill [0, 1, 2, 6] 0) (.region [
   ⟨(some 61), (.mov (.t 6)), none⟩,
   ⟨(some 62), (.bin .mul .num (.t 61) (.c (.c (.int .i64 2)))), none⟩,
   ⟨(some 6), (.mov (.t 62)), none⟩]))))))))))))))))))))⟩
/-- cmp.isNaN[int] -/
def n47 : NF := ⟨6, [2],
 .seq (.region [
  ⟨(some 2), (.mov (.c (.c (.bool false)))), none⟩])
 (.seq (.kill [0] 0) (.seq (.region [
  ⟨(some 3), (.mov (.t 0)), none⟩,
  ⟨(some 4), (.mov (.t 0)), none⟩,
  ⟨(some 5), (.bin .neq .num (.t 3) (.t 4)), none⟩,
  ⟨(some 2), (.mov (.t 5)), none⟩])
 (.ret)))⟩
/-- slices.insertionSortCmpFunc[campanile/api.Link] -/
def n48 : NF := ⟨53, [],
 .seq (.region [
  ⟨(some 10), (.mov (.t 1)), none⟩,
  ⟨(some 11), (.bin .add .num (.t 10) (.c (.c (.int .i64 1)))), none⟩,
  ⟨(some 8), (.mov (.t 11)), none⟩])
 (.seq (.kill [0, 1, 2, 3, 8] 0) (.block 0 (.loop (.seq (.kill [0, 1, 2, 3, 8] 0) (.seq (.seq (.region [
   ⟨(some 12), (.mov (.t 8)), none⟩,
   ⟨(some 13), (.mov (.t 2)), none⟩,
   ⟨(some 14), (.bin .lss .num (.t 12) (.t 13)), none⟩])
  (.seq (.kill [0, 1, 2, 3, 8, 14] 0) (.cond (.t 14)
  (.skip)
  (.exit 0))))
  (.seq (.kill [0, 1, 2, 3, 8] 0) (.seq (.block 1 (.seq (.region [
   ⟨(some 17), (.mov (.t 8)), none⟩,
   ⟨(some 9), (.mov (.t 17)), none⟩])
  (.seq (.kill [0, 1, 2, 3, 8, 9] 0) (.block 2 (.loop (.seq (.kill [0, 1, 2, 3, 8, 9] 0) (.seq (.seq (.draw 0 [
    ⟨0, none, ⟨(some 18), (.mov (.t 9)), none⟩, []⟩,
    ⟨1, none, ⟨(some 19), (.mov (.t 1)), none⟩, []⟩,
    ⟨2, none, ⟨(some 20), (.bin .gtr .num (.t 18) (.t 19)), none⟩, []⟩,
    ⟨3, none, ⟨(some 21), (.mov (.t 20)), none⟩, []⟩,
    ⟨4, none, ⟨(some 22), (.mov (.t 3)), (some (21, true))⟩, []⟩,
    ⟨5, none, ⟨(some 23), (.mov (.t 0)), (some (21, true))⟩, []⟩,
    ⟨6, none, ⟨(some 24), (.mov (.t 9)), (some (21, true))⟩, []⟩,
    ⟨7, none, ⟨(some 25), (.iaddr 3 (.t 23) (.t 24)), (some (21, true))⟩, []⟩,
    ⟨8, none, ⟨(some 26), (.load (some 3) (.t 25)), (some (21, true))⟩, []⟩,
    ⟨9, none, ⟨(some 27), (.mov (.t 0)), (some (21, true))⟩, []⟩,
    ⟨10, none, ⟨(some 28), (.mov (.t 9)), (some (21, true))⟩, []⟩,
    ⟨11, none, ⟨(some 29), (.bin .sub .num (.t 28) (.c (.c (.int .i64 1)))), (some (21, true))⟩, []⟩,
    ⟨12, none, ⟨(some 30), (.iaddr 3 (.t 27) (.t 29)), (some (21, true))⟩, []⟩,
    ⟨13, none, ⟨(some 31), (.load (some 3) (.t 30)), (some (21, true))⟩, []⟩,
    ⟨14, none, ⟨(some 32), (.dyn (.t 22) [(.t 26), (.t 31)]), (some (21, true))⟩, []⟩,
    ⟨15, none, ⟨(some 33), (.bin .lss .num (.t 32) (.c (.c (.int .i64 0)))), (some (21, true))⟩, []⟩,
    ⟨16, none, ⟨(some 34), (.pick (.t 21) (.t 33) (.c (.c (.bool false)))), none⟩, []⟩])
   (.seq (.kill [0, 1, 2, 3, 8, 9, 34] 0) (.cond (.t 34)
   (.skip)
   (.exit 2))))
   (.seq (.kill [0, 1, 2, 3, 8, 9] 0) (.seq (.block 3 (.draw 0 [
    ⟨0, none, ⟨(some 37), (.mov (.t 0)), none⟩, []⟩,
    ⟨1, none, ⟨(some 38), (.mov (.t 9)), none⟩, []⟩,
    ⟨2, none, ⟨(some 39), (.mov (.t 0)), none⟩, []⟩,
    ⟨3, none, ⟨(some 40), (.mov (.t 9)), none⟩, []⟩,
    ⟨4, none, ⟨(some 41), (.bin .sub .num (.t 40) (.c (.c (.int .i64 1)))), none⟩, []⟩,
    ⟨5, none, ⟨(some 42), (.mov (.t 0)), none⟩, []⟩,
    ⟨6, none, ⟨(some 43), (.mov (.t 9)), none⟩, []⟩,
    ⟨7, none, ⟨(some 44), (.bin .sub .num (.t 43) (.c (.c (.int .i64 1)))), none⟩, []⟩,
    ⟨8, none, ⟨(some 45), (.iaddr 3 (.t 42) (.t 44)), none⟩, []⟩,
    ⟨9, none, ⟨(some 46), (.load (some 3) (.t 45)), none⟩, []⟩,
    ⟨10, none, ⟨(some 47), (.mov (.t 0)), none⟩, []⟩,
    ⟨11, none, ⟨(some 48), (.mov (.t 9)), none⟩, []⟩,
    ⟨12, none, ⟨(some 49), (.iaddr 3 (.t 47) (.t 48)), none⟩, []⟩,
    ⟨13, none, ⟨(some 50), (.load (some 3) (.t 49)), none⟩, []⟩,
    ⟨14, none, ⟨(some 51), (.iaddr 3 (.t 37) (.t 38)), none⟩, []⟩,
    ⟨15, none, ⟨none, (.store 3 (.t 51) (.t 46)), none⟩, []⟩,
    ⟨16, none, ⟨(some 52), (.iaddr 3 (.t 39) (.t 41)), none⟩, []⟩,
    ⟨17, none, ⟨none, (.store 3 (.t 52) (.t 50)), none⟩, []⟩]))
   (.seq (.kill [0, 1, 2, 3, 8, 9] 0) (.region [
    ⟨(some 35), (.mov (.t 9)), none⟩,
    ⟨(some 36), (.bin .sub .num (.t 35) (.c (.c (.int .i64 1)))), none⟩,
    ⟨(some 9), (.mov (.t 36)), none⟩])))))))))))
  (.seq (.kill [0, 1, 2, 3, 8] 0) (.region [
   ⟨(some 15), (.mov (.t 8)), none⟩,
   ⟨(some 16), (.bin .add .num (.t 15) (.c (.c (.int .i64 1)))), none⟩,
   ⟨(some 8), (.mov (.t 16)), none⟩])))))))))⟩
/-- slices.symMergeCmpFunc[campanile/api.Link] -/
def n49 : NF := ⟨220, [],
 .seq (.seq (.region [
  ⟨(some 25), (.mov (.t 2)), none⟩,
  ⟨(some 26), (.mov (.t 1)), none⟩,
  ⟨(some 27), (.bin .sub .num (.t 25) (.t 26)), none⟩,
  ⟨(some 28), (.bin .eql .num (.t 27) (.c (.c (.int .i64 1)))), none⟩])
 (.seq (.kill [0, 1, 2, 3, 4, 28] 0) (.cond (.t 28)
 (.seq (.region [
   ⟨(some 29), (.mov (.t 2)), none⟩,
   ⟨(some 10), (.mov (.t 29)), none⟩])
  (.seq (.kill [0, 1, 3, 4, 10] 0) (.seq (.region [
   ⟨(some 30), (.mov (.t 3)), none⟩,
   ⟨(some 11), (.mov (.t 30)), none⟩])
  (.seq (.kill [0, 1, 4, 10, 11] 0) (.seq (.block 0 (.loop (.seq (.kill [0, 1, 4, 10, 11] 0) (.seq (.seq (.region [
    ⟨(some 31), (.mov (.t 10)), none⟩,
    ⟨(some 32), (.mov (.t 11)), none⟩,
    ⟨(some 33), (.bin .lss .num (.t 31) (.t 32)), none⟩])
   (.seq (.kill [0, 1, 4, 10, 11, 33] 0) (.cond (.t 33)
   (.skip)
   (.exit 0))))
   (.seq (.kill [0, 1, 4, 10, 11] 0) (.block 1 (.seq (.region [
    ⟨(some 34), (.mov (.t 10)), none⟩,
    ⟨(some 35), (.mov (.t 11)), none⟩,
    ⟨(some 36), (.bin .add .num (.t 34) (.t 35)), none⟩,
    ⟨(some 37), (.conv (.toInt .u64) (.t 36)), none⟩,
    ⟨(some 38), (.bin .shr .num (.t 37) (.c (.c (.int .u64 1)))), none⟩,
    ⟨(some 39), (.conv (.toInt .i64) (.t 38)), none⟩,
    ⟨(some 12), (.mov (.t 39)), none⟩])
   (.seq (.kill [0, 1, 4, 10, 11, 12] 0) (.seq (.draw 0 [
    ⟨0, none, ⟨(some 40), (.mov (.t 4)), none⟩, []⟩,
    ⟨1, none, ⟨(some 41), (.mov (.t 0)), none⟩, []⟩,
    ⟨2, none, ⟨(some 42), (.mov (.t 12)), none⟩, []⟩,
    ⟨3, none, ⟨(some 43), (.iaddr 3 (.t 41) (.t 42)), none⟩, []⟩,
    ⟨4, none, ⟨(some 44), (.load (some 3) (.t 43)), none⟩, []⟩,
    ⟨5, none, ⟨(some 45), (.mov (.t 0)), none⟩, []⟩,
    ⟨6, none, ⟨(some 46), (.mov (.t 1)), none⟩, []⟩,
    ⟨7, none, ⟨(some 47), (.iaddr 3 (.t 45) (.t 46)), none⟩, []⟩,
    ⟨8, none, ⟨(some 48), (.load (some 3) (.t 47)), none⟩, []⟩,
    ⟨9, none, ⟨(some 49), (.dyn (.t 40) [(.t 44), (.t 48)]), none⟩, []⟩,
    ⟨10, none, ⟨(some 50), (.bin .lss .num (.t 49) (.c (.c (.int .i64 0)))), none⟩, []⟩])
   (.seq (.kill [0, 1, 4, 10, 11, 12, 50] 0) (.cond (.t 50)
   (.region [
     ⟨(some 51), (.mov (.t 12)), none⟩,
     ⟨(some 52), (.bin .add .num (.t 51) (.c (.c (.int .i64 1)))), none⟩,
     ⟨(some 10), (.mov (.t 52)), none⟩])
   (.region [
     ⟨(some 53), (.mov (.t 12)), none⟩,
     ⟨(some 11), (.mov (.t 53)), none⟩]))))))))))))
  (.seq (.kill [0, 1, 10] 0) (.seq (.seq (.region [
   ⟨(some 54), (.mov (.t 1)), none⟩,
   ⟨(some 13), (.mov (.t 54)), none⟩])
  (.seq (.kill [0, 10, 13] 0) (.block 2 (.loop (.seq (.kill [0, 10, 13] 0) (.seq (.seq (.region [
    ⟨(some 55), (.mov (.t 13)), none⟩,
    ⟨(some 56), (.mov (.t 10)), none⟩,
    ⟨(some 57), (.bin .sub .num (.t 56) (.c (.c (.int .i64 1)))), none⟩,
    ⟨(some 58), (.bin .lss .num (.t 55) (.t 57)), none⟩])
   (.seq (.kill [0, 10, 13, 58] 0) (.cond (.t 58)
   (.skip)
   (.exit 2))))
   (.seq (.kill [0, 10, 13] 0) (.seq (.block 3 (.draw 0 [
    ⟨0, none, ⟨(some 61), (.mov (.t 0)), none⟩, []⟩,
    ⟨1, none, ⟨(some 62), (.mov (.t 13)), none⟩, []⟩,
    ⟨2, none, ⟨(some 63), (.mov (.t 0)), none⟩, []⟩,
    ⟨3, none, ⟨(some 64), (.mov (.t 13)), none⟩, []⟩,
    ⟨4, none, ⟨(some 65), (.bin .add .num (.t 64) (.c (.c (.int .i64 1)))), none⟩, []⟩,
    ⟨5, none, ⟨(some 66), (.mov (.t 0)), none⟩, []⟩,
    ⟨6, none, ⟨(some 67), (.mov (.t 13)), none⟩, []⟩,
    ⟨7, none, ⟨(some 68), (.bin .add .num (.t 67) (.c (.c (.int .i64 1)))), none⟩, []⟩,
    ⟨8, none, ⟨(some 69), (.iaddr 3 (.t 66) (.t 68)), none⟩, []⟩,
    ⟨9, none, ⟨(some 70), (.load (some 3) (.t 69)), none⟩, []⟩,
    ⟨10, none, ⟨(some 71), (.mov (.t 0)), none⟩, []⟩,
    ⟨11, none, ⟨(some 72), (.mov (.t 13)), none⟩, []⟩,
    ⟨12, none, ⟨(some 73), (.iaddr 3 (.t 71) (.t 72)), none⟩, []⟩,
    ⟨13, none, ⟨(some 74), (.load (some 3) (.t 73)), none⟩, []⟩,
    ⟨14, none, ⟨(some 75), (.iaddr 3 (.t 61) (.t 62)), none⟩, []⟩,
    ⟨15, none, ⟨none, (.store 3 (.t 75) (.t 70)), none⟩, []⟩,
    ⟨16, none, ⟨(some 76), (.iaddr 3 (.t 63) (.t 65)), none⟩, []⟩,
    ⟨17, none, ⟨none, (.store 3 (.t 76) (.t 74)), none⟩, []⟩]))
   (.seq (.kill [0, 10, 13] 0) (.region [
    ⟨(some 59), (.mov (.t 13)), none⟩,
    ⟨(some 60), (.bin .add .num (.t 59) (.c (.c (.int .i64 1)))), none⟩,
    ⟨(some 13), (.mov (.t 60)), none⟩]))))))))))
  (.ret))))))))
 (.skip))))
 (.seq (.kill [0, 1, 2, 3, 4] 0) (.seq (.seq (.region [
  ⟨(some 77), (.mov (.t 3)), none⟩,
  ⟨(some 78), (.mov (.t 2)), none⟩,
  ⟨(some 79), (.bin .sub .num (.t 77) (.t 78)), none⟩,
  ⟨(some 80), (.bin .eql .num (.t 79) (.c (.c (.int .i64 1)))), none⟩])
 (.seq (.kill [0, 1, 2, 3, 4, 80] 0) (.cond (.t 80)
 (.seq (.region [
   ⟨(some 81), (.mov (.t 1)), none⟩,
   ⟨(some 14), (.mov (.t 81)), none⟩])
  (.seq (.kill [0, 2, 4, 14] 0) (.seq (.region [
   ⟨(some 82), (.mov (.t 2)), none⟩,
   ⟨(some 15), (.mov (.t 82)), none⟩])
  (.seq (.kill [0, 2, 4, 14, 15] 0) (.seq (.block 4 (.loop (.seq (.kill [0, 2, 4, 14, 15] 0) (.seq (.seq (.region [
    ⟨(some 83), (.mov (.t 14)), none⟩,
    ⟨(some 84), (.mov (.t 15)), none⟩,
    ⟨(some 85), (.bin .lss .num (.t 83) (.t 84)), none⟩])
   (.seq (.kill [0, 2, 4, 14, 15, 85] 0) (.cond (.t 85)
   (.skip)
   (.exit 4))))
   (.seq (.kill [0, 2, 4, 14, 15] 0) (.block 5 (.seq (.region [
    ⟨(some 86), (.mov (.t 14)), none⟩,
    ⟨(some 87), (.mov (.t 15)), none⟩,
    ⟨(some 88), (.bin .add .num (.t 86) (.t 87)), none⟩,
    ⟨(some 89), (.conv (.toInt .u64) (.t 88)), none⟩,
    ⟨(some 90), (.bin .shr .num (.t 89) (.c (.c (.int .u64 1)))), none⟩,
    ⟨(some 91), (.conv (.toInt .i64) (.t 90)), none⟩,
    ⟨(some 16), (.mov (.t 91)), none⟩])
   (.seq (.kill [0, 2, 4, 14, 15, 16] 0) (.seq (.draw 0 [
    ⟨0, none, ⟨(some 92), (.mov (.t 4)), none⟩, []⟩,
    ⟨1, none, ⟨(some 93), (.mov (.t 0)), none⟩, []⟩,
    ⟨2, none, ⟨(some 94), (.mov (.t 2)), none⟩, []⟩,
    ⟨3, none, ⟨(some 95), (.iaddr 3 (.t 93) (.t 94)), none⟩, []⟩,
    ⟨4, none, ⟨(some 96), (.load (some 3) (.t 95)), none⟩, []⟩,
    ⟨5, none, ⟨(some 97), (.mov (.t 0)), none⟩, []⟩,
    ⟨6, none, ⟨(some 98), (.mov (.t 16)), none⟩, []⟩,
    ⟨7, none, ⟨(some 99), (.iaddr 3 (.t 97) (.t 98)), none⟩, []⟩,
    ⟨8, none, ⟨(some 100), (.load (some 3) (.t 99)), none⟩, []⟩,
    ⟨9, none, ⟨(some 101), (.dyn (.t 92) [(.t 96), (.t 100)]), none⟩, []⟩,
    ⟨10, none, ⟨(some 102), (.bin .lss .num (.t 101) (.c (.c (.int .i64 0)))), none⟩, []⟩,
    ⟨11, none, ⟨(some 103), (.un .not (.t 102)), none⟩, []⟩])
   (.seq (.kill [0, 2, 4, 14, 15, 16, 103] 0) (.cond (.t 103)
   (.region [
     ⟨(some 104), (.mov (.t 16)), none⟩,
     ⟨(some 105), (.bin .add .num (.t 104) (.c (.c (.int .i64 1)))), none⟩,
     ⟨(some 14), (.mov (.t 105)), none⟩])
   (.region [
     ⟨(some 106), (.mov (.t 16)), none⟩,
     ⟨(some 15), (.mov (.t 106)), none⟩]))))))))))))
  (.seq (.kill [0, 2, 14] 0) (.seq (.seq (.region [
   ⟨(some 107), (.mov (.t 2)), none⟩,
   ⟨(some 17), (.mov (.t 107)), none⟩])
  (.seq (.kill [0, 14, 17] 0) (.block 6 (.loop (.seq (.kill [0, 14, 17] 0) (.seq (.seq (.region [
    ⟨(some 108), (.mov (.t 17)), none⟩,
    ⟨(some 109), (.mov (.t 14)), none⟩,
    ⟨(some 110), (.bin .gtr .num (.t 108) (.t 109)), none⟩])
   (.seq (.kill [0, 14, 17, 110] 0) (.cond (.t 110)
   (.skip)
   (.exit 6))))
   (.seq (.kill [0, 14, 17] 0) (.seq (.block 7 (.draw 0 [
    ⟨0, none, ⟨(some 113), (.mov (.t 0)), none⟩, []⟩,
    ⟨1, none, ⟨(some 114), (.mov (.t 17)), none⟩, []⟩,
    ⟨2, none, ⟨(some 115), (.mov (.t 0)), none⟩, []⟩,
    ⟨3, none, ⟨(some 116), (.mov (.t 17)), none⟩, []⟩,
    ⟨4, none, ⟨(some 117), (.bin .sub .num (.t 116) (.c (.c (.int .i64 1)))), none⟩, []⟩,
    ⟨5, none, ⟨(some 118), (.mov (.t 0)), none⟩, []⟩,
    ⟨6, none, ⟨(some 119), (.mov (.t 17)), none⟩, []⟩,
    ⟨7, none, ⟨(some 120), (.bin .sub .num (.t 119) (.c (.c (.int .i64 1)))), none⟩, []⟩,
    ⟨8, none, ⟨(some 121), (.iaddr 3 (.t 118) (.t 120)), none⟩, []⟩,
    ⟨9, none, ⟨(some 122), (.load (some 3) (.t 121)), none⟩, []⟩,
    ⟨10, none, ⟨(some 123), (.mov (.t 0)), none⟩, []⟩,
    ⟨11, none, ⟨(some 124), (.mov (.t 17)), none⟩, []⟩,
    ⟨12, none, ⟨(some 125), (.iaddr 3 (.t 123) (.t 124)), none⟩, []⟩,
    ⟨13, none, ⟨(some 126), (.load (some 3) (.t 125)), none⟩, []⟩,
    ⟨14, none, ⟨(some 127), (.iaddr 3 (.t 113) (.t 114)), none⟩, []⟩,
    ⟨15, none, ⟨none, (.store 3 (.t 127) (.t 122)), none⟩, []⟩,
    ⟨16, none, ⟨(some 128), (.iaddr 3 (.t 115) (.t 117)), none⟩, []⟩,
    ⟨17, none, ⟨none, (.store 3 (.t 128) (.t 126)), none⟩, []⟩]))
   (.seq (.kill [0, 14, 17] 0) (.region [
    ⟨(some 111), (.mov (.t 17)), none⟩,
    ⟨(some 112), (.bin .sub .num (.t 111) (.c (.c (.int .i64 1)))), none⟩,
    ⟨(some 17), (.mov (.t 112)), none⟩]))))))))))
  (.ret))))))))
 (.skip))))
 (.seq (.kill [0, 1, 2, 3, 4] 0) (.seq (.region [
  ⟨(some 129), (.mov (.t 1)), none⟩,
  ⟨(some 130), (.mov (.t 3)), none⟩,
  ⟨(some 131), (.bin .add .num (.t 129) (.t 130)), none⟩,
  ⟨(some 132), (.conv (.toInt .u64) (.t 131)), none⟩,
  ⟨(some 133), (.bin .shr .num (.t 132) (.c (.c (.int .u64 1)))), none⟩,
  ⟨(some 134), (.conv (.toInt .i64) (.t 133)), none⟩,
  ⟨(some 18), (.mov (.t 134)), none⟩])
 (.seq (.kill [0, 1, 2, 3, 4, 18] 0) (.seq (.region [
  ⟨(some 135), (.mov (.t 18)), none⟩,
  ⟨(some 136), (.mov (.t 2)), none⟩,
  ⟨(some 137), (.bin .add .num (.t 135) (.t 136)), none⟩,
  ⟨(some 19), (.mov (.t 137)), none⟩])
 (.seq (.kill [0, 1, 2, 3, 4, 18, 19] 0) (.seq (.region [
  ⟨(some 20), (.mov (.c (.c (.int .i64 0)))), none⟩,
  ⟨(some 21), (.mov (.c (.c (.int .i64 0)))), none⟩])
 (.seq (.kill [0, 1, 2, 3, 4, 18, 19] 0) (.seq (.seq (.region [
  ⟨(some 138), (.mov (.t 2)), none⟩,
  ⟨(some 139), (.mov (.t 18)), none⟩,
  ⟨(some 140), (.bin .gtr .num (.t 138) (.t 139)), none⟩])
 (.seq (.kill [0, 1, 2, 3, 4, 18, 19, 140] 0) (.cond (.t 140)
 (.seq (.region [
   ⟨(some 141), (.mov (.t 19)), none⟩,
   ⟨(some 142), (.mov (.t 3)), none⟩,
   ⟨(some 143), (.bin .sub .num (.t 141) (.t 142)), none⟩,
   ⟨(some 20), (.mov (.t 143)), none⟩])
  (.seq (.kill [0, 1, 2, 3, 4, 18, 19, 20] 0) (.region [
   ⟨(some 144), (.mov (.t 18)), none⟩,
   ⟨(some 21), (.mov (.t 144)), none⟩])))
 (.seq (.region [
   ⟨(some 145), (.mov (.t 1)), none⟩,
   ⟨(some 20), (.mov (.t 145)), none⟩])
  (.seq (.kill [0, 1, 2, 3, 4, 18, 19, 20] 0) (.region [
   ⟨(some 146), (.mov (.t 2)), none⟩,
   ⟨(some 21), (.mov (.t 146)), none⟩]))))))
 (.seq (.kill [0, 1, 2, 3, 4, 18, 19, 20, 21] 0) (.seq (.region [
  ⟨(some 147), (.mov (.t 19)), none⟩,
  ⟨(some 148), (.bin .sub .num (.t 147) (.c (.c (.int .i64 1)))), none⟩,
  ⟨(some 22), (.mov (.t 148)), none⟩])
 (.seq (.kill [0, 1, 2, 3, 4, 18, 19, 20, 21, 22] 0) (.seq (.block 8 (.loop (.seq (.kill [0, 1, 2, 3, 4, 18, 19, 20, 21, 22] 0) (.seq (.seq (.region [
   ⟨(some 149), (.mov (.t 20)), none⟩,
   ⟨(some 150), (.mov (.t 21)), none⟩,
   ⟨(some 151), (.bin .lss .num (.t 149) (.t 150)), none⟩])
  (.seq (.kill [0, 1, 2, 3, 4, 18, 19, 20, 21, 22, 151] 0) (.cond (.t 151)
  (.skip)
  (.exit 8))))
  (.seq (.kill [0, 1, 2, 3, 4, 18, 19, 20, 21, 22] 0) (.block 9 (.seq (.region [
   ⟨(some 152), (.mov (.t 20)), none⟩,
   ⟨(some 153), (.mov (.t 21)), none⟩,
   ⟨(some 154), (.bin .add .num (.t 152) (.t 153)), none⟩,
   ⟨(some 155), (.conv (.toInt .u64) (.t 154)), none⟩,
   ⟨(some 156), (.bin .shr .num (.t 155) (.c (.c (.int .u64 1)))), none⟩,
   ⟨(some 157), (.conv (.toInt .i64) (.t 156)), none⟩,
   ⟨(some 23), (.mov (.t 157)), none⟩])
  (.seq (.kill [0, 1, 2, 3, 4, 18, 19, 20, 21, 22, 23] 0) (.seq (.draw 0 [
   ⟨0, none, ⟨(some 158), (.mov (.t 4)), none⟩, []⟩,
   ⟨1, none, ⟨(some 159), (.mov (.t 0)), none⟩, []⟩,
   ⟨2, none, ⟨(some 160), (.mov (.t 22)), none⟩, []⟩,
   ⟨3, none, ⟨(some 161), (.mov (.t 23)), none⟩, []⟩,
   ⟨4, none, ⟨(some 162), (.bin .sub .num (.t 160) (.t 161)), none⟩, []⟩,
   ⟨5, none, ⟨(some 163), (.iaddr 3 (.t 159) (.t 162)), none⟩, []⟩,
   ⟨6, none, ⟨(some 164), (.load (some 3) (.t 163)), none⟩, []⟩,
   ⟨7, none, ⟨(some 165), (.mov (.t 0)), none⟩, []⟩,
   ⟨8, none, ⟨(some 166), (.mov (.t 23)), none⟩, []⟩,
   ⟨9, none, ⟨(some 167), (.iaddr 3 (.t 165) (.t 166)), none⟩, []⟩,
   ⟨10, none, ⟨(some 168), (.load (some 3) (.t 167)), none⟩, []⟩,
   ⟨11, none, ⟨(some 169), (.dyn (.t 158) [(.t 164), (.t 168)]), none⟩, []⟩,
   ⟨12, none, ⟨(some 170), (.bin .lss .num (.t 169) (.c (.c (.int .i64 0)))), none⟩, []⟩,
   ⟨13, none, ⟨(some 171), (.un .not (.t 170)), none⟩, []⟩])
  (.seq (.kill [0, 1, 2, 3, 4, 18, 19, 20, 21, 22, 23, 171] 0) (.cond (.t 171)
  (.region [
    ⟨(some 172), (.mov (.t 23)), none⟩,
    ⟨(some 173), (.bin .add .num (.t 172) (.c (.c (.int .i64 1)))), none⟩,
    ⟨(some 20), (.mov (.t 173)), none⟩])
  (.region [
    ⟨(some 174), (.mov (.t 23)), none⟩,
    ⟨(some 21), (.mov (.t 174)), none⟩]))))))))))))
 (.seq (.kill [0, 1, 2, 3, 4, 18, 19, 20] 0) (.seq (.region [
  ⟨(some 175), (.mov (.t 19)), none⟩,
  ⟨(some 176), (.mov (.t 20)), none⟩,
  ⟨(some 177), (.bin .sub .num (.t 175) (.t 176)), none⟩,
  ⟨(some 24), (.mov (.t 177)), none⟩])
 (.seq (.kill [0, 1, 2, 3, 4, 18, 20, 24] 0) (.seq (.seq (.region [
  ⟨(some 178), (.mov (.t 20)), none⟩,
  ⟨(some 179), (.mov (.t 2)), none⟩,
  ⟨(some 180), (.bin .lss .num (.t 178) (.t 179)), none⟩,
  ⟨(some 181), (.mov (.t 180)), none⟩,
  ⟨(some 182), (.mov (.t 2)), (some (181, true))⟩,
  ⟨(some 183), (.mov (.t 24)), (some (181, true))⟩,
  ⟨(some 184), (.bin .lss .num (.t 182) (.t 183)), (some (181, true))⟩,
  ⟨(some 185), (.pick (.t 181) (.t 184) (.c (.c (.bool false)))), none⟩])
 (.seq (.kill [0, 1, 2, 3, 4, 18, 20, 24, 185] 0) (.cond (.t 185)
 (.region [
   ⟨(some 186), (.mov (.t 0)), none⟩,
   ⟨(some 187), (.mov (.t 20)), none⟩,
   ⟨(some 188), (.mov (.t 2)), none⟩,
   ⟨(some 189), (.mov (.t 24)), none⟩,
   ⟨(some 190), (.mov (.t 4)), none⟩,
   ⟨(some 191), (.call 50 [(.t 186), (.t 187), (.t 188), (.t 189), (.t 190)]), none⟩])
 (.skip))))
 (.seq (.kill [0, 1, 3, 4, 18, 20, 24] 0) (.seq (.seq (.region [
  ⟨(some 192), (.mov (.t 1)), none⟩,
  ⟨(some 193), (.mov (.t 20)), none⟩,
  ⟨(some 194), (.bin .lss .num (.t 192) (.t 193)), none⟩,
  ⟨(some 195), (.mov (.t 194)), none⟩,
  ⟨(some 196), (.mov (.t 20)), (some (195, true))⟩,
  ⟨(some 197), (.mov (.t 18)), (some (195, true))⟩,
  ⟨(some 198), (.bin .lss .num (.t 196) (.t 197)), (some (195, true))⟩,
  ⟨(some 199), (.pick (.t 195) (.t 198) (.c (.c (.bool false)))), none⟩])
 (.seq (.kill [0, 1, 3, 4, 18, 20, 24, 199] 0) (.cond (.t 199)
 (.region [
   ⟨(some 200), (.mov (.t 0)), none⟩,
   ⟨(some 201), (.mov (.t 1)), none⟩,
   ⟨(some 202), (.mov (.t 20)), none⟩,
   ⟨(some 203), (.mov (.t 18)), none⟩,
   ⟨(some 204), (.mov (.t 4)), none⟩,
   ⟨(some 205), (.call 49 [(.t 200), (.t 201), (.t 202), (.t 203), (.t 204)]), none⟩])
 (.skip))))
 (.seq (.kill [0, 3, 4, 18, 24] 0) (.seq (.region [
  ⟨(some 206), (.mov (.t 18)), none⟩,
  ⟨(some 207), (.mov (.t 24)), none⟩,
  ⟨(some 208), (.bin .lss .num (.t 206) (.t 207)), none⟩,
  ⟨(some 209), (.mov (.t 208)), none⟩,
  ⟨(some 210), (.mov (.t 24)), (some (209, true))⟩,
  ⟨(some 211), (.mov (.t 3)), (some (209, true))⟩,
  ⟨(some 212), (.bin .lss .num (.t 210) (.t 211)), (some (209, true))⟩,
  ⟨(some 213), (.pick (.t 209) (.t 212) (.c (.c (.bool false)))), none⟩])
 (.seq (.kill [0, 3, 4, 18, 24, 213] 0) (.cond (.t 213)
 (.region [
   ⟨(some 214), (.mov (.t 0)), none⟩,
   ⟨(some 215), (.mov (.t 18)), none⟩,
   ⟨(some 216), (.mov (.t 24)), none⟩,
   ⟨(some 217), (.mov (.t 3)), none⟩,
   ⟨(some 218), (.mov (.t 4)), none⟩,
   ⟨(some 219), (.call 49 [(.t 214), (.t 215), (.t 216), (.t 217), (.t 218)]), none⟩])
 (.skip)))))))))))))))))))))))))⟩
/-- slices.rotateCmpFunc[campanile/api.Link] -/
def n50 : NF := ⟨58, [],
 .seq (.region [
  ⟨(some 12), (.mov (.t 2)), none⟩,
  ⟨(some 13), (.mov (.t 1)), none⟩,
  ⟨(some 14), (.bin .sub .num (.t 12) (.t 13)), none⟩,
  ⟨(some 10), (.mov (.t 14)), none⟩])
 (.seq (.kill [0, 2, 3, 4, 10] 0) (.seq (.region [
  ⟨(some 15), (.mov (.t 3)), none⟩,
  ⟨(some 16), (.mov (.t 2)), none⟩,
  ⟨(some 17), (.bin .sub .num (.t 15) (.t 16)), none⟩,
  ⟨(some 11), (.mov (.t 17)), none⟩])
 (.seq (.kill [0, 2, 4, 10, 11] 0) (.seq (.block 0 (.loop (.seq (.kill [0, 2, 4, 10, 11] 0) (.seq (.seq (.region [
   ⟨(some 18), (.mov (.t 10)), none⟩,
   ⟨(some 19), (.mov (.t 11)), none⟩,
   ⟨(some 20), (.bin .neq .num (.t 18) (.t 19)), none⟩])
  (.seq (.kill [0, 2, 4, 10, 11, 20] 0) (.cond (.t 20)
  (.skip)
  (.exit 0))))
  (.seq (.kill [0, 2, 4, 10, 11] 0) (.block 1 (.seq (.region [
   ⟨(some 21), (.mov (.t 10)), none⟩,
   ⟨(some 22), (.mov (.t 11)), none⟩,
   ⟨(some 23), (.bin .gtr .num (.t 21) (.t 22)), none⟩])
  (.seq (.kill [0, 2, 4, 10, 11, 23] 0) (.cond (.t 23)
  (.seq (.region [
    ⟨(some 24), (.mov (.t 0)), none⟩,
    ⟨(some 25), (.mov (.t 2)), none⟩,
    ⟨(some 26), (.mov (.t 10)), none⟩,
    ⟨(some 27), (.bin .sub .num (.t 25) (.t 26)), none⟩,
    ⟨(some 28), (.mov (.t 2)), none⟩,
    ⟨(some 29), (.mov (.t 11)), none⟩,
    ⟨(some 30), (.mov (.t 4)), none⟩,
    ⟨(some 31), (.call 51 [(.t 24), (.t 27), (.t 28), (.t 29), (.t 30)]), none⟩])
   (.seq (.kill [0, 2, 4, 10, 11] 0) (.region [
    ⟨(some 32), (.mov (.t 10)), none⟩,
    ⟨(some 33), (.mov (.t 11)), none⟩,
    ⟨(some 34), (.bin .sub .num (.t 32) (.t 33)), none⟩,
    ⟨(some 10), (.mov (.t 34)), none⟩])))
  (.seq (.region [
    ⟨(some 35), (.mov (.t 0)), none⟩,
    ⟨(some 36), (.mov (.t 2)), none⟩,
    ⟨(some 37), (.mov (.t 10)), none⟩,
    ⟨(some 38), (.bin .sub .num (.t 36) (.t 37)), none⟩,
    ⟨(some 39), (.mov (.t 2)), none⟩,
    ⟨(some 40), (.mov (.t 11)), none⟩,
    ⟨(some 41), (.bin .add .num (.t 39) (.t 40)), none⟩,
    ⟨(some 42), (.mov (.t 10)), none⟩,
    ⟨(some 43), (.bin .sub .num (.t 41) (.t 42)), none⟩,
    ⟨(some 44), (.mov (.t 10)), none⟩,
    ⟨(some 45), (.mov (.t 4)), none⟩,
    ⟨(some 46), (.call 51 [(.t 35), (.t 38), (.t 43), (.t 44), (.t 45)]), none⟩])
   (.seq (.kill [0, 2, 4, 10, 11] 0) (.region [
    ⟨(some 47), (.mov (.t 11)), none⟩,
    ⟨(some 48), (.mov (.t 10)), none⟩,
    ⟨(some 49), (.bin .sub .num (.t 47) (.t 48)), none⟩,
    ⟨(some 11), (.mov (.t 49)), none⟩]))))))))))))
 (.seq (.kill [0, 2, 4, 10] 0) (.region [
  ⟨(some 50), (.mov (.t 0)), none⟩,
  ⟨(some 51), (.mov (.t 2)), none⟩,
  ⟨(some 52), (.mov (.t 10)), none⟩,
  ⟨(some 53), (.bin .sub .num (.t 51) (.t 52)), none⟩,
  ⟨(some 54), (.mov (.t 2)), none⟩,
  ⟨(some 55), (.mov (.t 10)), none⟩,
  ⟨(some 56), (.mov (.t 4)), none⟩,
  ⟨(some 57), (.call 51 [(.t 50), (.t 53), (.t 54), (.t 55), (.t 56)]), none⟩]))))))⟩
/-- slices.swapRangeCmpFunc[campanile/api.Link] -/
def n51 : NF := ⟨38, [],
 .seq (.region [
  ⟨(some 10), (.mov (.c (.c (.int .i64 0)))), none⟩])
 (.seq (.kill [0, 1, 2, 3, 10] 0) (.block 0 (.loop (.seq (.kill [0, 1, 2, 3, 10] 0) (.seq (.seq (.region [
   ⟨(some 11), (.mov (.t 10)), none⟩,
   ⟨(some 12), (.mov (.t 3)), none⟩,
   ⟨(some 13), (.bin .lss .num (.t 11) (.t 12)), none⟩])
  (.seq (.kill [0, 1, 2, 3, 10, 13] 0) (.cond (.t 13)
  (.skip)
  (.exit 0))))
  (.seq (.kill [0, 1, 2, 3, 10] 0) (.seq (.block 1 (.draw 0 [
   ⟨0, none, ⟨(some 16), (.mov (.t 0)), none⟩, []⟩,
   ⟨1, none, ⟨(some 17), (.mov (.t 1)), none⟩, []⟩,
   ⟨2, none, ⟨(some 18), (.mov (.t 10)), none⟩, []⟩,
   ⟨3, none, ⟨(some 19), (.bin .add .num (.t 17) (.t 18)), none⟩, []⟩,
   ⟨4, none, ⟨(some 20), (.mov (.t 0)), none⟩, []⟩,
   ⟨5, none, ⟨(some 21), (.mov (.t 2)), none⟩, []⟩,
   ⟨6, none, ⟨(some 22), (.mov (.t 10)), none⟩, []⟩,
   ⟨7, none, ⟨(some 23), (.bin .add .num (.t 21) (.t 22)), none⟩, []⟩,
   ⟨8, none, ⟨(some 24), (.mov (.t 0)), none⟩, []⟩,
   ⟨9, none, ⟨(some 25), (.mov (.t 2)), none⟩, []⟩,
   ⟨10, none, ⟨(some 26), (.mov (.t 10)), none⟩, []⟩,
   ⟨11, none, ⟨(some 27), (.bin .add .num (.t 25) (.t 26)), none⟩, []⟩,
   ⟨12, none, ⟨(some 28), (.iaddr 3 (.t 24) (.t 27)), none⟩, []⟩,
   ⟨13, none, ⟨(some 29), (.load (some 3) (.t 28)), none⟩, []⟩,
   ⟨14, none, ⟨(some 30), (.mov (.t 0)), none⟩, []⟩,
   ⟨15, none, ⟨(some 31), (.mov (.t 1)), none⟩, []⟩,
   ⟨16, none, ⟨(some 32), (.mov (.t 10)), none⟩, []⟩,
   ⟨17, none, ⟨(some 33), (.bin .add .num (.t 31) (.t 32)), none⟩, []⟩,
   ⟨18, none, ⟨(some 34), (.iaddr 3 (.t 30) (.t 33)), none⟩, []⟩,
   ⟨19, none, ⟨(some 35), (.load (some 3) (.t 34)), none⟩, []⟩,
   ⟨20, none, ⟨(some 36), (.iaddr 3 (.t 16) (.t 19)), none⟩, []⟩,
   ⟨21, none, ⟨none, (.store 3 (.t 36) (.t 29)), none⟩, []⟩,
   ⟨22, none, ⟨(some 37), (.iaddr 3 (.t 20) (.t 23)), none⟩, []⟩,
   ⟨23, none, ⟨none, (.store 3 (.t 37) (.t 35)), none⟩, []⟩]))
  (.seq (.kill [0, 1, 2, 3, 10] 0) (.region [
   ⟨(some 14), (.mov (.t 10)), none⟩,
   ⟨(some 15), (.bin .add .num (.t 14) (.c (.c (.int .i64 1)))), none⟩,
   ⟨(some 10), (.mov (.t 15)), none⟩])))))))))⟩
def N : Nat → Option NF
  | 23 => some n23
  | 24 => some n24
  | 25 => some n25
  | 26 => some n26
  | 27 => some n27
  | 28 => some n28
  | 29 => some n29
  | 30 => some n30
  | 31 => some n31
  | 32 => some n32
  | 33 => some n33
  | 34 => some n34
  | 35 => some n35
  | 36 => some n36
  | 37 => some n37
  | 38 => some n38
  | 39 => some n39
  | 40 => some n40
  | 41 => some n41
  | 42 => some n42
  | 43 => some n43
  | 44 => some n44
  | 45 => some n45
  | 46 => some n46
  | 47 => some n47
  | 48 => some n48
  | 49 => some n49
  | 50 => some n50
  | 51 => some n51
  | _ => none
end Camp

/-! CsNeigh -/
namespace Camp.S
open Go Go.Proofs
def tbl : List Nat := [1000000, 1000000, 1000000, 23, 29, 37, 38, 39, 24, 25, 26, 27, 28, 30, 31, 32, 33, 34, 36, 35, 40, 41, 42, 43, 46, 44, 45, 47, 48, 49, 50, 51, 1000000, 1000000, 1000000, 1000000, 1000000, 1000000, 1000000, 1000000, 1000000, 1000000, 1000000, 1000000, 1000000, 1000000, 1000000, 1000000]
abbrev rn : FuncId → Nat := rnOf tbl
theorem c23 : CFn Try.prog rn (DJ Try.prog rn) Try.f3 n23 := cfn_ok [] (by kernel_rfl) (by kernel_rfl) (by kernel_rfl) (by kernel_rfl)
theorem c29 : CFn Try.prog rn (DJ Try.prog rn) Try.f4 n29 := cfn_ok [12] (by kernel_rfl) (by kernel_rfl) (by kernel_rfl) (by kernel_rfl)
theorem c37 : CFn Try.prog rn (DJ Try.prog rn) Try.f5 n37 := cfn_ok [3] (by kernel_rfl) (by kernel_rfl) (by kernel_rfl) (by kernel_rfl)
theorem c38 : CFn Try.prog rn (DJ Try.prog rn) Try.f6 n38 := cfn_ok [] (by kernel_rfl) (by kernel_rfl) (by kernel_rfl) (by kernel_rfl)
theorem c39 : CFn Try.prog rn (DJ Try.prog rn) Try.f7 n39 := cfn_ok [9, 14, 16] (by kernel_rfl) (by kernel_rfl) (by kernel_rfl) (by kernel_rfl)
theorem c24 : CFn Try.prog rn (DJ Try.prog rn) Try.f8 n24 := cfn_ok [] (by kernel_rfl) (by kernel_rfl) (by kernel_rfl) (by kernel_rfl)
theorem c25 : CFn Try.prog rn (DJ Try.prog rn) Try.f9 n25 := cfn_ok [] (by kernel_rfl) (by kernel_rfl) (by kernel_rfl) (by kernel_rfl)
theorem c26 : CFn Try.prog rn (DJ Try.prog rn) Try.f10 n26 := cfn_ok [] (by kernel_rfl) (by kernel_rfl) (by kernel_rfl) (by kernel_rfl)
theorem c27 : CFn Try.prog rn (DJ Try.prog rn) Try.f11 n27 := cfn_ok [35] (by kernel_rfl) (by kernel_rfl) (by kernel_rfl) (by kernel_rfl)
theorem c28 : CFn Try.prog rn (DJ Try.prog rn) Try.f12 n28 := cfn_ok [] (by kernel_rfl) (by kernel_rfl) (by kernel_rfl) (by kernel_rfl)
theorem c30 : CFn Try.prog rn (DJ Try.prog rn) Try.f13 n30 := cfn_ok [] (by kernel_rfl) (by kernel_rfl) (by kernel_rfl) (by kernel_rfl)
theorem c31 : CFn Try.prog rn (DJ Try.prog rn) Try.f14 n31 := cfn_ok [] (by kernel_rfl) (by kernel_rfl) (by kernel_rfl) (by kernel_rfl)
theorem c32 : CFn Try.prog rn (DJ Try.prog rn) Try.f15 n32 := cfn_ok [] (by kernel_rfl) (by kernel_rfl) (by kernel_rfl) (by kernel_rfl)
theorem c33 : CFn Try.prog rn (DJ Try.prog rn) Try.f16 n33 := cfn_ok [] (by kernel_rfl) (by kernel_rfl) (by kernel_rfl) (by kernel_rfl)
theorem c34 : CFn Try.prog rn (DJ Try.prog rn) Try.f17 n34 := cfn_ok [] (by kernel_rfl) (by kernel_rfl) (by kernel_rfl) (by kernel_rfl)
theorem c36 : CFn Try.prog rn (DJ Try.prog rn) Try.f18 n36 := cfn_ok [] (by kernel_rfl) (by kernel_rfl) (by kernel_rfl) (by kernel_rfl)
theorem c35 : CFn Try.prog rn (DJ Try.prog rn) Try.f19 n35 := cfn_ok [45] (by kernel_rfl) (by kernel_rfl) (by kernel_rfl) (by kernel_rfl)
theorem c40 : CFn Try.prog rn (DJ Try.prog rn) Try.f20 n40 := cfn_ok [] (by kernel_rfl) (by kernel_rfl) (by kernel_rfl) (by kernel_rfl)
theorem c41 : CFn Try.prog rn (DJ Try.prog rn) Try.f21 n41 := cfn_ok [] (by kernel_rfl) (by kernel_rfl) (by kernel_rfl) (by kernel_rfl)
theorem c42 : CFn Try.prog rn (DJ Try.prog rn) Try.f22 n42 := cfn_ok [] (by kernel_rfl) (by kernel_rfl) (by kernel_rfl) (by kernel_rfl)
theorem c43 : CFn Try.prog rn (DJ Try.prog rn) Try.f23 n43 := cfn_ok [2, 3] (by kernel_rfl) (by kernel_rfl) (by kernel_rfl) (by kernel_rfl)
theorem c46 : CFn Try.prog rn (DJ Try.prog rn) Try.f24 n46 := cfn_ok [] (by kernel_rfl) (by kernel_rfl) (by kernel_rfl) (by kernel_rfl)
theorem c44 : CFn Try.prog rn (DJ Try.prog rn) Try.f25 n44 := cfn_ok [] (by kernel_rfl) (by kernel_rfl) (by kernel_rfl) (by kernel_rfl)
theorem c45 : CFn Try.prog rn (DJ Try.prog rn) Try.f26 n45 := cfn_ok [] (by kernel_rfl) (by kernel_rfl) (by kernel_rfl) (by kernel_rfl)
theorem c47 : CFn Try.prog rn (DJ Try.prog rn) Try.f27 n47 := cfn_ok [] (by kernel_rfl) (by kernel_rfl) (by kernel_rfl) (by kernel_rfl)
theorem c48 : CFn Try.prog rn (DJ Try.prog rn) Try.f28 n48 := cfn_ok [] (by kernel_rfl) (by kernel_rfl) (by kernel_rfl) (by kernel_rfl)
theorem c49 : CFn Try.prog rn (DJ Try.prog rn) Try.f29 n49 := cfn_ok [] (by kernel_rfl) (by kernel_rfl) (by kernel_rfl) (by kernel_rfl)
theorem c50 : CFn Try.prog rn (DJ Try.prog rn) Try.f30 n50 := cfn_ok [] (by kernel_rfl) (by kernel_rfl) (by kernel_rfl) (by kernel_rfl)
theorem c51 : CFn Try.prog rn (DJ Try.prog rn) Try.f31 n51 := cfn_ok [] (by kernel_rfl) (by kernel_rfl) (by kernel_rfl) (by kernel_rfl)
theorem all : AllOk Try.prog rn N tbl 0 :=
  ⟨ok_none rfl,
   ok_none rfl,
   ok_none rfl,
   ok_some rfl Try.func3 c23,
   ok_some rfl Try.func4 c29,
   ok_some rfl Try.func5 c37,
   ok_some rfl Try.func6 c38,
   ok_some rfl Try.func7 c39,
   ok_some rfl Try.func8 c24,
   ok_some rfl Try.func9 c25,
   ok_some rfl Try.func10 c26,
   ok_some rfl Try.func11 c27,
   ok_some rfl Try.func12 c28,
   ok_some rfl Try.func13 c30,
   ok_some rfl Try.func14 c31,
   ok_some rfl Try.func15 c32,
   ok_some rfl Try.func16 c33,
   ok_some rfl Try.func17 c34,
   ok_some rfl Try.func18 c36,
   ok_some rfl Try.func19 c35,
   ok_some rfl Try.func20 c40,
   ok_some rfl Try.func21 c41,
   ok_some rfl Try.func22 c42,
   ok_some rfl Try.func23 c43,
   ok_some rfl Try.func24 c46,
   ok_some rfl Try.func25 c44,
   ok_some rfl Try.func26 c45,
   ok_some rfl Try.func27 c47,
   ok_some rfl Try.func28 c48,
   ok_some rfl Try.func29 c49,
   ok_some rfl Try.func30 c50,
   ok_some rfl Try.func31 c51,
   ok_none rfl,
   ok_none rfl,
   ok_none rfl,
   ok_none rfl,
   ok_none rfl,
   ok_none rfl,
   ok_none rfl,
   ok_none rfl,
   ok_none rfl,
   ok_none rfl,
   ok_none rfl,
   ok_none rfl,
   ok_none rfl,
   ok_none rfl,
   ok_none rfl,
   ok_none rfl, trivial⟩
theorem hprog : HProg Try.prog rn (DJ Try.prog rn) N := hprog_of all rfl
theorem mixed : Try.prog.follows .mixedOrders = true := by kernel_rfl
end Camp.S
