/- Functions of the program, as the machine runs them. Printed by a program of mine (ncode.py). -/
import Derived.Test.YtlojpagbcdpjmaaEngF

set_option linter.unnecessarySimpa false
set_option linter.unusedVariables false
set_option linter.unusedSimpArgs false
set_option linter.unusedSectionVars false
/-! CnPar -/
namespace Camp
open Go
def bs (l : List UInt8) : ByteArray := ⟨⟨l⟩⟩
/-- campanile/campanilelaw14.ParentsPlays -/
def n52 : NF := ⟨136, [8],
 .seq (.region [
  ⟨(some 8), (.mov (.c (.c (.bool false)))), none⟩])
 (.seq (.kill [0, 1, 2, 3] 0) (.seq (.region [
  ⟨(some 21), (.mov (.t 0)), none⟩,
  ⟨(some 22), (.mov (.t 1)), none⟩,
  ⟨(some 23), (.call 53 [(.t 21), (.t 22)]), none⟩,
  ⟨(some 24), (.mov (.t 0)), none⟩,
  ⟨(some 25), (.mov (.t 1)), none⟩,
  ⟨(some 26), (.call 54 [(.t 24), (.t 25)]), none⟩,
  ⟨(some 9), (.mov (.t 23)), none⟩,
  ⟨(some 10), (.mov (.t 26)), none⟩])
 (.seq (.kill [2, 3, 9, 10] 0) (.seq (.seq (.region [
  ⟨(some 27), (.mov (.t 9)), none⟩,
  ⟨(some 28), (.bin .neq .ptr (.t 27) (.c (.c .nilp))), none⟩,
  ⟨(some 29), (.mov (.t 10)), none⟩,
  ⟨(some 30), (.bin .neq .ptr (.t 29) (.c (.c .nilp))), none⟩,
  ⟨(some 31), (.bin .neq .bool (.t 28) (.t 30)), none⟩])
 (.seq (.kill [2, 3, 9, 10, 31] 0) (.cond (.t 31)
 (.seq (.region [
   ⟨(some 8), (.mov (.c (.c (.bool false)))), none⟩])
  (.ret))
 (.skip))))
 (.seq (.kill [2, 3, 9, 10] 0) (.seq (.seq (.region [
  ⟨(some 32), (.mov (.t 10)), none⟩,
  ⟨(some 33), (.bin .eql .ptr (.t 32) (.c (.c .nilp))), none⟩])
 (.seq (.kill [2, 3, 9, 10, 33] 0) (.cond (.t 33)
 (.seq (.region [
   ⟨(some 34), (.call 55 []), none⟩,
   ⟨(some 8), (.mov (.t 34)), none⟩])
  (.ret))
 (.skip))))
 (.seq (.kill [2, 3, 9, 10] 0) (.seq (.seq (.region [
  ⟨(some 35), (.mov (.t 2)), none⟩,
  ⟨(some 36), (.len .sl (.t 35)), none⟩,
  ⟨(some 37), (.mov (.c (.c (.int .i64 0)))), none⟩])
 (.seq (.kill [3, 9, 10, 35, 36, 37] 0) (.block 0 (.loop (.seq (.kill [3, 9, 10, 35, 36, 37] 0) (.seq (.region [
   ⟨(some 38), (.bin .lss .num (.t 37) (.t 36)), none⟩])
  (.seq (.kill [3, 9, 10, 35, 36, 37, 38] 0) (.seq (.cond (.t 38)
  (.skip)
  (.exit 0))
  (.seq (.kill [3, 9, 10, 35, 36, 37] 0) (.seq (.block 1 (.seq (.region [
   ⟨(some 39), (.mov (.t 37)), none⟩,
   ⟨(some 40), (.iaddr 5 (.t 35) (.t 37)), none⟩,
   ⟨(some 41), (.load (some 5) (.t 40)), none⟩,
   ⟨(some 12), (.box true 5 (.c (.agg [(.bool false), (.int .i64 0), (.int .i64 0), (.int .i64 0), (.int .i64 0)]))), none⟩,
   ⟨(some 11), (.mov (.t 39)), none⟩,
   ⟨none, (.store 5 (.t 12) (.t 41)), none⟩])
  (.seq (.kill [3, 9, 10, 11, 12, 35, 36, 37] 1) (.seq (.seq (.region [
   ⟨(some 42), (.mov (.t 11)), none⟩,
   ⟨(some 43), (.bin .geq .num (.t 42) (.c (.c (.int .i64 300)))), none⟩])
  (.seq (.kill [3, 9, 10, 12, 35, 36, 37, 43] 1) (.cond (.t 43)
  (.exit 0)
  (.skip))))
  (.seq (.kill [3, 9, 10, 12, 35, 36, 37] 1) (.seq (.seq (.region [
   ⟨(some 44), (.faddr 0 (.t 12)), none⟩,
   ⟨(some 45), (.load none (.t 44)), none⟩])
  (.seq (.kill [3, 9, 10, 12, 35, 36, 37, 45] 1) (.cond (.t 45)
  (.seq (.draw 0 [
    ⟨0, none, ⟨(some 46), (.mov (.t 9)), none⟩, []⟩,
    ⟨1, none, ⟨(some 47), (.faddr 3 (.t 12)), none⟩, []⟩,
    ⟨2, none, ⟨(some 48), (.load none (.t 47)), none⟩, []⟩,
    ⟨3, none, ⟨(some 49), (.faddr 4 (.t 12)), none⟩, []⟩,
    ⟨4, none, ⟨(some 50), (.load none (.t 49)), none⟩, []⟩,
    ⟨6, none, ⟨(some 52), (.mov (.t 10)), none⟩, []⟩,
    ⟨7, none, ⟨(some 53), (.faddr 3 (.t 12)), none⟩, []⟩,
    ⟨8, none, ⟨(some 54), (.load none (.t 53)), none⟩, []⟩,
    ⟨9, none, ⟨(some 55), (.faddr 4 (.t 12)), none⟩, []⟩,
    ⟨10, none, ⟨(some 56), (.load none (.t 55)), none⟩, []⟩,
    ⟨5, none, ⟨(some 51), (.call 56 [(.t 46), (.t 48), (.t 50)]), none⟩, [(8, ⟨(some 54), (.load none (.t 53)), none⟩), (10, ⟨(some 56), (.load none (.t 55)), none⟩)]⟩,
    ⟨11, none, ⟨(some 57), (.call 57 [(.t 52), (.t 54), (.t 56)]), none⟩, []⟩,
    ⟨12, none, ⟨(some 58), (.call 13 [(.t 51), (.t 57)]), none⟩, []⟩,
    ⟨13, none, ⟨(some 59), (.un .not (.t 58)), none⟩, []⟩])
   (.seq (.kill [3, 9, 10, 35, 36, 37, 59] 0) (.cond (.t 59)
   (.seq (.region [
     ⟨(some 8), (.mov (.c (.c (.bool false)))), none⟩])
    (.ret))
   (.skip))))
  (.seq (.draw 0 [
    ⟨0, none, ⟨(some 60), (.mov (.t 9)), none⟩, []⟩,
    ⟨1, none, ⟨(some 61), (.faddr 1 (.t 12)), none⟩, []⟩,
    ⟨2, none, ⟨(some 62), (.load none (.t 61)), none⟩, []⟩,
    ⟨3, none, ⟨(some 63), (.faddr 2 (.t 12)), none⟩, []⟩,
    ⟨4, none, ⟨(some 64), (.load none (.t 63)), none⟩, []⟩,
    ⟨5, none, ⟨(some 65), (.faddr 3 (.t 12)), none⟩, []⟩,
    ⟨6, none, ⟨(some 66), (.load none (.t 65)), none⟩, []⟩,
    ⟨8, none, ⟨(some 68), (.mov (.t 10)), none⟩, []⟩,
    ⟨9, none, ⟨(some 69), (.faddr 1 (.t 12)), none⟩, []⟩,
    ⟨10, none, ⟨(some 70), (.load none (.t 69)), none⟩, []⟩,
    ⟨11, none, ⟨(some 71), (.faddr 2 (.t 12)), none⟩, []⟩,
    ⟨12, none, ⟨(some 72), (.load none (.t 71)), none⟩, []⟩,
    ⟨13, none, ⟨(some 73), (.faddr 3 (.t 12)), none⟩, []⟩,
    ⟨14, none, ⟨(some 74), (.load none (.t 73)), none⟩, []⟩,
    ⟨7, none, ⟨(some 67), (.call 58 [(.t 60), (.t 62), (.t 64), (.t 66)]), none⟩, [(10, ⟨(some 70), (.load none (.t 69)), none⟩), (12, ⟨(some 72), (.load none (.t 71)), none⟩), (14, ⟨(some 74), (.load none (.t 73)), none⟩)]⟩,
    ⟨15, none, ⟨(some 75), (.call 59 [(.t 68), (.t 70), (.t 72), (.t 74)]), none⟩, []⟩,
    ⟨16, none, ⟨(some 76), (.bin .neq .bool (.t 67) (.t 75)), none⟩, []⟩])
   (.seq (.kill [3, 9, 10, 35, 36, 37, 76] 0) (.cond (.t 76)
   (.seq (.region [
     ⟨(some 8), (.mov (.c (.c (.bool false)))), none⟩])
    (.ret))
   (.skip)))))))
  (.seq (.kill [3, 9, 10, 35, 36, 37] 0) (.seq (.region [
   ⟨(some 78), (.mov (.t 9)), none⟩,
   ⟨(some 79), (.call 60 [(.t 78)]), none⟩,
   ⟨(some 77), (.mov (.t 79)), none⟩,
   ⟨(some 80), (.ext (.t 77) 0), none⟩,
   ⟨(some 81), (.ext (.t 77) 1), none⟩,
   ⟨(some 13), (.mov (.t 80)), none⟩,
   ⟨(some 14), (.mov (.t 81)), none⟩])
  (.seq (.kill [3, 9, 10, 13, 14, 35, 36, 37] 0) (.seq (.region [
   ⟨(some 83), (.mov (.t 10)), none⟩,
   ⟨(some 84), (.call 61 [(.t 83)]), none⟩,
   ⟨(some 82), (.mov (.t 84)), none⟩,
   ⟨(some 85), (.ext (.t 82) 0), none⟩,
   ⟨(some 86), (.ext (.t 82) 1), none⟩,
   ⟨(some 15), (.mov (.t 85)), none⟩,
   ⟨(some 16), (.mov (.t 86)), none⟩])
  (.seq (.kill [3, 9, 10, 13, 14, 15, 16, 35, 36, 37] 0) (.seq (.region [
   ⟨(some 88), (.mov (.t 9)), none⟩,
   ⟨(some 89), (.mov (.t 3)), none⟩,
   ⟨(some 90), (.call 62 [(.t 88), (.t 89)]), none⟩,
   ⟨(some 87), (.mov (.t 90)), none⟩,
   ⟨(some 91), (.ext (.t 87) 0), none⟩,
   ⟨(some 92), (.ext (.t 87) 1), none⟩,
   ⟨(some 17), (.mov (.t 91)), none⟩,
   ⟨(some 18), (.mov (.t 92)), none⟩])
  (.seq (.kill [3, 9, 10, 13, 14, 15, 16, 17, 18, 35, 36, 37] 0) (.seq (.region [
   ⟨(some 94), (.mov (.t 10)), none⟩,
   ⟨(some 95), (.mov (.t 3)), none⟩,
   ⟨(some 96), (.call 63 [(.t 94), (.t 95)]), none⟩,
   ⟨(some 93), (.mov (.t 96)), none⟩,
   ⟨(some 97), (.ext (.t 93) 0), none⟩,
   ⟨(some 98), (.ext (.t 93) 1), none⟩,
   ⟨(some 19), (.mov (.t 97)), none⟩,
   ⟨(some 20), (.mov (.t 98)), none⟩])
  (.seq (.kill [3, 9, 10, 13, 14, 15, 16, 17, 18, 19, 20, 35, 36, 37] 0) (.seq (.draw 0 [
   ⟨0, none, ⟨(some 99), (.mov (.t 13)), none⟩, []⟩,
   ⟨1, none, ⟨(some 100), (.mov (.t 15)), none⟩, []⟩,
   ⟨2, none, ⟨(some 101), (.bin .neq .num (.t 99) (.t 100)), none⟩, []⟩,
   ⟨3, none, ⟨(some 102), (.mov (.t 101)), none⟩, []⟩,
   ⟨4, none, ⟨(some 103), (.mov (.t 14)), (some (102, false))⟩, []⟩,
   ⟨5, none, ⟨(some 104), (.mov (.t 16)), (some (102, false))⟩, []⟩,
   ⟨6, none, ⟨(some 105), (.bin .neq .bool (.t 103) (.t 104)), (some (102, false))⟩, []⟩,
   ⟨7, none, ⟨(some 106), (.pick (.t 102) (.c (.c (.bool true))) (.t 105)), none⟩, []⟩,
   ⟨8, none, ⟨(some 107), (.mov (.t 106)), none⟩, []⟩,
   ⟨9, none, ⟨(some 108), (.mov (.t 17)), (some (107, false))⟩, []⟩,
   ⟨10, none, ⟨(some 109), (.mov (.t 19)), (some (107, false))⟩, []⟩,
   ⟨11, none, ⟨(some 110), (.bin .neq .num (.t 108) (.t 109)), (some (107, false))⟩, []⟩,
   ⟨12, none, ⟨(some 111), (.pick (.t 107) (.c (.c (.bool true))) (.t 110)), none⟩, []⟩,
   ⟨13, none, ⟨(some 112), (.mov (.t 111)), none⟩, []⟩,
   ⟨14, none, ⟨(some 113), (.mov (.t 18)), (some (112, false))⟩, []⟩,
   ⟨15, none, ⟨(some 114), (.mov (.t 20)), (some (112, false))⟩, []⟩,
   ⟨16, none, ⟨(some 115), (.bin .neq .bool (.t 113) (.t 114)), (some (112, false))⟩, []⟩,
   ⟨17, none, ⟨(some 116), (.pick (.t 112) (.c (.c (.bool true))) (.t 115)), none⟩, []⟩,
   ⟨18, none, ⟨(some 117), (.mov (.t 116)), none⟩, []⟩,
   ⟨19, none, ⟨(some 118), (.mov (.t 9)), (some (117, false))⟩, []⟩,
   ⟨21, none, ⟨(some 120), (.mov (.t 10)), (some (117, false))⟩, []⟩,
   ⟨20, none, ⟨(some 119), (.call 64 [(.t 118)]), (some (117, false))⟩, []⟩,
   ⟨22, none, ⟨(some 121), (.call 65 [(.t 120)]), (some (117, false))⟩, []⟩,
   ⟨23, none, ⟨(some 122), (.call 13 [(.t 119), (.t 121)]), (some (117, false))⟩, []⟩,
   ⟨24, none, ⟨(some 123), (.un .not (.t 122)), (some (117, false))⟩, []⟩,
   ⟨25, none, ⟨(some 124), (.pick (.t 117) (.c (.c (.bool true))) (.t 123)), none⟩, []⟩,
   ⟨26, none, ⟨(some 125), (.mov (.t 124)), none⟩, []⟩,
   ⟨27, none, ⟨(some 126), (.mov (.t 9)), (some (125, false))⟩, []⟩,
   ⟨29, none, ⟨(some 128), (.mov (.t 10)), (some (125, false))⟩, []⟩,
   ⟨30, none, ⟨(some 129), (.nilck (.t 128)), (some (125, false))⟩, []⟩,
   ⟨31, none, ⟨(some 130), (.faddr 1 (.t 129)), (some (125, false))⟩, []⟩,
   ⟨32, none, ⟨(some 131), (.load none (.t 130)), (some (125, false))⟩, []⟩,
   ⟨28, none, ⟨(some 127), (.call 66 [(.t 126)]), (some (125, false))⟩, [(32, ⟨(some 131), (.load none (.t 130)), (some (125, false))⟩)]⟩,
   ⟨33, none, ⟨(some 132), (.bin .neq .num (.t 127) (.t 131)), (some (125, false))⟩, []⟩,
   ⟨34, none, ⟨(some 133), (.pick (.t 125) (.c (.c (.bool true))) (.t 132)), none⟩, []⟩])
  (.seq (.kill [3, 9, 10, 35, 36, 37, 133] 0) (.cond (.t 133)
  (.seq (.region [
    ⟨(some 8), (.mov (.c (.c (.bool false)))), none⟩])
   (.ret))
  (.skip)))))))))))))))))))
  (.seq (.kill [3, 9, 10, 35, 36, 37] 0) (.region [
   ⟨(some 134), (.bin .add .num (.t 37) (.c (.c (.int .i64 1)))), none⟩,
   ⟨(some 37), (.mov (.t 134)), none⟩]))))))))))))
 (.seq (.kill [] 0) (.seq (.region [
  ⟨(some 135), (.call 55 []), none⟩,
  ⟨(some 8), (.mov (.t 135)), none⟩])
 (.ret)))))))))))⟩
/-- campanile/campanilelaw14.ParentsNil -/
def n67 : NF := ⟨61, [2],
 .seq (.region [
  ⟨(some 1), (.box true 5 (.t 0)), none⟩,
  ⟨(some 2), (.mov (.c (.c (.bool false)))), none⟩])
 (.seq (.kill [1] 1) (.seq (.region [
  ⟨(some 3), (.mov (.c (.c .nilp))), none⟩])
 (.seq (.kill [1, 3] 1) (.seq (.region [
  ⟨(some 9), (.mov (.t 3)), none⟩,
  ⟨(some 10), (.call 60 [(.t 9)]), none⟩,
  ⟨(some 8), (.mov (.t 10)), none⟩,
  ⟨(some 11), (.ext (.t 8) 0), none⟩,
  ⟨(some 12), (.ext (.t 8) 1), none⟩,
  ⟨(some 4), (.mov (.t 11)), none⟩,
  ⟨(some 5), (.mov (.t 12)), none⟩])
 (.seq (.kill [1, 3, 5] 1) (.seq (.region [
  ⟨(some 14), (.mov (.t 3)), none⟩,
  ⟨(some 15), (.faddr 1 (.t 1)), none⟩,
  ⟨(some 16), (.load none (.t 15)), none⟩,
  ⟨(some 17), (.call 62 [(.t 14), (.t 16)]), none⟩,
  ⟨(some 13), (.mov (.t 17)), none⟩,
  ⟨(some 18), (.ext (.t 13) 0), none⟩,
  ⟨(some 19), (.ext (.t 13) 1), none⟩,
  ⟨(some 6), (.mov (.t 18)), none⟩,
  ⟨(some 7), (.mov (.t 19)), none⟩])
 (.seq (.kill [1, 3, 5, 7] 1) (.seq (.region [
  ⟨(some 20), (.mov (.t 3)), none⟩,
  ⟨(some 21), (.faddr 1 (.t 1)), none⟩,
  ⟨(some 22), (.load none (.t 21)), none⟩,
  ⟨(some 23), (.faddr 2 (.t 1)), none⟩,
  ⟨(some 24), (.load none (.t 23)), none⟩,
  ⟨(some 25), (.faddr 3 (.t 1)), none⟩,
  ⟨(some 26), (.load none (.t 25)), none⟩,
  ⟨(some 27), (.call 58 [(.t 20), (.t 22), (.t 24), (.t 26)]), none⟩,
  ⟨(some 28), (.un .not (.t 27)), none⟩,
  ⟨(some 29), (.mov (.t 28)), none⟩,
  ⟨(some 30), (.mov (.t 3)), (some (29, true))⟩,
  ⟨(some 31), (.faddr 3 (.t 1)), (some (29, true))⟩,
  ⟨(some 32), (.load none (.t 31)), (some (29, true))⟩,
  ⟨(some 33), (.faddr 4 (.t 1)), (some (29, true))⟩,
  ⟨(some 34), (.load none (.t 33)), (some (29, true))⟩,
  ⟨(some 35), (.call 56 [(.t 30), (.t 32), (.t 34)]), (some (29, true))⟩,
  ⟨(some 36), (.len .sl (.t 35)), (some (29, true))⟩,
  ⟨(some 37), (.bin .eql .num (.t 36) (.c (.c (.int .i64 0)))), (some (29, true))⟩,
  ⟨(some 38), (.pick (.t 29) (.t 37) (.c (.c (.bool false)))), none⟩,
  ⟨(some 39), (.mov (.t 38)), none⟩,
  ⟨(some 40), (.mov (.t 5)), (some (39, true))⟩,
  ⟨(some 41), (.un .not (.t 40)), (some (39, true))⟩,
  ⟨(some 42), (.pick (.t 39) (.t 41) (.c (.c (.bool false)))), none⟩,
  ⟨(some 43), (.mov (.t 42)), none⟩,
  ⟨(some 44), (.mov (.t 7)), (some (43, true))⟩,
  ⟨(some 45), (.un .not (.t 44)), (some (43, true))⟩,
  ⟨(some 46), (.pick (.t 43) (.t 45) (.c (.c (.bool false)))), none⟩,
  ⟨(some 47), (.mov (.t 46)), none⟩,
  ⟨(some 48), (.mov (.t 3)), (some (47, true))⟩,
  ⟨(some 49), (.call 64 [(.t 48)]), (some (47, true))⟩,
  ⟨(some 50), (.len .sl (.t 49)), (some (47, true))⟩,
  ⟨(some 51), (.bin .eql .num (.t 50) (.c (.c (.int .i64 0)))), (some (47, true))⟩,
  ⟨(some 52), (.pick (.t 47) (.t 51) (.c (.c (.bool false)))), none⟩,
  ⟨(some 53), (.mov (.t 52)), none⟩,
  ⟨(some 54), (.mov (.t 3)), (some (53, true))⟩,
  ⟨(some 55), (.call 66 [(.t 54)]), (some (53, true))⟩,
  ⟨(some 56), (.bin .eql .num (.t 55) (.c (.c (.int .i64 0)))), (some (53, true))⟩,
  ⟨(some 57), (.pick (.t 53) (.t 56) (.c (.c (.bool false)))), none⟩,
  ⟨(some 58), (.mov (.t 57)), none⟩,
  ⟨(some 59), (.call 55 []), (some (58, true))⟩,
  ⟨(some 60), (.pick (.t 58) (.t 59) (.c (.c (.bool false)))), none⟩,
  ⟨(some 2), (.mov (.t 60)), none⟩])
 (.ret)))))))))⟩
/-- campanile/campanilelaw14.ParentsFall -/
def n68 : NF := ⟨123, [6],
 .seq (.region [
  ⟨(some 6), (.mov (.c (.c (.bool false)))), none⟩])
 (.seq (.kill [0, 1, 2] 0) (.seq (.region [
  ⟨(some 19), (.mov (.t 0)), none⟩,
  ⟨(some 20), (.conv (.toInt .u64) (.t 19)), none⟩,
  ⟨(some 21), (.bin .rem .num (.t 20) (.c (.c (.int .u64 16)))), none⟩,
  ⟨(some 22), (.conv (.toInt .i64) (.t 21)), none⟩,
  ⟨(some 23), (.mov (.t 1)), none⟩,
  ⟨(some 24), (.conv (.toInt .u64) (.t 23)), none⟩,
  ⟨(some 25), (.bin .rem .num (.t 24) (.c (.c (.int .u64 256)))), none⟩,
  ⟨(some 26), (.conv (.toInt .i64) (.t 25)), none⟩,
  ⟨(some 0), (.mov (.t 22)), none⟩,
  ⟨(some 1), (.mov (.t 26)), none⟩])
 (.seq (.kill [0, 1, 2] 0) (.seq (.region [
  ⟨(some 27), (.mov (.t 0)), none⟩,
  ⟨(some 28), (.mov (.t 1)), none⟩,
  ⟨(some 29), (.call 53 [(.t 27), (.t 28)]), none⟩,
  ⟨(some 7), (.mov (.t 29)), none⟩])
 (.seq (.kill [0, 1, 2, 7] 0) (.seq (.seq (.region [
  ⟨(some 30), (.mov (.t 7)), none⟩,
  ⟨(some 31), (.bin .eql .ptr (.t 30) (.c (.c .nilp))), none⟩])
 (.seq (.kill [0, 1, 2, 7, 31] 0) (.cond (.t 31)
 (.seq (.region [
   ⟨(some 6), (.mov (.c (.c (.bool false)))), none⟩])
  (.ret))
 (.skip))))
 (.seq (.kill [0, 1, 2, 7] 0) (.seq (.region [
  ⟨(some 32), (.mov (.t 1)), none⟩,
  ⟨(some 8), (.mov (.t 32)), none⟩])
 (.seq (.kill [0, 2, 7, 8] 0) (.seq (.seq (.region [
  ⟨(some 33), (.mov (.t 2)), none⟩,
  ⟨(some 34), (.len .sl (.t 33)), none⟩,
  ⟨(some 35), (.mov (.c (.c (.int .i64 0)))), none⟩])
 (.seq (.kill [0, 7, 8, 33, 34, 35] 0) (.block 0 (.loop (.seq (.kill [0, 7, 8, 33, 34, 35] 0) (.seq (.region [
   ⟨(some 36), (.bin .lss .num (.t 35) (.t 34)), none⟩])
  (.seq (.kill [0, 7, 8, 33, 34, 35, 36] 0) (.seq (.cond (.t 36)
  (.skip)
  (.exit 0))
  (.seq (.kill [0, 7, 8, 33, 34, 35] 0) (.seq (.block 1 (.seq (.region [
   ⟨(some 37), (.mov (.t 35)), none⟩,
   ⟨(some 38), (.iaddr 5 (.t 33) (.t 35)), none⟩,
   ⟨(some 39), (.load (some 5) (.t 38)), none⟩,
   ⟨(some 10), (.box true 5 (.c (.agg [(.bool false), (.int .i64 0), (.int .i64 0), (.int .i64 0), (.int .i64 0)]))), none⟩,
   ⟨(some 9), (.mov (.t 37)), none⟩,
   ⟨none, (.store 5 (.t 10) (.t 39)), none⟩])
  (.seq (.kill [0, 7, 8, 9, 10, 33, 34, 35] 1) (.seq (.seq (.region [
   ⟨(some 40), (.mov (.t 9)), none⟩,
   ⟨(some 41), (.bin .geq .num (.t 40) (.c (.c (.int .i64 300)))), none⟩])
  (.seq (.kill [0, 7, 8, 10, 33, 34, 35, 41] 1) (.cond (.t 41)
  (.exit 0)
  (.skip))))
  (.seq (.kill [0, 7, 8, 10, 33, 34, 35] 1) (.seq (.seq (.region [
   ⟨(some 42), (.faddr 0 (.t 10)), none⟩,
   ⟨(some 43), (.load none (.t 42)), none⟩])
  (.seq (.kill [0, 7, 8, 10, 33, 34, 35, 43] 1) (.cond (.t 43)
  (.region [
    ⟨(some 44), (.mov (.t 7)), none⟩,
    ⟨(some 45), (.faddr 3 (.t 10)), none⟩,
    ⟨(some 46), (.load none (.t 45)), none⟩,
    ⟨(some 47), (.faddr 4 (.t 10)), none⟩,
    ⟨(some 48), (.load none (.t 47)), none⟩,
    ⟨(some 49), (.call 56 [(.t 44), (.t 46), (.t 48)]), none⟩])
  (.region [
    ⟨(some 50), (.mov (.t 7)), none⟩,
    ⟨(some 51), (.faddr 1 (.t 10)), none⟩,
    ⟨(some 52), (.load none (.t 51)), none⟩,
    ⟨(some 53), (.faddr 2 (.t 10)), none⟩,
    ⟨(some 54), (.load none (.t 53)), none⟩,
    ⟨(some 55), (.faddr 3 (.t 10)), none⟩,
    ⟨(some 56), (.load none (.t 55)), none⟩,
    ⟨(some 57), (.call 58 [(.t 50), (.t 52), (.t 54), (.t 56)]), none⟩]))))
  (.seq (.kill [0, 7, 8, 33, 34, 35] 0) (.seq (.region [
   ⟨(some 58), (.mov (.t 7)), none⟩,
   ⟨(some 59), (.call 64 [(.t 58)]), none⟩,
   ⟨(some 11), (.mov (.t 59)), none⟩])
  (.seq (.kill [0, 7, 8, 11, 33, 34, 35] 0) (.seq (.seq (.region [
   ⟨(some 60), (.mov (.t 7)), none⟩,
   ⟨(some 61), (.call 66 [(.t 60)]), none⟩,
   ⟨(some 62), (.mov (.t 8)), none⟩,
   ⟨(some 63), (.bin .gtr .num (.t 61) (.t 62)), none⟩,
   ⟨(some 64), (.mov (.t 63)), none⟩,
   ⟨(some 65), (.mov (.t 11)), (some (64, false))⟩,
   ⟨(some 66), (.len .sl (.t 65)), (some (64, false))⟩,
   ⟨(some 67), (.bin .gtr .num (.t 66) (.c (.c (.int .i64 3)))), (some (64, false))⟩,
   ⟨(some 68), (.pick (.t 64) (.c (.c (.bool true))) (.t 67)), none⟩])
  (.seq (.kill [0, 7, 11, 33, 34, 35, 68] 0) (.cond (.t 68)
  (.seq (.region [
    ⟨(some 6), (.mov (.c (.c (.bool false)))), none⟩])
   (.ret))
  (.skip))))
  (.seq (.kill [0, 7, 11, 33, 34, 35] 0) (.seq (.region [
   ⟨(some 69), (.mov (.t 7)), none⟩,
   ⟨(some 70), (.call 66 [(.t 69)]), none⟩,
   ⟨(some 8), (.mov (.t 70)), none⟩])
  (.seq (.kill [0, 7, 8, 11, 33, 34, 35] 0) (.seq (.region [
   ⟨(some 12), (.mov (.c (.c (.int .i64 (-1))))), none⟩])
  (.seq (.kill [0, 7, 8, 11, 12, 33, 34, 35] 0) (.seq (.region [
   ⟨(some 71), (.mov (.t 11)), none⟩,
   ⟨(some 72), (.len .sl (.t 71)), none⟩,
   ⟨(some 73), (.mov (.c (.c (.int .i64 0)))), none⟩])
  (.seq (.kill [0, 7, 8, 12, 33, 34, 35, 71, 72, 73] 0) (.block 2 (.loop (.seq (.kill [0, 7, 8, 12, 33, 34, 35, 71, 72, 73] 0) (.seq (.region [
    ⟨(some 74), (.bin .lss .num (.t 73) (.t 72)), none⟩])
   (.seq (.kill [0, 7, 8, 12, 33, 34, 35, 71, 72, 73, 74] 0) (.seq (.cond (.t 74)
   (.skip)
   (.exit 2))
   (.seq (.kill [0, 7, 8, 12, 33, 34, 35, 71, 72, 73] 0) (.seq (.block 3 (.seq (.region [
    ⟨(some 75), (.mov (.t 73)), none⟩,
    ⟨(some 76), (.iaddr 1 (.t 71) (.t 73)), none⟩,
    ⟨(some 77), (.load none (.t 76)), none⟩,
    ⟨(some 13), (.mov (.t 75)), none⟩,
    ⟨(some 14), (.mov (.t 77)), none⟩])
   (.seq (.kill [0, 7, 8, 12, 13, 14, 33, 34, 35, 71, 72, 73] 0) (.seq (.region [
    ⟨(some 79), (.mov (.t 7)), none⟩,
    ⟨(some 80), (.mov (.t 14)), none⟩,
    ⟨(some 81), (.call 62 [(.t 79), (.t 80)]), none⟩,
    ⟨(some 78), (.mov (.t 81)), none⟩,
    ⟨(some 82), (.ext (.t 78) 0), none⟩,
    ⟨(some 83), (.ext (.t 78) 1), none⟩,
    ⟨(some 15), (.mov (.t 82)), none⟩,
    ⟨(some 16), (.mov (.t 83)), none⟩])
   (.seq (.kill [0, 7, 8, 12, 13, 14, 15, 16, 33, 34, 35, 71, 72, 73] 0) (.seq (.region [
    ⟨(some 85), (.mov (.t 7)), none⟩,
    ⟨(some 86), (.call 60 [(.t 85)]), none⟩,
    ⟨(some 84), (.mov (.t 86)), none⟩,
    ⟨(some 87), (.ext (.t 84) 0), none⟩,
    ⟨(some 88), (.ext (.t 84) 1), none⟩,
    ⟨(some 17), (.mov (.t 87)), none⟩,
    ⟨(some 18), (.mov (.t 88)), none⟩])
   (.seq (.kill [0, 7, 8, 12, 13, 14, 15, 16, 17, 18, 33, 34, 35, 71, 72, 73] 0) (.seq (.seq (.region [
    ⟨(some 89), (.mov (.t 16)), none⟩,
    ⟨(some 90), (.un .not (.t 89)), none⟩,
    ⟨(some 91), (.mov (.t 90)), none⟩,
    ⟨(some 92), (.mov (.t 18)), (some (91, false))⟩,
    ⟨(some 93), (.un .not (.t 92)), (some (91, false))⟩,
    ⟨(some 94), (.pick (.t 91) (.c (.c (.bool true))) (.t 93)), none⟩,
    ⟨(some 95), (.mov (.t 94)), none⟩,
    ⟨(some 96), (.mov (.t 15)), (some (95, false))⟩,
    ⟨(some 97), (.mov (.t 8)), (some (95, false))⟩,
    ⟨(some 98), (.bin .geq .num (.t 96) (.t 97)), (some (95, false))⟩,
    ⟨(some 99), (.pick (.t 95) (.c (.c (.bool true))) (.t 98)), none⟩,
    ⟨(some 100), (.mov (.t 99)), none⟩,
    ⟨(some 101), (.mov (.t 15)), (some (100, false))⟩,
    ⟨(some 102), (.mov (.t 12)), (some (100, false))⟩,
    ⟨(some 103), (.bin .lss .num (.t 101) (.t 102)), (some (100, false))⟩,
    ⟨(some 104), (.pick (.t 100) (.c (.c (.bool true))) (.t 103)), none⟩,
    ⟨(some 105), (.mov (.t 104)), none⟩,
    ⟨(some 106), (.mov (.t 14)), (some (105, false))⟩,
    ⟨(some 107), (.mov (.t 0)), (some (105, false))⟩,
    ⟨(some 108), (.bin .eql .num (.t 106) (.t 107)), (some (105, false))⟩,
    ⟨(some 109), (.pick (.t 105) (.c (.c (.bool true))) (.t 108)), none⟩,
    ⟨(some 110), (.mov (.t 109)), none⟩,
    ⟨(some 111), (.mov (.t 13)), (some (110, false))⟩,
    ⟨(some 112), (.bin .eql .num (.t 111) (.c (.c (.int .i64 0)))), (some (110, false))⟩,
    ⟨(some 113), (.mov (.t 112)), (some (110, false))⟩,
    ⟨(some 114), (.mov (.t 17)), (some (113, true))⟩,
    ⟨(some 115), (.mov (.t 14)), (some (113, true))⟩,
    ⟨(some 116), (.bin .neq .num (.t 114) (.t 115)), (some (113, true))⟩,
    ⟨(some 117), (.pick (.t 113) (.t 116) (.c (.c (.bool false)))), (some (110, false))⟩,
    ⟨(some 118), (.pick (.t 110) (.c (.c (.bool true))) (.t 117)), none⟩])
   (.seq (.kill [0, 7, 8, 15, 33, 34, 35, 71, 72, 73, 118] 0) (.cond (.t 118)
   (.seq (.region [
     ⟨(some 6), (.mov (.c (.c (.bool false)))), none⟩])
    (.ret))
   (.skip))))
   (.seq (.kill [0, 7, 8, 15, 33, 34, 35, 71, 72, 73] 0) (.region [
    ⟨(some 119), (.mov (.t 15)), none⟩,
    ⟨(some 12), (.mov (.t 119)), none⟩]))))))))))
   (.seq (.kill [0, 7, 8, 12, 33, 34, 35, 71, 72, 73] 0) (.region [
    ⟨(some 120), (.bin .add .num (.t 73) (.c (.c (.int .i64 1)))), none⟩,
    ⟨(some 73), (.mov (.t 120)), none⟩])))))))))))))))))))))))))))
  (.seq (.kill [0, 7, 8, 33, 34, 35] 0) (.region [
   ⟨(some 121), (.bin .add .num (.t 35) (.c (.c (.int .i64 1)))), none⟩,
   ⟨(some 35), (.mov (.t 121)), none⟩]))))))))))))
 (.seq (.kill [] 0) (.seq (.region [
  ⟨(some 122), (.call 55 []), none⟩,
  ⟨(some 6), (.mov (.t 122)), none⟩])
 (.ret)))))))))))))⟩
/-- campanile/campanilelaw14.ParentsOld -/
def n69 : NF := ⟨79, [8],
 .seq (.region [
  ⟨(some 8), (.mov (.c (.c (.bool false)))), none⟩])
 (.seq (.kill [0, 1, 2, 3] 0) (.seq (.region [
  ⟨(some 13), (.mov (.t 3)), none⟩,
  ⟨(some 14), (.conv (.toInt .u64) (.t 13)), none⟩,
  ⟨(some 15), (.bin .rem .num (.t 14) (.c (.c (.int .u64 1000)))), none⟩,
  ⟨(some 16), (.conv (.toInt .i64) (.t 15)), none⟩,
  ⟨(some 17), (.mov (.t 2)), none⟩,
  ⟨(some 18), (.conv (.toInt .u64) (.t 17)), none⟩,
  ⟨(some 19), (.bin .rem .num (.t 18) (.c (.c (.int .u64 50)))), none⟩,
  ⟨(some 20), (.conv (.toInt .i64) (.t 19)), none⟩,
  ⟨(some 21), (.bin .add .num (.c (.c (.int .i64 1))) (.t 20)), none⟩,
  ⟨(some 3), (.mov (.t 16)), none⟩,
  ⟨(some 2), (.mov (.t 21)), none⟩])
 (.seq (.kill [0, 1, 2, 3] 0) (.seq (.region [
  ⟨(some 22), (.mov (.t 0)), none⟩,
  ⟨(some 23), (.conv (.toInt .u64) (.t 22)), none⟩,
  ⟨(some 24), (.bin .rem .num (.t 23) (.c (.c (.int .u64 100)))), none⟩,
  ⟨(some 25), (.conv (.toInt .i64) (.t 24)), none⟩,
  ⟨(some 26), (.mov (.t 1)), none⟩,
  ⟨(some 27), (.conv (.toInt .u64) (.t 26)), none⟩,
  ⟨(some 28), (.bin .rem .num (.t 27) (.c (.c (.int .u64 100)))), none⟩,
  ⟨(some 29), (.conv (.toInt .i64) (.t 28)), none⟩,
  ⟨(some 9), (.mov (.t 25)), none⟩,
  ⟨(some 10), (.mov (.t 29)), none⟩])
 (.seq (.kill [2, 3, 9, 10] 0) (.seq (.region [
  ⟨(some 30), (.call 53 [(.c (.c (.int .i64 9))), (.c (.c (.int .i64 200)))]), none⟩,
  ⟨(some 11), (.mov (.t 30)), none⟩])
 (.seq (.kill [2, 3, 9, 10, 11] 0) (.seq (.seq (.region [
  ⟨(some 31), (.mov (.t 11)), none⟩,
  ⟨(some 32), (.bin .eql .ptr (.t 31) (.c (.c .nilp))), none⟩,
  ⟨(some 33), (.mov (.t 32)), none⟩,
  ⟨(some 34), (.mov (.t 11)), (some (33, false))⟩,
  ⟨(some 35), (.mov (.t 9)), (some (33, false))⟩,
  ⟨(some 36), (.call 58 [(.t 34), (.c (.c (.int .i64 1))), (.c (.c (.int .i64 5))), (.t 35)]), (some (33, false))⟩,
  ⟨(some 37), (.un .not (.t 36)), (some (33, false))⟩,
  ⟨(some 38), (.pick (.t 33) (.c (.c (.bool true))) (.t 37)), none⟩,
  ⟨(some 39), (.mov (.t 38)), none⟩,
  ⟨(some 40), (.mov (.t 11)), (some (39, false))⟩,
  ⟨(some 41), (.mov (.t 10)), (some (39, false))⟩,
  ⟨(some 42), (.call 58 [(.t 40), (.c (.c (.int .i64 2))), (.c (.c (.int .i64 5))), (.t 41)]), (some (39, false))⟩,
  ⟨(some 43), (.un .not (.t 42)), (some (39, false))⟩,
  ⟨(some 44), (.pick (.t 39) (.c (.c (.bool true))) (.t 43)), none⟩])
 (.seq (.kill [2, 3, 9, 10, 11, 44] 0) (.cond (.t 44)
 (.seq (.region [
   ⟨(some 8), (.mov (.c (.c (.bool false)))), none⟩])
  (.ret))
 (.skip))))
 (.seq (.kill [2, 3, 9, 10, 11] 0) (.seq (.region [
  ⟨(some 12), (.mov (.c (.c .nils))), none⟩])
 (.seq (.kill [2, 3, 9, 10, 11, 12] 0) (.seq (.seq (.region [
  ⟨(some 45), (.mov (.t 3)), none⟩,
  ⟨(some 46), (.mov (.t 9)), none⟩,
  ⟨(some 47), (.bin .sub .num (.t 45) (.t 46)), none⟩,
  ⟨(some 48), (.mov (.t 2)), none⟩,
  ⟨(some 49), (.bin .geq .num (.t 47) (.t 48)), none⟩])
 (.seq (.kill [2, 3, 10, 11, 12, 49] 0) (.cond (.t 49)
 (.region [
   ⟨(some 50), (.mov (.t 12)), none⟩,
   ⟨(some 51), (.bslice true 1 1 [(.int .i64 0)] [(0, (1, (.c (.c (.int .i64 1)))))]), none⟩,
   ⟨(some 52), (.app 1 8 (.t 50) (.t 51)), none⟩,
   ⟨(some 12), (.mov (.t 52)), none⟩])
 (.skip))))
 (.seq (.kill [2, 3, 10, 11, 12] 0) (.seq (.seq (.region [
  ⟨(some 53), (.mov (.t 3)), none⟩,
  ⟨(some 54), (.mov (.t 10)), none⟩,
  ⟨(some 55), (.bin .sub .num (.t 53) (.t 54)), none⟩,
  ⟨(some 56), (.mov (.t 2)), none⟩,
  ⟨(some 57), (.bin .geq .num (.t 55) (.t 56)), none⟩])
 (.seq (.kill [2, 3, 11, 12, 57] 0) (.cond (.t 57)
 (.region [
   ⟨(some 58), (.mov (.t 12)), none⟩,
   ⟨(some 59), (.bslice true 1 1 [(.int .i64 0)] [(0, (1, (.c (.c (.int .i64 2)))))]), none⟩,
   ⟨(some 60), (.app 1 8 (.t 58) (.t 59)), none⟩,
   ⟨(some 12), (.mov (.t 60)), none⟩])
 (.skip))))
 (.seq (.kill [2, 3, 11, 12] 0) (.seq (.region [
  ⟨(some 61), (.mov (.t 11)), none⟩,
  ⟨(some 62), (.mov (.t 3)), none⟩,
  ⟨(some 63), (.mov (.t 2)), none⟩,
  ⟨(some 64), (.call 56 [(.t 61), (.t 62), (.t 63)]), none⟩,
  ⟨(some 65), (.mov (.t 12)), none⟩,
  ⟨(some 66), (.call 13 [(.t 64), (.t 65)]), none⟩,
  ⟨(some 67), (.mov (.t 66)), none⟩,
  ⟨(some 68), (.mov (.t 11)), (some (67, true))⟩,
  ⟨(some 69), (.call 64 [(.t 68)]), (some (67, true))⟩,
  ⟨(some 70), (.len .sl (.t 69)), (some (67, true))⟩,
  ⟨(some 71), (.mov (.t 12)), (some (67, true))⟩,
  ⟨(some 72), (.len .sl (.t 71)), (some (67, true))⟩,
  ⟨(some 73), (.bin .sub .num (.c (.c (.int .i64 2))) (.t 72)), (some (67, true))⟩,
  ⟨(some 74), (.bin .eql .num (.t 70) (.t 73)), (some (67, true))⟩,
  ⟨(some 75), (.pick (.t 67) (.t 74) (.c (.c (.bool false)))), none⟩,
  ⟨(some 76), (.mov (.t 75)), none⟩,
  ⟨(some 77), (.call 55 []), (some (76, true))⟩,
  ⟨(some 78), (.pick (.t 76) (.t 77) (.c (.c (.bool false)))), none⟩,
  ⟨(some 8), (.mov (.t 78)), none⟩])
 (.ret)))))))))))))))))⟩
/-- campanile/campanilelaw14.ParentsBest -/
def n70 : NF := ⟨110, [4],
 .seq (.region [
  ⟨(some 4), (.mov (.c (.c (.bool false)))), none⟩])
 (.seq (.kill [0, 1] 0) (.seq (.seq (.region [
  ⟨(some 16), (.mov (.t 0)), none⟩,
  ⟨(some 17), (.len .sl (.t 16)), none⟩,
  ⟨(some 18), (.bin .gtr .num (.t 17) (.c (.c (.int .i64 15)))), none⟩])
 (.seq (.kill [0, 1, 18] 0) (.cond (.t 18)
 (.seq (.region [
   ⟨(some 19), (.call 55 []), none⟩,
   ⟨(some 4), (.mov (.t 19)), none⟩])
  (.ret))
 (.skip))))
 (.seq (.kill [0, 1] 0) (.seq (.region [
  ⟨(some 20), (.mov (.t 1)), none⟩,
  ⟨(some 21), (.conv (.toInt .u64) (.t 20)), none⟩,
  ⟨(some 22), (.bin .rem .num (.t 21) (.c (.c (.int .u64 250)))), none⟩,
  ⟨(some 23), (.conv (.toInt .i64) (.t 22)), none⟩,
  ⟨(some 24), (.bin .add .num (.c (.c (.int .i64 1))) (.t 23)), none⟩,
  ⟨(some 1), (.mov (.t 24)), none⟩])
 (.seq (.kill [0, 1] 0) (.seq (.region [
  ⟨(some 25), (.mov (.t 1)), none⟩,
  ⟨(some 26), (.call 53 [(.c (.c (.int .i64 15))), (.t 25)]), none⟩,
  ⟨(some 5), (.mov (.t 26)), none⟩])
 (.seq (.kill [0, 1, 5] 0) (.seq (.seq (.region [
  ⟨(some 27), (.mov (.t 5)), none⟩,
  ⟨(some 28), (.bin .eql .ptr (.t 27) (.c (.c .nilp))), none⟩])
 (.seq (.kill [0, 1, 5, 28] 0) (.cond (.t 28)
 (.seq (.region [
   ⟨(some 4), (.mov (.c (.c (.bool false)))), none⟩])
  (.ret))
 (.skip))))
 (.seq (.kill [0, 1, 5] 0) (.seq (.region [
  ⟨(some 29), (.mov (.t 1)), none⟩,
  ⟨(some 6), (.mov (.t 29)), none⟩])
 (.seq (.kill [0, 5, 6] 0) (.seq (.seq (.region [
  ⟨(some 30), (.mov (.t 0)), none⟩,
  ⟨(some 31), (.len .sl (.t 30)), none⟩,
  ⟨(some 32), (.mov (.c (.c (.int .i64 0)))), none⟩])
 (.seq (.kill [0, 5, 6, 30, 31, 32] 0) (.block 0 (.loop (.seq (.kill [0, 5, 6, 30, 31, 32] 0) (.seq (.region [
   ⟨(some 33), (.bin .lss .num (.t 32) (.t 31)), none⟩])
  (.seq (.kill [0, 5, 6, 30, 31, 32, 33] 0) (.seq (.cond (.t 33)
  (.skip)
  (.exit 0))
  (.seq (.kill [0, 5, 6, 30, 31, 32] 0) (.seq (.block 1 (.seq (.region [
   ⟨(some 34), (.mov (.t 32)), none⟩,
   ⟨(some 35), (.iaddr 1 (.t 30) (.t 32)), none⟩,
   ⟨(some 36), (.load none (.t 35)), none⟩,
   ⟨(some 7), (.mov (.t 34)), none⟩,
   ⟨(some 8), (.mov (.t 36)), none⟩])
  (.seq (.kill [0, 5, 6, 7, 8, 30, 31, 32] 0) (.seq (.region [
   ⟨(some 37), (.mov (.t 8)), none⟩,
   ⟨(some 38), (.conv (.toInt .u64) (.t 37)), none⟩,
   ⟨(some 39), (.bin .rem .num (.t 38) (.c (.c (.int .u64 256)))), none⟩,
   ⟨(some 40), (.conv (.toInt .i64) (.t 39)), none⟩,
   ⟨(some 8), (.mov (.t 40)), none⟩])
  (.seq (.kill [0, 5, 6, 7, 8, 30, 31, 32] 0) (.seq (.region [
   ⟨(some 41), (.mov (.t 5)), none⟩,
   ⟨(some 42), (.mov (.t 7)), none⟩,
   ⟨(some 43), (.mov (.t 8)), none⟩,
   ⟨(some 44), (.call 58 [(.t 41), (.t 42), (.t 43), (.c (.c (.int .i64 5)))]), none⟩])
  (.seq (.kill [0, 5, 6, 8, 30, 31, 32] 0) (.region [
   ⟨(some 45), (.mov (.t 6)), none⟩,
   ⟨(some 46), (.mov (.t 8)), none⟩,
   ⟨(some 47), (.bin .add .num (.t 46) (.c (.c (.int .i64 1)))), none⟩,
   ⟨(some 48), (.min [(.t 45), (.t 47)]), none⟩,
   ⟨(some 6), (.mov (.t 48)), none⟩]))))))))
  (.seq (.kill [0, 5, 6, 30, 31, 32] 0) (.region [
   ⟨(some 49), (.bin .add .num (.t 32) (.c (.c (.int .i64 1)))), none⟩,
   ⟨(some 32), (.mov (.t 49)), none⟩]))))))))))))
 (.seq (.kill [0, 5, 6] 0) (.seq (.region [
  ⟨(some 9), (.mov (.c (.c (.int .i64 0)))), none⟩])
 (.seq (.kill [0, 5, 6, 9] 0) (.seq (.seq (.region [
  ⟨(some 50), (.mov (.t 0)), none⟩,
  ⟨(some 51), (.len .sl (.t 50)), none⟩,
  ⟨(some 52), (.mov (.c (.c (.int .i64 0)))), none⟩])
 (.seq (.kill [5, 6, 9, 50, 51, 52] 0) (.block 2 (.loop (.seq (.kill [5, 6, 9, 50, 51, 52] 0) (.seq (.region [
   ⟨(some 53), (.bin .lss .num (.t 52) (.t 51)), none⟩])
  (.seq (.kill [5, 6, 9, 50, 51, 52, 53] 0) (.seq (.cond (.t 53)
  (.skip)
  (.exit 2))
  (.seq (.kill [5, 6, 9, 50, 51, 52] 0) (.seq (.block 3 (.seq (.region [
   ⟨(some 54), (.iaddr 1 (.t 50) (.t 52)), none⟩,
   ⟨(some 55), (.load none (.t 54)), none⟩,
   ⟨(some 11), (.mov (.t 55)), none⟩])
  (.seq (.kill [5, 6, 9, 11, 50, 51, 52] 0) (.seq (.region [
   ⟨(some 56), (.mov (.t 11)), none⟩,
   ⟨(some 57), (.conv (.toInt .u64) (.t 56)), none⟩,
   ⟨(some 58), (.bin .rem .num (.t 57) (.c (.c (.int .u64 256)))), none⟩,
   ⟨(some 59), (.conv (.toInt .i64) (.t 58)), none⟩,
   ⟨(some 60), (.mov (.t 6)), none⟩,
   ⟨(some 61), (.bin .lss .num (.t 59) (.t 60)), none⟩])
  (.seq (.kill [5, 6, 9, 50, 51, 52, 61] 0) (.cond (.t 61)
  (.region [
    ⟨(some 62), (.mov (.t 9)), none⟩,
    ⟨(some 63), (.bin .add .num (.t 62) (.c (.c (.int .i64 1)))), none⟩,
    ⟨(some 9), (.mov (.t 63)), none⟩])
  (.skip)))))))
  (.seq (.kill [5, 6, 9, 50, 51, 52] 0) (.region [
   ⟨(some 64), (.bin .add .num (.t 52) (.c (.c (.int .i64 1)))), none⟩,
   ⟨(some 52), (.mov (.t 64)), none⟩]))))))))))))
 (.seq (.kill [5, 6, 9] 0) (.seq (.region [
  ⟨(some 66), (.mov (.t 5)), none⟩,
  ⟨(some 67), (.call 60 [(.t 66)]), none⟩,
  ⟨(some 65), (.mov (.t 67)), none⟩,
  ⟨(some 68), (.ext (.t 65) 0), none⟩,
  ⟨(some 69), (.ext (.t 65) 1), none⟩,
  ⟨(some 12), (.mov (.t 68)), none⟩,
  ⟨(some 13), (.mov (.t 69)), none⟩])
 (.seq (.kill [5, 6, 9, 12, 13] 0) (.seq (.region [
  ⟨(some 71), (.mov (.t 5)), none⟩,
  ⟨(some 72), (.mov (.t 12)), none⟩,
  ⟨(some 73), (.call 62 [(.t 71), (.t 72)]), none⟩,
  ⟨(some 70), (.mov (.t 73)), none⟩,
  ⟨(some 74), (.ext (.t 70) 0), none⟩,
  ⟨(some 75), (.ext (.t 70) 1), none⟩,
  ⟨(some 14), (.mov (.t 74)), none⟩,
  ⟨(some 15), (.mov (.t 75)), none⟩])
 (.seq (.kill [5, 6, 9, 13, 14, 15] 0) (.seq (.region [
  ⟨(some 76), (.mov (.t 5)), none⟩,
  ⟨(some 77), (.call 66 [(.t 76)]), none⟩,
  ⟨(some 78), (.mov (.t 6)), none⟩,
  ⟨(some 79), (.bin .eql .num (.t 77) (.t 78)), none⟩,
  ⟨(some 80), (.mov (.t 79)), none⟩,
  ⟨(some 81), (.mov (.t 5)), (some (80, true))⟩,
  ⟨(some 82), (.call 64 [(.t 81)]), (some (80, true))⟩,
  ⟨(some 83), (.len .sl (.t 82)), (some (80, true))⟩,
  ⟨(some 84), (.mov (.t 9)), (some (80, true))⟩,
  ⟨(some 85), (.min [(.t 84), (.c (.c (.int .i64 3)))]), (some (80, true))⟩,
  ⟨(some 86), (.bin .eql .num (.t 83) (.t 85)), (some (80, true))⟩,
  ⟨(some 87), (.pick (.t 80) (.t 86) (.c (.c (.bool false)))), none⟩,
  ⟨(some 88), (.mov (.t 87)), none⟩,
  ⟨(some 89), (.mov (.t 13)), (some (88, true))⟩,
  ⟨(some 90), (.mov (.t 9)), (some (88, true))⟩,
  ⟨(some 91), (.bin .gtr .num (.t 90) (.c (.c (.int .i64 0)))), (some (88, true))⟩,
  ⟨(some 92), (.bin .eql .bool (.t 89) (.t 91)), (some (88, true))⟩,
  ⟨(some 93), (.pick (.t 88) (.t 92) (.c (.c (.bool false)))), none⟩,
  ⟨(some 94), (.mov (.t 93)), none⟩,
  ⟨(some 95), (.mov (.t 13)), (some (94, true))⟩,
  ⟨(some 96), (.un .not (.t 95)), (some (94, true))⟩,
  ⟨(some 97), (.mov (.t 96)), (some (94, true))⟩,
  ⟨(some 98), (.mov (.t 15)), (some (97, false))⟩,
  ⟨(some 99), (.mov (.t 98)), (some (97, false))⟩,
  ⟨(some 100), (.mov (.t 14)), (some (99, true))⟩,
  ⟨(some 101), (.mov (.t 6)), (some (99, true))⟩,
  ⟨(some 102), (.bin .sub .num (.t 101) (.c (.c (.int .i64 1)))), (some (99, true))⟩,
  ⟨(some 103), (.bin .eql .num (.t 100) (.t 102)), (some (99, true))⟩,
  ⟨(some 104), (.pick (.t 99) (.t 103) (.c (.c (.bool false)))), (some (97, false))⟩,
  ⟨(some 105), (.pick (.t 97) (.c (.c (.bool true))) (.t 104)), (some (94, true))⟩,
  ⟨(some 106), (.pick (.t 94) (.t 105) (.c (.c (.bool false)))), none⟩,
  ⟨(some 107), (.mov (.t 106)), none⟩,
  ⟨(some 108), (.call 55 []), (some (107, true))⟩,
  ⟨(some 109), (.pick (.t 107) (.t 108) (.c (.c (.bool false)))), none⟩,
  ⟨(some 4), (.mov (.t 109)), none⟩])
 (.ret)))))))))))))))))))))))⟩
/-- campanile/campanilelaw14.ParentsAgain -/
def n71 : NF := ⟨83, [4],
 .seq (.region [
  ⟨(some 4), (.mov (.c (.c (.bool false)))), none⟩])
 (.seq (.kill [0, 1] 0) (.seq (.region [
  ⟨(some 11), (.mov (.t 0)), none⟩,
  ⟨(some 12), (.conv (.toInt .u64) (.t 11)), none⟩,
  ⟨(some 13), (.bin .rem .num (.t 12) (.c (.c (.int .u64 256)))), none⟩,
  ⟨(some 14), (.conv (.toInt .i64) (.t 13)), none⟩,
  ⟨(some 15), (.mov (.t 1)), none⟩,
  ⟨(some 16), (.conv (.toInt .u64) (.t 15)), none⟩,
  ⟨(some 17), (.bin .rem .num (.t 16) (.c (.c (.int .u64 256)))), none⟩,
  ⟨(some 18), (.conv (.toInt .i64) (.t 17)), none⟩,
  ⟨(some 0), (.mov (.t 14)), none⟩,
  ⟨(some 1), (.mov (.t 18)), none⟩])
 (.seq (.kill [0, 1] 0) (.seq (.region [
  ⟨(some 19), (.call 53 [(.c (.c (.int .i64 3))), (.c (.c (.int .i64 200)))]), none⟩,
  ⟨(some 5), (.mov (.t 19)), none⟩])
 (.seq (.kill [0, 1, 5] 0) (.seq (.seq (.region [
  ⟨(some 20), (.mov (.t 5)), none⟩,
  ⟨(some 21), (.bin .eql .ptr (.t 20) (.c (.c .nilp))), none⟩])
 (.seq (.kill [0, 1, 5, 21] 0) (.cond (.t 21)
 (.seq (.region [
   ⟨(some 4), (.mov (.c (.c (.bool false)))), none⟩])
  (.ret))
 (.skip))))
 (.seq (.kill [0, 1, 5] 0) (.seq (.region [
  ⟨(some 22), (.mov (.t 5)), none⟩,
  ⟨(some 23), (.mov (.t 0)), none⟩,
  ⟨(some 24), (.call 58 [(.t 22), (.c (.c (.int .i64 4))), (.t 23), (.c (.c (.int .i64 1)))]), none⟩,
  ⟨(some 6), (.mov (.t 24)), none⟩])
 (.seq (.kill [0, 1, 5, 6] 0) (.seq (.region [
  ⟨(some 25), (.mov (.t 5)), none⟩,
  ⟨(some 26), (.call 66 [(.t 25)]), none⟩,
  ⟨(some 7), (.mov (.t 26)), none⟩])
 (.seq (.kill [0, 1, 5, 6, 7] 0) (.seq (.region [
  ⟨(some 27), (.mov (.t 5)), none⟩,
  ⟨(some 28), (.mov (.t 1)), none⟩,
  ⟨(some 29), (.call 58 [(.t 27), (.c (.c (.int .i64 4))), (.t 28), (.c (.c (.int .i64 2)))]), none⟩,
  ⟨(some 8), (.mov (.t 29)), none⟩])
 (.seq (.kill [0, 1, 5, 6, 7, 8] 0) (.seq (.seq (.region [
  ⟨(some 30), (.mov (.t 6)), none⟩,
  ⟨(some 31), (.mov (.t 0)), none⟩,
  ⟨(some 32), (.bin .lss .num (.t 31) (.c (.c (.int .i64 200)))), none⟩,
  ⟨(some 33), (.bin .neq .bool (.t 30) (.t 32)), none⟩,
  ⟨(some 34), (.mov (.t 33)), none⟩,
  ⟨(some 35), (.mov (.t 8)), (some (34, false))⟩,
  ⟨(some 36), (.mov (.t 1)), (some (34, false))⟩,
  ⟨(some 37), (.mov (.t 7)), (some (34, false))⟩,
  ⟨(some 38), (.bin .lss .num (.t 36) (.t 37)), (some (34, false))⟩,
  ⟨(some 39), (.bin .neq .bool (.t 35) (.t 38)), (some (34, false))⟩,
  ⟨(some 40), (.pick (.t 34) (.c (.c (.bool true))) (.t 39)), none⟩,
  ⟨(some 41), (.mov (.t 40)), none⟩,
  ⟨(some 42), (.mov (.t 5)), (some (41, false))⟩,
  ⟨(some 43), (.call 64 [(.t 42)]), (some (41, false))⟩,
  ⟨(some 44), (.len .sl (.t 43)), (some (41, false))⟩,
  ⟨(some 45), (.bin .gtr .num (.t 44) (.c (.c (.int .i64 1)))), (some (41, false))⟩,
  ⟨(some 46), (.pick (.t 41) (.c (.c (.bool true))) (.t 45)), none⟩])
 (.seq (.kill [1, 5, 7, 8, 46] 0) (.cond (.t 46)
 (.seq (.region [
   ⟨(some 4), (.mov (.c (.c (.bool false)))), none⟩])
  (.ret))
 (.skip))))
 (.seq (.kill [1, 5, 7, 8] 0) (.seq (.region [
  ⟨(some 48), (.mov (.t 5)), none⟩,
  ⟨(some 49), (.call 62 [(.t 48), (.c (.c (.int .i64 4)))]), none⟩,
  ⟨(some 47), (.mov (.t 49)), none⟩,
  ⟨(some 50), (.ext (.t 47) 0), none⟩,
  ⟨(some 51), (.ext (.t 47) 1), none⟩,
  ⟨(some 9), (.mov (.t 50)), none⟩,
  ⟨(some 10), (.mov (.t 51)), none⟩])
 (.seq (.kill [1, 5, 7, 8, 9, 10] 0) (.seq (.region [
  ⟨(some 52), (.mov (.t 10)), none⟩,
  ⟨(some 53), (.mov (.t 8)), none⟩,
  ⟨(some 54), (.bin .eql .bool (.t 52) (.t 53)), none⟩,
  ⟨(some 55), (.mov (.t 54)), none⟩,
  ⟨(some 56), (.mov (.t 8)), (some (55, true))⟩,
  ⟨(some 57), (.un .not (.t 56)), (some (55, true))⟩,
  ⟨(some 58), (.mov (.t 57)), (some (55, true))⟩,
  ⟨(some 59), (.mov (.t 9)), (some (58, false))⟩,
  ⟨(some 60), (.mov (.t 1)), (some (58, false))⟩,
  ⟨(some 61), (.bin .eql .num (.t 59) (.t 60)), (some (58, false))⟩,
  ⟨(some 62), (.mov (.t 61)), (some (58, false))⟩,
  ⟨(some 63), (.mov (.t 5)), (some (62, true))⟩,
  ⟨(some 64), (.call 66 [(.t 63)]), (some (62, true))⟩,
  ⟨(some 65), (.mov (.t 7)), (some (62, true))⟩,
  ⟨(some 66), (.mov (.t 1)), (some (62, true))⟩,
  ⟨(some 67), (.bin .add .num (.t 66) (.c (.c (.int .i64 1)))), (some (62, true))⟩,
  ⟨(some 68), (.min [(.t 65), (.t 67)]), (some (62, true))⟩,
  ⟨(some 69), (.bin .eql .num (.t 64) (.t 68)), (some (62, true))⟩,
  ⟨(some 70), (.pick (.t 62) (.t 69) (.c (.c (.bool false)))), (some (58, false))⟩,
  ⟨(some 71), (.pick (.t 58) (.c (.c (.bool true))) (.t 70)), (some (55, true))⟩,
  ⟨(some 72), (.pick (.t 55) (.t 71) (.c (.c (.bool false)))), none⟩,
  ⟨(some 73), (.mov (.t 72)), none⟩,
  ⟨(some 74), (.mov (.t 5)), (some (73, true))⟩,
  ⟨(some 75), (.call 56 [(.t 74), (.c (.c (.int .i64 1000))), (.c (.c (.int .i64 5)))]), (some (73, true))⟩,
  ⟨(some 76), (.mov (.t 8)), (some (73, true))⟩,
  ⟨(some 77), (.call 72 [(.t 76)]), (some (73, true))⟩,
  ⟨(some 78), (.call 13 [(.t 75), (.t 77)]), (some (73, true))⟩,
  ⟨(some 79), (.pick (.t 73) (.t 78) (.c (.c (.bool false)))), none⟩,
  ⟨(some 80), (.mov (.t 79)), none⟩,
  ⟨(some 81), (.call 55 []), (some (80, true))⟩,
  ⟨(some 82), (.pick (.t 80) (.t 81) (.c (.c (.bool false)))), none⟩,
  ⟨(some 4), (.mov (.t 82)), none⟩])
 (.ret)))))))))))))))))))⟩
/-- campanile/parents.New -/
def n53 : NF := ⟨17, [4],
 .seq (.region [
  ⟨(some 4), (.mov (.c (.c .nilp))), none⟩])
 (.seq (.kill [0, 1] 0) (.seq (.seq (.region [
  ⟨(some 5), (.mov (.t 0)), none⟩,
  ⟨(some 6), (.call 73 [(.t 5), (.c (.c (.int .i64 0))), (.c (.c (.int .i64 15)))]), none⟩,
  ⟨(some 7), (.un .not (.t 6)), none⟩,
  ⟨(some 8), (.mov (.t 7)), none⟩,
  ⟨(some 9), (.mov (.t 1)), (some (8, false))⟩,
  ⟨(some 10), (.call 73 [(.t 9), (.c (.c (.int .i64 0))), (.c (.c (.int .i64 255)))]), (some (8, false))⟩,
  ⟨(some 11), (.un .not (.t 10)), (some (8, false))⟩,
  ⟨(some 12), (.pick (.t 8) (.c (.c (.bool true))) (.t 11)), none⟩])
 (.seq (.kill [0, 1, 12] 0) (.cond (.t 12)
 (.seq (.region [
   ⟨(some 4), (.mov (.c (.c .nilp))), none⟩])
  (.ret))
 (.skip))))
 (.seq (.kill [0, 1] 0) (.seq (.region [
  ⟨(some 13), (.mov (.t 0)), none⟩,
  ⟨(some 14), (.mov (.t 1)), none⟩,
  ⟨(some 15), (.build [(.int .i64 0), (.int .i64 0), .nils] [(0, (1, (.t 13))), (1, (1, (.t 14)))]), none⟩,
  ⟨(some 16), (.box false 3 (.t 15)), none⟩,
  ⟨(some 4), (.mov (.t 16)), none⟩])
 (.ret)))))⟩
/-- campanile/campanileref8.NewSet -/
def n54 : NF := ⟨20, [4],
 .seq (.region [
  ⟨(some 4), (.mov (.c (.c .nilp))), none⟩])
 (.seq (.kill [0, 1] 0) (.seq (.seq (.region [
  ⟨(some 5), (.mov (.t 0)), none⟩,
  ⟨(some 6), (.call 44 [(.t 5)]), none⟩,
  ⟨(some 7), (.un .not (.t 6)), none⟩,
  ⟨(some 8), (.mov (.t 7)), none⟩,
  ⟨(some 9), (.mov (.t 1)), (some (8, false))⟩,
  ⟨(some 10), (.bin .lss .num (.t 9) (.c (.c (.int .i64 0)))), (some (8, false))⟩,
  ⟨(some 11), (.pick (.t 8) (.c (.c (.bool true))) (.t 10)), none⟩,
  ⟨(some 12), (.mov (.t 11)), none⟩,
  ⟨(some 13), (.mov (.t 1)), (some (12, false))⟩,
  ⟨(some 14), (.bin .gtr .num (.t 13) (.c (.c (.int .i64 255)))), (some (12, false))⟩,
  ⟨(some 15), (.pick (.t 12) (.c (.c (.bool true))) (.t 14)), none⟩])
 (.seq (.kill [0, 1, 15] 0) (.cond (.t 15)
 (.seq (.region [
   ⟨(some 4), (.mov (.c (.c .nilp))), none⟩])
  (.ret))
 (.skip))))
 (.seq (.kill [0, 1] 0) (.seq (.region [
  ⟨(some 16), (.mov (.t 0)), none⟩,
  ⟨(some 17), (.mov (.t 1)), none⟩,
  ⟨(some 18), (.build [(.int .i64 0), (.int .i64 0), .nils] [(0, (1, (.t 16))), (1, (1, (.t 17)))]), none⟩,
  ⟨(some 19), (.box false 3 (.t 18)), none⟩,
  ⟨(some 4), (.mov (.t 19)), none⟩])
 (.ret)))))⟩
/-- campanile/campanilelaw14.awake -/
def n55 : NF := ⟨33, [0],
 .seq (.region [
  ⟨(some 0), (.mov (.c (.c (.bool false)))), none⟩])
 (.seq (.kill [] 0) (.seq (.region [
  ⟨(some 4), (.call 53 [(.c (.c (.int .i64 3))), (.c (.c (.int .i64 5)))]), none⟩,
  ⟨(some 1), (.mov (.t 4)), none⟩])
 (.seq (.kill [1] 0) (.seq (.seq (.region [
  ⟨(some 5), (.mov (.t 1)), none⟩,
  ⟨(some 6), (.bin .eql .ptr (.t 5) (.c (.c .nilp))), none⟩,
  ⟨(some 7), (.mov (.t 6)), none⟩,
  ⟨(some 8), (.mov (.t 1)), (some (7, false))⟩,
  ⟨(some 9), (.call 58 [(.t 8), (.c (.c (.int .i64 7))), (.c (.c (.int .i64 2))), (.c (.c (.int .i64 10)))]), (some (7, false))⟩,
  ⟨(some 10), (.un .not (.t 9)), (some (7, false))⟩,
  ⟨(some 11), (.pick (.t 7) (.c (.c (.bool true))) (.t 10)), none⟩])
 (.seq (.kill [1, 11] 0) (.cond (.t 11)
 (.seq (.region [
   ⟨(some 0), (.mov (.c (.c (.bool false)))), none⟩])
  (.ret))
 (.skip))))
 (.seq (.kill [1] 0) (.seq (.region [
  ⟨(some 13), (.mov (.t 1)), none⟩,
  ⟨(some 14), (.call 60 [(.t 13)]), none⟩,
  ⟨(some 12), (.mov (.t 14)), none⟩,
  ⟨(some 15), (.ext (.t 12) 0), none⟩,
  ⟨(some 16), (.ext (.t 12) 1), none⟩,
  ⟨(some 2), (.mov (.t 15)), none⟩,
  ⟨(some 3), (.mov (.t 16)), none⟩])
 (.seq (.kill [1, 2, 3] 0) (.seq (.region [
  ⟨(some 17), (.mov (.t 3)), none⟩,
  ⟨(some 18), (.mov (.t 17)), none⟩,
  ⟨(some 19), (.mov (.t 2)), (some (18, true))⟩,
  ⟨(some 20), (.bin .eql .num (.t 19) (.c (.c (.int .i64 7)))), (some (18, true))⟩,
  ⟨(some 21), (.pick (.t 18) (.t 20) (.c (.c (.bool false)))), none⟩,
  ⟨(some 22), (.mov (.t 21)), none⟩,
  ⟨(some 23), (.mov (.t 1)), (some (22, true))⟩,
  ⟨(some 24), (.call 66 [(.t 23)]), (some (22, true))⟩,
  ⟨(some 25), (.bin .eql .num (.t 24) (.c (.c (.int .i64 3)))), (some (22, true))⟩,
  ⟨(some 26), (.pick (.t 22) (.t 25) (.c (.c (.bool false)))), none⟩,
  ⟨(some 27), (.mov (.t 26)), none⟩,
  ⟨(some 28), (.mov (.t 1)), (some (27, true))⟩,
  ⟨(some 29), (.call 56 [(.t 28), (.c (.c (.int .i64 15))), (.c (.c (.int .i64 5)))]), (some (27, true))⟩,
  ⟨(some 30), (.len .sl (.t 29)), (some (27, true))⟩,
  ⟨(some 31), (.bin .eql .num (.t 30) (.c (.c (.int .i64 1)))), (some (27, true))⟩,
  ⟨(some 32), (.pick (.t 27) (.t 31) (.c (.c (.bool false)))), none⟩,
  ⟨(some 0), (.mov (.t 32)), none⟩])
 (.ret)))))))))⟩
/-- campanile/campanileref1.SameInts -/
def n13 : NF := ⟨26, [4],
 .seq (.region [
  ⟨(some 4), (.mov (.c (.c (.bool false)))), none⟩])
 (.seq (.kill [0, 1] 0) (.seq (.seq (.region [
  ⟨(some 6), (.mov (.t 0)), none⟩,
  ⟨(some 7), (.len .sl (.t 6)), none⟩,
  ⟨(some 8), (.mov (.t 1)), none⟩,
  ⟨(some 9), (.len .sl (.t 8)), none⟩,
  ⟨(some 10), (.bin .neq .num (.t 7) (.t 9)), none⟩])
 (.seq (.kill [0, 1, 10] 0) (.cond (.t 10)
 (.seq (.region [
   ⟨(some 4), (.mov (.c (.c (.bool false)))), none⟩])
  (.ret))
 (.skip))))
 (.seq (.kill [0, 1] 0) (.seq (.seq (.region [
  ⟨(some 11), (.mov (.t 0)), none⟩,
  ⟨(some 12), (.len .sl (.t 11)), none⟩,
  ⟨(some 13), (.mov (.c (.c (.int .i64 0)))), none⟩])
 (.seq (.kill [0, 1, 12, 13] 0) (.block 0 (.loop (.seq (.kill [0, 1, 12, 13] 0) (.seq (.region [
   ⟨(some 14), (.bin .lss .num (.t 13) (.t 12)), none⟩])
  (.seq (.kill [0, 1, 12, 13, 14] 0) (.seq (.cond (.t 14)
  (.skip)
  (.exit 0))
  (.seq (.kill [0, 1, 12, 13] 0) (.seq (.block 1 (.seq (.region [
   ⟨(some 15), (.mov (.t 13)), none⟩,
   ⟨(some 5), (.mov (.t 15)), none⟩])
  (.seq (.kill [0, 1, 5, 12, 13] 0) (.seq (.draw 0 [
   ⟨0, none, ⟨(some 16), (.mov (.t 0)), none⟩, []⟩,
   ⟨1, none, ⟨(some 17), (.mov (.t 5)), none⟩, []⟩,
   ⟨2, none, ⟨(some 18), (.iaddr 1 (.t 16) (.t 17)), none⟩, []⟩,
   ⟨3, none, ⟨(some 19), (.load none (.t 18)), none⟩, []⟩,
   ⟨4, none, ⟨(some 20), (.mov (.t 1)), none⟩, []⟩,
   ⟨5, none, ⟨(some 21), (.mov (.t 5)), none⟩, []⟩,
   ⟨6, none, ⟨(some 22), (.iaddr 1 (.t 20) (.t 21)), none⟩, []⟩,
   ⟨7, none, ⟨(some 23), (.load none (.t 22)), none⟩, []⟩,
   ⟨8, none, ⟨(some 24), (.bin .neq .num (.t 19) (.t 23)), none⟩, []⟩])
  (.seq (.kill [0, 1, 12, 13, 24] 0) (.cond (.t 24)
  (.seq (.region [
    ⟨(some 4), (.mov (.c (.c (.bool false)))), none⟩])
   (.ret))
  (.skip)))))))
  (.seq (.kill [0, 1, 12, 13] 0) (.region [
   ⟨(some 25), (.bin .add .num (.t 13) (.c (.c (.int .i64 1)))), none⟩,
   ⟨(some 13), (.mov (.t 25)), none⟩]))))))))))))
 (.seq (.kill [] 0) (.seq (.region [
  ⟨(some 4), (.mov (.c (.c (.bool true)))), none⟩])
 (.ret)))))))⟩
/-- (*campanile/parents.Set).Old -/
def n56 : NF := ⟨46, [6],
 .seq (.region [
  ⟨(some 6), (.mov (.c (.c .nils))), none⟩])
 (.seq (.kill [0, 1, 2] 0) (.seq (.seq (.region [
  ⟨(some 11), (.mov (.t 0)), none⟩,
  ⟨(some 12), (.bin .eql .ptr (.t 11) (.c (.c .nilp))), none⟩,
  ⟨(some 13), (.mov (.t 12)), none⟩,
  ⟨(some 14), (.mov (.t 1)), (some (13, false))⟩,
  ⟨(some 15), (.bin .lss .num (.t 14) (.c (.c (.int .i64 0)))), (some (13, false))⟩,
  ⟨(some 16), (.pick (.t 13) (.c (.c (.bool true))) (.t 15)), none⟩])
 (.seq (.kill [0, 1, 2, 16] 0) (.cond (.t 16)
 (.seq (.region [
   ⟨(some 6), (.mov (.c (.c .nils))), none⟩])
  (.ret))
 (.skip))))
 (.seq (.kill [0, 1, 2] 0) (.seq (.region [
  ⟨(some 7), (.mov (.c (.c .nils))), none⟩])
 (.seq (.kill [0, 1, 2, 7] 0) (.seq (.region [
  ⟨(some 17), (.mov (.t 1)), none⟩,
  ⟨(some 18), (.mov (.t 2)), none⟩,
  ⟨(some 19), (.max [(.c (.c (.int .i64 1))), (.t 18)]), none⟩,
  ⟨(some 20), (.bin .sub .num (.t 17) (.t 19)), none⟩,
  ⟨(some 8), (.box false 1 (.c (.c (.int .i64 0)))), none⟩,
  ⟨none, (.store 1 (.t 8) (.t 20)), none⟩])
 (.seq (.kill [0, 7, 8] 0) (.seq (.seq (.region [
  ⟨(some 21), (.mov (.t 0)), none⟩,
  ⟨(some 22), (.nilck (.t 21)), none⟩,
  ⟨(some 23), (.faddr 2 (.t 22)), none⟩,
  ⟨(some 24), (.load none (.t 23)), none⟩,
  ⟨(some 25), (.len .sl (.t 24)), none⟩,
  ⟨(some 26), (.mov (.c (.c (.int .i64 0)))), none⟩])
 (.seq (.kill [0, 7, 8, 24, 25, 26] 0) (.block 0 (.loop (.seq (.kill [0, 7, 8, 24, 25, 26] 0) (.seq (.region [
   ⟨(some 27), (.bin .lss .num (.t 26) (.t 25)), none⟩])
  (.seq (.kill [0, 7, 8, 24, 25, 26, 27] 0) (.seq (.cond (.t 27)
  (.skip)
  (.exit 0))
  (.seq (.kill [0, 7, 8, 24, 25, 26] 0) (.seq (.block 1 (.seq (.region [
   ⟨(some 28), (.iaddr 3 (.t 24) (.t 26)), none⟩,
   ⟨(some 29), (.load (some 3) (.t 28)), none⟩,
   ⟨(some 10), (.box true 3 (.c (.agg [(.int .i64 0), (.int .i64 0), (.int .i64 0)]))), none⟩,
   ⟨none, (.store 3 (.t 10) (.t 29)), none⟩])
  (.seq (.kill [0, 7, 8, 10, 24, 25, 26] 1) (.seq (.region [
   ⟨(some 30), (.faddr 2 (.t 10)), none⟩,
   ⟨(some 31), (.load none (.t 30)), none⟩,
   ⟨(some 32), (.load none (.t 8)), none⟩,
   ⟨(some 33), (.bin .leq .num (.t 31) (.t 32)), none⟩])
  (.seq (.kill [0, 7, 8, 10, 24, 25, 26, 33] 1) (.cond (.t 33)
  (.region [
    ⟨(some 34), (.mov (.t 7)), none⟩,
    ⟨(some 35), (.faddr 1 (.t 10)), none⟩,
    ⟨(some 36), (.load none (.t 35)), none⟩,
    ⟨(some 37), (.bslice true 1 1 [(.int .i64 0)] [(0, (1, (.t 36)))]), none⟩,
    ⟨(some 38), (.app 1 8 (.t 34) (.t 37)), none⟩,
    ⟨(some 7), (.mov (.t 38)), none⟩])
  (.skip)))))))
  (.seq (.kill [0, 7, 8, 24, 25, 26] 0) (.region [
   ⟨(some 39), (.bin .add .num (.t 26) (.c (.c (.int .i64 1)))), none⟩,
   ⟨(some 26), (.mov (.t 39)), none⟩]))))))))))))
 (.seq (.kill [0, 7, 8] 0) (.seq (.region [
  ⟨(some 40), (.mov (.t 7)), none⟩,
  ⟨(some 41), (.call 74 [(.t 40)]), none⟩])
 (.seq (.kill [0, 7, 8] 0) (.seq (.region [
  ⟨(some 42), (.mov (.t 0)), none⟩,
  ⟨(some 43), (.mkfn 75 [(.t 8)]), none⟩,
  ⟨(some 44), (.call 76 [(.t 42), (.t 43)]), none⟩])
 (.seq (.kill [7] 0) (.seq (.region [
  ⟨(some 45), (.mov (.t 7)), none⟩,
  ⟨(some 6), (.mov (.t 45)), none⟩])
 (.ret)))))))))))))))⟩
/-- (*campanile/campanileref8.Set).Old -/
def n57 : NF := ⟨59, [6],
 .seq (.region [
  ⟨(some 6), (.mov (.c (.c .nils))), none⟩])
 (.seq (.kill [0, 1, 2] 0) (.seq (.region [
  ⟨(some 14), (.build [(.bool false), (.bool false), (.bool false), (.bool false), (.bool false), (.bool false), (.bool false), (.bool false), (.bool false), (.bool false), (.bool false), (.bool false), (.bool false), (.bool false), (.bool false), (.bool false)] []), none⟩,
  ⟨(some 7), (.box true 16 (.c (.agg [(.bool false), (.bool false), (.bool false), (.bool false), (.bool false), (.bool false), (.bool false), (.bool false), (.bool false), (.bool false), (.bool false), (.bool false), (.bool false), (.bool false), (.bool false), (.bool false)]))), none⟩,
  ⟨none, (.store 16 (.t 7) (.t 14)), none⟩])
 (.seq (.kill [0, 1, 2, 7] 1) (.seq (.region [
  ⟨(some 8), (.mov (.c (.c .nils))), none⟩])
 (.seq (.kill [0, 1, 2, 7, 8] 1) (.seq (.seq (.region [
  ⟨(some 15), (.mov (.t 0)), none⟩,
  ⟨(some 16), (.nilck (.t 15)), none⟩,
  ⟨(some 17), (.faddr 2 (.t 16)), none⟩,
  ⟨(some 18), (.load none (.t 17)), none⟩,
  ⟨(some 19), (.len .sl (.t 18)), none⟩,
  ⟨(some 20), (.mov (.c (.c (.int .i64 0)))), none⟩])
 (.seq (.kill [0, 1, 2, 7, 8, 18, 19, 20] 1) (.block 0 (.loop (.seq (.kill [0, 1, 2, 7, 8, 18, 19, 20] 1) (.seq (.region [
   ⟨(some 21), (.bin .lss .num (.t 20) (.t 19)), none⟩])
  (.seq (.kill [0, 1, 2, 7, 8, 18, 19, 20, 21] 1) (.seq (.cond (.t 21)
  (.skip)
  (.exit 0))
  (.seq (.kill [0, 1, 2, 7, 8, 18, 19, 20] 1) (.seq (.block 1 (.seq (.region [
   ⟨(some 22), (.iaddr 3 (.t 18) (.t 20)), none⟩,
   ⟨(some 23), (.load (some 3) (.t 22)), none⟩,
   ⟨(some 10), (.box true 3 (.c (.agg [(.int .i64 0), (.int .i64 0), (.int .i64 0)]))), none⟩,
   ⟨none, (.store 3 (.t 10) (.t 23)), none⟩])
  (.seq (.kill [0, 1, 2, 7, 8, 10, 18, 19, 20] 2) (.seq (.region [
   ⟨(some 24), (.mov (.t 1)), none⟩,
   ⟨(some 25), (.bin .geq .num (.t 24) (.c (.c (.int .i64 0)))), none⟩,
   ⟨(some 26), (.mov (.t 25)), none⟩,
   ⟨(some 27), (.mov (.t 1)), (some (26, true))⟩,
   ⟨(some 28), (.faddr 2 (.t 10)), (some (26, true))⟩,
   ⟨(some 29), (.load none (.t 28)), (some (26, true))⟩,
   ⟨(some 30), (.bin .sub .num (.t 27) (.t 29)), (some (26, true))⟩,
   ⟨(some 31), (.mov (.t 2)), (some (26, true))⟩,
   ⟨(some 32), (.max [(.t 31), (.c (.c (.int .i64 1)))]), (some (26, true))⟩,
   ⟨(some 33), (.bin .geq .num (.t 30) (.t 32)), (some (26, true))⟩,
   ⟨(some 34), (.pick (.t 26) (.t 33) (.c (.c (.bool false)))), none⟩])
  (.seq (.kill [0, 1, 2, 7, 8, 10, 18, 19, 20, 34] 2) (.cond (.t 34)
  (.region [
    ⟨(some 35), (.faddr 0 (.t 10)), none⟩,
    ⟨(some 36), (.load none (.t 35)), none⟩,
    ⟨(some 37), (.iaddrA 16 1 (.t 7) (.t 36)), none⟩,
    ⟨none, (.store 1 (.t 37) (.c (.c (.bool true)))), none⟩])
  (.region [
    ⟨(some 38), (.mov (.t 8)), none⟩,
    ⟨(some 39), (.load (some 3) (.t 10)), none⟩,
    ⟨(some 40), (.bslice true 3 1 [(.int .i64 0), (.int .i64 0), (.int .i64 0)] [(0, (3, (.t 39)))]), none⟩,
    ⟨(some 41), (.app 3 24 (.t 38) (.t 40)), none⟩,
    ⟨(some 8), (.mov (.t 41)), none⟩])))))))
  (.seq (.kill [0, 1, 2, 7, 8, 18, 19, 20] 1) (.region [
   ⟨(some 42), (.bin .add .num (.t 20) (.c (.c (.int .i64 1)))), none⟩,
   ⟨(some 20), (.mov (.t 42)), none⟩]))))))))))))
 (.seq (.kill [0, 7, 8] 1) (.seq (.region [
  ⟨(some 43), (.mov (.t 0)), none⟩,
  ⟨(some 44), (.mov (.t 8)), none⟩,
  ⟨(some 45), (.nilck (.t 43)), none⟩,
  ⟨(some 46), (.faddr 2 (.t 45)), none⟩,
  ⟨none, (.store 1 (.t 46) (.t 44)), none⟩])
 (.seq (.kill [7] 1) (.seq (.region [
  ⟨(some 11), (.mov (.c (.c .nils))), none⟩])
 (.seq (.kill [7, 11] 1) (.seq (.seq (.region [
  ⟨(some 47), (.load (some 16) (.t 7)), none⟩,
  ⟨(some 48), (.mov (.c (.c (.int .i64 0)))), none⟩])
 (.seq (.kill [11, 47, 48] 0) (.block 2 (.loop (.seq (.kill [11, 47, 48] 0) (.seq (.region [
   ⟨(some 49), (.bin .lss .num (.t 48) (.c (.c (.int .i64 16)))), none⟩])
  (.seq (.kill [11, 47, 48, 49] 0) (.seq (.cond (.t 49)
  (.skip)
  (.exit 2))
  (.seq (.kill [11, 47, 48] 0) (.seq (.block 3 (.seq (.region [
   ⟨(some 50), (.mov (.t 48)), none⟩,
   ⟨(some 51), (.index 16 1 false (.t 47) (.t 48)), none⟩,
   ⟨(some 12), (.mov (.t 50)), none⟩,
   ⟨(some 13), (.mov (.t 51)), none⟩])
  (.seq (.kill [11, 12, 13, 47, 48] 0) (.seq (.region [
   ⟨(some 52), (.mov (.t 13)), none⟩])
  (.seq (.kill [11, 12, 47, 48, 52] 0) (.cond (.t 52)
  (.region [
    ⟨(some 53), (.mov (.t 11)), none⟩,
    ⟨(some 54), (.mov (.t 12)), none⟩,
    ⟨(some 55), (.bslice true 1 1 [(.int .i64 0)] [(0, (1, (.t 54)))]), none⟩,
    ⟨(some 56), (.app 1 8 (.t 53) (.t 55)), none⟩,
    ⟨(some 11), (.mov (.t 56)), none⟩])
  (.skip)))))))
  (.seq (.kill [11, 47, 48] 0) (.region [
   ⟨(some 57), (.bin .add .num (.t 48) (.c (.c (.int .i64 1)))), none⟩,
   ⟨(some 48), (.mov (.t 57)), none⟩]))))))))))))
 (.seq (.kill [11] 0) (.seq (.region [
  ⟨(some 58), (.mov (.t 11)), none⟩,
  ⟨(some 6), (.mov (.t 58)), none⟩])
 (.ret)))))))))))))))⟩
/-- (*campanile/parents.Set).Hear -/
def n58 : NF := ⟨96, [8],
 .seq (.region [
  ⟨(some 4), (.box false 1 (.t 0)), none⟩,
  ⟨(some 5), (.box false 1 (.t 1)), none⟩,
  ⟨(some 8), (.mov (.c (.c (.bool false)))), none⟩])
 (.seq (.kill [2, 3, 4, 5] 0) (.seq (.seq (.draw 0 [
  ⟨0, none, ⟨(some 11), (.load none (.t 4)), none⟩, []⟩,
  ⟨1, none, ⟨(some 12), (.bin .eql .ptr (.t 11) (.c (.c .nilp))), none⟩, []⟩,
  ⟨2, none, ⟨(some 13), (.mov (.t 12)), none⟩, []⟩,
  ⟨3, none, ⟨(some 14), (.load none (.t 5)), (some (13, false))⟩, []⟩,
  ⟨4, none, ⟨(some 15), (.call 73 [(.t 14), (.c (.c (.int .i64 0))), (.c (.c (.int .i64 15)))]), (some (13, false))⟩, []⟩,
  ⟨5, none, ⟨(some 16), (.un .not (.t 15)), (some (13, false))⟩, []⟩,
  ⟨6, none, ⟨(some 17), (.pick (.t 13) (.c (.c (.bool true))) (.t 16)), none⟩, []⟩,
  ⟨7, none, ⟨(some 18), (.mov (.t 17)), none⟩, []⟩,
  ⟨8, none, ⟨(some 19), (.load none (.t 5)), (some (18, false))⟩, []⟩,
  ⟨9, none, ⟨(some 20), (.load none (.t 4)), (some (18, false))⟩, []⟩,
  ⟨10, none, ⟨(some 21), (.nilck (.t 20)), (some (18, false))⟩, []⟩,
  ⟨11, none, ⟨(some 22), (.faddr 0 (.t 21)), (some (18, false))⟩, []⟩,
  ⟨12, none, ⟨(some 23), (.load none (.t 22)), (some (18, false))⟩, []⟩,
  ⟨13, none, ⟨(some 24), (.bin .eql .num (.t 19) (.t 23)), (some (18, false))⟩, []⟩,
  ⟨14, none, ⟨(some 25), (.pick (.t 18) (.c (.c (.bool true))) (.t 24)), none⟩, []⟩,
  ⟨15, none, ⟨(some 26), (.mov (.t 25)), none⟩, []⟩,
  ⟨16, none, ⟨(some 27), (.mov (.t 2)), (some (26, false))⟩, []⟩,
  ⟨17, none, ⟨(some 28), (.call 73 [(.t 27), (.c (.c (.int .i64 0))), (.c (.c (.int .i64 255)))]), (some (26, false))⟩, []⟩,
  ⟨18, none, ⟨(some 29), (.un .not (.t 28)), (some (26, false))⟩, []⟩,
  ⟨19, none, ⟨(some 30), (.pick (.t 26) (.c (.c (.bool true))) (.t 29)), none⟩, []⟩,
  ⟨20, none, ⟨(some 31), (.mov (.t 30)), none⟩, []⟩,
  ⟨21, none, ⟨(some 32), (.mov (.t 3)), (some (31, false))⟩, []⟩,
  ⟨22, none, ⟨(some 33), (.bin .lss .num (.t 32) (.c (.c (.int .i64 0)))), (some (31, false))⟩, []⟩,
  ⟨23, none, ⟨(some 34), (.pick (.t 31) (.c (.c (.bool true))) (.t 33)), none⟩, []⟩])
 (.seq (.kill [2, 3, 4, 5, 34] 0) (.cond (.t 34)
 (.seq (.region [
   ⟨(some 8), (.mov (.c (.c (.bool false)))), none⟩])
  (.ret))
 (.skip))))
 (.seq (.kill [2, 3, 4, 5] 0) (.seq (.region [
  ⟨(some 35), (.load none (.t 4)), none⟩,
  ⟨(some 36), (.mkfn 77 [(.t 5)]), none⟩,
  ⟨(some 37), (.call 76 [(.t 35), (.t 36)]), none⟩])
 (.seq (.kill [2, 3, 4, 5] 0) (.seq (.seq (.region [
  ⟨(some 38), (.mov (.t 2)), none⟩,
  ⟨(some 39), (.load none (.t 4)), none⟩,
  ⟨(some 40), (.nilck (.t 39)), none⟩,
  ⟨(some 41), (.faddr 1 (.t 40)), none⟩,
  ⟨(some 42), (.load none (.t 41)), none⟩,
  ⟨(some 43), (.bin .geq .num (.t 38) (.t 42)), none⟩])
 (.seq (.kill [2, 3, 4, 5, 43] 0) (.cond (.t 43)
 (.seq (.region [
   ⟨(some 8), (.mov (.c (.c (.bool false)))), none⟩])
  (.ret))
 (.skip))))
 (.seq (.kill [2, 3, 4, 5] 0) (.seq (.draw 1 [
  ⟨0, none, ⟨(some 44), (.load none (.t 4)), none⟩, []⟩,
  ⟨1, none, ⟨(some 45), (.load none (.t 4)), none⟩, []⟩,
  ⟨2, none, ⟨(some 46), (.nilck (.t 45)), none⟩, []⟩,
  ⟨3, none, ⟨(some 47), (.faddr 2 (.t 46)), none⟩, []⟩,
  ⟨4, none, ⟨(some 48), (.load none (.t 47)), none⟩, []⟩,
  ⟨5, none, ⟨(some 49), (.mov (.t 2)), none⟩, []⟩,
  ⟨6, none, ⟨(some 50), (.load none (.t 5)), none⟩, []⟩,
  ⟨7, none, ⟨(some 51), (.mov (.t 3)), none⟩, []⟩,
  ⟨8, none, ⟨(some 52), (.build [(.int .i64 0), (.int .i64 0), (.int .i64 0)] [(0, (1, (.t 49))), (1, (1, (.t 50))), (2, (1, (.t 51)))]), none⟩, []⟩,
  ⟨9, (some 0), ⟨(some 53), (.bslice false 3 1 [(.int .i64 0), (.int .i64 0), (.int .i64 0)] [(0, (3, (.t 52)))]), none⟩, []⟩,
  ⟨10, none, ⟨(some 54), (.app 3 24 (.t 48) (.t 53)), none⟩, [(0, ⟨(some 44), (.load none (.t 4)), none⟩)]⟩,
  ⟨11, none, ⟨(some 55), (.nilck (.t 44)), none⟩, []⟩,
  ⟨12, none, ⟨(some 56), (.faddr 2 (.t 55)), none⟩, []⟩,
  ⟨13, none, ⟨none, (.store 1 (.t 56) (.t 54)), none⟩, []⟩])
 (.seq (.kill [2, 4, 5] 0) (.seq (.region [
  ⟨(some 57), (.load none (.t 4)), none⟩,
  ⟨(some 58), (.nilck (.t 57)), none⟩,
  ⟨(some 59), (.faddr 2 (.t 58)), none⟩,
  ⟨(some 60), (.load none (.t 59)), none⟩,
  ⟨(some 61), (.call 78 [(.t 60), (.c (.c (.fn 79 [])))]), none⟩])
 (.seq (.kill [2, 4, 5] 0) (.seq (.draw 0 [
  ⟨0, none, ⟨(some 62), (.load none (.t 4)), none⟩, []⟩,
  ⟨1, none, ⟨(some 63), (.load none (.t 4)), none⟩, []⟩,
  ⟨2, none, ⟨(some 64), (.nilck (.t 63)), none⟩, []⟩,
  ⟨3, none, ⟨(some 65), (.faddr 1 (.t 64)), none⟩, []⟩,
  ⟨4, none, ⟨(some 66), (.load none (.t 65)), none⟩, []⟩,
  ⟨5, none, ⟨(some 67), (.mov (.t 2)), none⟩, []⟩,
  ⟨6, none, ⟨(some 68), (.bin .add .num (.t 67) (.c (.c (.int .i64 1)))), none⟩, []⟩,
  ⟨7, none, ⟨(some 69), (.min [(.t 66), (.t 68)]), none⟩, []⟩,
  ⟨8, none, ⟨(some 70), (.nilck (.t 62)), none⟩, []⟩,
  ⟨9, none, ⟨(some 71), (.faddr 1 (.t 70)), none⟩, []⟩,
  ⟨10, none, ⟨none, (.store 1 (.t 71) (.t 69)), none⟩, []⟩])
 (.seq (.kill [4, 5] 0) (.seq (.region [
  ⟨(some 72), (.load none (.t 4)), none⟩,
  ⟨(some 73), (.mkfn 80 [(.t 4)]), none⟩,
  ⟨(some 74), (.call 76 [(.t 72), (.t 73)]), none⟩])
 (.seq (.kill [4, 5] 0) (.seq (.seq (.region [
  ⟨(some 75), (.load none (.t 4)), none⟩,
  ⟨(some 76), (.nilck (.t 75)), none⟩,
  ⟨(some 77), (.faddr 2 (.t 76)), none⟩,
  ⟨(some 78), (.load none (.t 77)), none⟩,
  ⟨(some 79), (.len .sl (.t 78)), none⟩,
  ⟨(some 80), (.bin .gtr .num (.t 79) (.c (.c (.int .i64 3)))), none⟩])
 (.seq (.kill [4, 5, 80] 0) (.cond (.t 80)
 (.draw 0 [
   ⟨0, none, ⟨(some 81), (.load none (.t 4)), none⟩, []⟩,
   ⟨1, none, ⟨(some 82), (.load none (.t 4)), none⟩, []⟩,
   ⟨2, none, ⟨(some 83), (.nilck (.t 82)), none⟩, []⟩,
   ⟨3, none, ⟨(some 84), (.faddr 2 (.t 83)), none⟩, []⟩,
   ⟨4, none, ⟨(some 85), (.load none (.t 84)), none⟩, []⟩,
   ⟨5, none, ⟨(some 86), (.slice 3 (.t 85) none (some (.c (.c (.int .i64 3)))) none), none⟩, []⟩,
   ⟨6, none, ⟨(some 87), (.nilck (.t 81)), none⟩, []⟩,
   ⟨7, none, ⟨(some 88), (.faddr 2 (.t 87)), none⟩, []⟩,
   ⟨8, none, ⟨none, (.store 1 (.t 88) (.t 86)), none⟩, []⟩])
 (.skip))))
 (.seq (.kill [4, 5] 0) (.seq (.region [
  ⟨(some 90), (.load none (.t 4)), none⟩,
  ⟨(some 91), (.load none (.t 5)), none⟩,
  ⟨(some 92), (.call 62 [(.t 90), (.t 91)]), none⟩,
  ⟨(some 89), (.mov (.t 92)), none⟩,
  ⟨(some 93), (.ext (.t 89) 0), none⟩,
  ⟨(some 94), (.ext (.t 89) 1), none⟩,
  ⟨(some 9), (.mov (.t 93)), none⟩,
  ⟨(some 10), (.mov (.t 94)), none⟩])
 (.seq (.kill [10] 0) (.seq (.region [
  ⟨(some 95), (.mov (.t 10)), none⟩,
  ⟨(some 8), (.mov (.t 95)), none⟩])
 (.ret)))))))))))))))))))))⟩
/-- (*campanile/campanileref8.Set).Hear -/
def n59 : NF := ⟨162, [8],
 .seq (.region [
  ⟨(some 8), (.mov (.c (.c (.bool false)))), none⟩])
 (.seq (.kill [0, 1, 2, 3] 0) (.seq (.seq (.region [
  ⟨(some 15), (.mov (.t 1)), none⟩,
  ⟨(some 16), (.call 44 [(.t 15)]), none⟩,
  ⟨(some 17), (.un .not (.t 16)), none⟩,
  ⟨(some 18), (.mov (.t 17)), none⟩,
  ⟨(some 19), (.mov (.t 1)), (some (18, false))⟩,
  ⟨(some 20), (.mov (.t 0)), (some (18, false))⟩,
  ⟨(some 21), (.nilck (.t 20)), (some (18, false))⟩,
  ⟨(some 22), (.faddr 0 (.t 21)), (some (18, false))⟩,
  ⟨(some 23), (.load none (.t 22)), (some (18, false))⟩,
  ⟨(some 24), (.bin .eql .num (.t 19) (.t 23)), (some (18, false))⟩,
  ⟨(some 25), (.pick (.t 18) (.c (.c (.bool true))) (.t 24)), none⟩,
  ⟨(some 26), (.mov (.t 25)), none⟩,
  ⟨(some 27), (.mov (.t 2)), (some (26, false))⟩,
  ⟨(some 28), (.bin .lss .num (.t 27) (.c (.c (.int .i64 0)))), (some (26, false))⟩,
  ⟨(some 29), (.pick (.t 26) (.c (.c (.bool true))) (.t 28)), none⟩,
  ⟨(some 30), (.mov (.t 29)), none⟩,
  ⟨(some 31), (.mov (.t 2)), (some (30, false))⟩,
  ⟨(some 32), (.bin .gtr .num (.t 31) (.c (.c (.int .i64 255)))), (some (30, false))⟩,
  ⟨(some 33), (.pick (.t 30) (.c (.c (.bool true))) (.t 32)), none⟩,
  ⟨(some 34), (.mov (.t 33)), none⟩,
  ⟨(some 35), (.mov (.t 3)), (some (34, false))⟩,
  ⟨(some 36), (.bin .lss .num (.t 35) (.c (.c (.int .i64 0)))), (some (34, false))⟩,
  ⟨(some 37), (.pick (.t 34) (.c (.c (.bool true))) (.t 36)), none⟩])
 (.seq (.kill [0, 1, 2, 3, 37] 0) (.cond (.t 37)
 (.seq (.region [
   ⟨(some 8), (.mov (.c (.c (.bool false)))), none⟩])
  (.ret))
 (.skip))))
 (.seq (.kill [0, 1, 2, 3] 0) (.seq (.region [
  ⟨(some 38), (.mov (.t 0)), none⟩,
  ⟨(some 39), (.mov (.t 1)), none⟩,
  ⟨(some 40), (.call 81 [(.t 38), (.t 39)]), none⟩])
 (.seq (.kill [0, 1, 2, 3] 0) (.seq (.seq (.region [
  ⟨(some 41), (.mov (.t 2)), none⟩,
  ⟨(some 42), (.mov (.t 0)), none⟩,
  ⟨(some 43), (.nilck (.t 42)), none⟩,
  ⟨(some 44), (.faddr 1 (.t 43)), none⟩,
  ⟨(some 45), (.load none (.t 44)), none⟩,
  ⟨(some 46), (.bin .geq .num (.t 41) (.t 45)), none⟩])
 (.seq (.kill [0, 1, 2, 3, 46] 0) (.cond (.t 46)
 (.seq (.region [
   ⟨(some 8), (.mov (.c (.c (.bool false)))), none⟩])
  (.ret))
 (.skip))))
 (.seq (.kill [0, 1, 2, 3] 0) (.seq (.region [
  ⟨(some 9), (.mov (.c (.c (.int .i64 0)))), none⟩])
 (.seq (.kill [0, 1, 2, 3, 9] 0) (.seq (.block 0 (.loop (.seq (.kill [0, 1, 2, 3, 9] 0) (.seq (.seq (.region [
   ⟨(some 47), (.mov (.t 9)), none⟩,
   ⟨(some 48), (.mov (.t 0)), none⟩,
   ⟨(some 49), (.nilck (.t 48)), none⟩,
   ⟨(some 50), (.faddr 2 (.t 49)), none⟩,
   ⟨(some 51), (.load none (.t 50)), none⟩,
   ⟨(some 52), (.len .sl (.t 51)), none⟩,
   ⟨(some 53), (.bin .lss .num (.t 47) (.t 52)), none⟩,
   ⟨(some 54), (.mov (.t 53)), none⟩,
   ⟨(some 55), (.mov (.t 0)), (some (54, true))⟩,
   ⟨(some 56), (.nilck (.t 55)), (some (54, true))⟩,
   ⟨(some 57), (.faddr 2 (.t 56)), (some (54, true))⟩,
   ⟨(some 58), (.load none (.t 57)), (some (54, true))⟩,
   ⟨(some 59), (.mov (.t 9)), (some (54, true))⟩,
   ⟨(some 60), (.iaddr 3 (.t 58) (.t 59)), (some (54, true))⟩,
   ⟨(some 61), (.faddr 1 (.t 60)), (some (54, true))⟩,
   ⟨(some 62), (.load none (.t 61)), (some (54, true))⟩,
   ⟨(some 63), (.mov (.t 2)), (some (54, true))⟩,
   ⟨(some 64), (.bin .lss .num (.t 62) (.t 63)), (some (54, true))⟩,
   ⟨(some 65), (.mov (.t 64)), (some (54, true))⟩,
   ⟨(some 66), (.mov (.t 0)), (some (65, false))⟩,
   ⟨(some 67), (.nilck (.t 66)), (some (65, false))⟩,
   ⟨(some 68), (.faddr 2 (.t 67)), (some (65, false))⟩,
   ⟨(some 69), (.load none (.t 68)), (some (65, false))⟩,
   ⟨(some 70), (.mov (.t 9)), (some (65, false))⟩,
   ⟨(some 71), (.iaddr 3 (.t 69) (.t 70)), (some (65, false))⟩,
   ⟨(some 72), (.faddr 1 (.t 71)), (some (65, false))⟩,
   ⟨(some 73), (.load none (.t 72)), (some (65, false))⟩,
   ⟨(some 74), (.mov (.t 2)), (some (65, false))⟩,
   ⟨(some 75), (.bin .eql .num (.t 73) (.t 74)), (some (65, false))⟩,
   ⟨(some 76), (.mov (.t 75)), (some (65, false))⟩,
   ⟨(some 77), (.mov (.t 0)), (some (76, true))⟩,
   ⟨(some 78), (.nilck (.t 77)), (some (76, true))⟩,
   ⟨(some 79), (.faddr 2 (.t 78)), (some (76, true))⟩,
   ⟨(some 80), (.load none (.t 79)), (some (76, true))⟩,
   ⟨(some 81), (.mov (.t 9)), (some (76, true))⟩,
   ⟨(some 82), (.iaddr 3 (.t 80) (.t 81)), (some (76, true))⟩,
   ⟨(some 83), (.faddr 0 (.t 82)), (some (76, true))⟩,
   ⟨(some 84), (.load none (.t 83)), (some (76, true))⟩,
   ⟨(some 85), (.mov (.t 1)), (some (76, true))⟩,
   ⟨(some 86), (.bin .lss .num (.t 84) (.t 85)), (some (76, true))⟩,
   ⟨(some 87), (.pick (.t 76) (.t 86) (.c (.c (.bool false)))), (some (65, false))⟩,
   ⟨(some 88), (.pick (.t 65) (.c (.c (.bool true))) (.t 87)), (some (54, true))⟩,
   ⟨(some 89), (.pick (.t 54) (.t 88) (.c (.c (.bool false)))), none⟩])
  (.seq (.kill [0, 1, 2, 3, 9, 89] 0) (.cond (.t 89)
  (.skip)
  (.exit 0))))
  (.seq (.kill [0, 1, 2, 3, 9] 0) (.block 1 (.region [
   ⟨(some 90), (.mov (.t 9)), none⟩,
   ⟨(some 91), (.bin .add .num (.t 90) (.c (.c (.int .i64 1)))), none⟩,
   ⟨(some 9), (.mov (.t 91)), none⟩])))))))
 (.seq (.kill [0, 1, 2, 3, 9] 0) (.seq (.draw 1 [
  ⟨0, none, ⟨(some 92), (.mov (.t 0)), none⟩, []⟩,
  ⟨1, none, ⟨(some 93), (.mov (.t 0)), none⟩, []⟩,
  ⟨2, none, ⟨(some 94), (.nilck (.t 93)), none⟩, []⟩,
  ⟨3, none, ⟨(some 95), (.faddr 2 (.t 94)), none⟩, []⟩,
  ⟨4, none, ⟨(some 96), (.load none (.t 95)), none⟩, []⟩,
  ⟨5, none, ⟨(some 97), (.mov (.t 9)), none⟩, []⟩,
  ⟨6, none, ⟨(some 98), (.slice 3 (.t 96) none (some (.t 97)) none), none⟩, []⟩,
  ⟨8, none, ⟨(some 100), (.mov (.t 1)), none⟩, []⟩,
  ⟨9, none, ⟨(some 101), (.mov (.t 2)), none⟩, []⟩,
  ⟨10, none, ⟨(some 102), (.mov (.t 3)), none⟩, []⟩,
  ⟨11, none, ⟨(some 103), (.build [(.int .i64 0), (.int .i64 0), (.int .i64 0)] [(0, (1, (.t 100))), (1, (1, (.t 101))), (2, (1, (.t 102)))]), none⟩, []⟩,
  ⟨14, none, ⟨(some 106), (.mov (.t 0)), none⟩, []⟩,
  ⟨15, none, ⟨(some 107), (.nilck (.t 106)), none⟩, []⟩,
  ⟨16, none, ⟨(some 108), (.faddr 2 (.t 107)), none⟩, []⟩,
  ⟨17, none, ⟨(some 109), (.load none (.t 108)), none⟩, []⟩,
  ⟨18, none, ⟨(some 110), (.mov (.t 9)), none⟩, []⟩,
  ⟨19, none, ⟨(some 111), (.slice 3 (.t 109) (some (.t 110)) none none), none⟩, []⟩,
  ⟨7, none, ⟨(some 99), (.app 3 24 (.c (.c .nils)) (.t 98)), none⟩, [(17, ⟨(some 109), (.load none (.t 108)), none⟩), (19, ⟨(some 111), (.slice 3 (.t 109) (some (.t 110)) none none), none⟩)]⟩,
  ⟨12, (some 0), ⟨(some 104), (.bslice false 3 1 [(.int .i64 0), (.int .i64 0), (.int .i64 0)] [(0, (3, (.t 103)))]), none⟩, []⟩,
  ⟨13, none, ⟨(some 105), (.app 3 24 (.t 99) (.t 104)), none⟩, [(17, ⟨(some 109), (.load none (.t 108)), none⟩), (19, ⟨(some 111), (.slice 3 (.t 109) (some (.t 110)) none none), none⟩)]⟩,
  ⟨20, none, ⟨(some 112), (.app 3 24 (.t 105) (.t 111)), none⟩, []⟩,
  ⟨21, none, ⟨(some 113), (.nilck (.t 92)), none⟩, []⟩,
  ⟨22, none, ⟨(some 114), (.faddr 2 (.t 113)), none⟩, []⟩,
  ⟨23, none, ⟨none, (.store 1 (.t 114) (.t 112)), none⟩, []⟩])
 (.seq (.kill [0, 1, 2] 0) (.seq (.region [
  ⟨(some 115), (.mov (.t 0)), none⟩,
  ⟨(some 116), (.mov (.t 0)), none⟩,
  ⟨(some 117), (.nilck (.t 116)), none⟩,
  ⟨(some 118), (.faddr 1 (.t 117)), none⟩,
  ⟨(some 119), (.load none (.t 118)), none⟩,
  ⟨(some 120), (.mov (.t 2)), none⟩,
  ⟨(some 121), (.bin .add .num (.t 120) (.c (.c (.int .i64 1)))), none⟩,
  ⟨(some 122), (.min [(.t 119), (.t 121)]), none⟩,
  ⟨(some 123), (.nilck (.t 115)), none⟩,
  ⟨(some 124), (.faddr 1 (.t 123)), none⟩,
  ⟨none, (.store 1 (.t 124) (.t 122)), none⟩])
 (.seq (.kill [0, 1] 0) (.seq (.region [
  ⟨(some 10), (.mov (.c (.c .nils))), none⟩])
 (.seq (.kill [0, 1, 10] 0) (.seq (.seq (.region [
  ⟨(some 125), (.mov (.t 0)), none⟩,
  ⟨(some 126), (.nilck (.t 125)), none⟩,
  ⟨(some 127), (.faddr 2 (.t 126)), none⟩,
  ⟨(some 128), (.load none (.t 127)), none⟩,
  ⟨(some 129), (.len .sl (.t 128)), none⟩,
  ⟨(some 130), (.mov (.c (.c (.int .i64 0)))), none⟩])
 (.seq (.kill [0, 1, 10, 128, 129, 130] 0) (.block 2 (.loop (.seq (.kill [0, 1, 10, 128, 129, 130] 0) (.seq (.region [
   ⟨(some 131), (.bin .lss .num (.t 130) (.t 129)), none⟩])
  (.seq (.kill [0, 1, 10, 128, 129, 130, 131] 0) (.seq (.cond (.t 131)
  (.skip)
  (.exit 2))
  (.seq (.kill [0, 1, 10, 128, 129, 130] 0) (.seq (.block 3 (.seq (.region [
   ⟨(some 132), (.iaddr 3 (.t 128) (.t 130)), none⟩,
   ⟨(some 133), (.load (some 3) (.t 132)), none⟩,
   ⟨(some 12), (.box true 3 (.c (.agg [(.int .i64 0), (.int .i64 0), (.int .i64 0)]))), none⟩,
   ⟨none, (.store 3 (.t 12) (.t 133)), none⟩])
  (.seq (.kill [0, 1, 10, 12, 128, 129, 130] 1) (.seq (.draw 0 [
   ⟨0, none, ⟨(some 134), (.faddr 1 (.t 12)), none⟩, []⟩,
   ⟨1, none, ⟨(some 135), (.load none (.t 134)), none⟩, []⟩,
   ⟨2, none, ⟨(some 136), (.mov (.t 0)), none⟩, []⟩,
   ⟨3, none, ⟨(some 137), (.nilck (.t 136)), none⟩, []⟩,
   ⟨4, none, ⟨(some 138), (.faddr 1 (.t 137)), none⟩, []⟩,
   ⟨5, none, ⟨(some 139), (.load none (.t 138)), none⟩, []⟩,
   ⟨6, none, ⟨(some 140), (.bin .lss .num (.t 135) (.t 139)), none⟩, []⟩,
   ⟨7, none, ⟨(some 141), (.mov (.t 140)), none⟩, []⟩,
   ⟨8, none, ⟨(some 142), (.mov (.t 10)), (some (141, true))⟩, []⟩,
   ⟨9, none, ⟨(some 143), (.len .sl (.t 142)), (some (141, true))⟩, []⟩,
   ⟨10, none, ⟨(some 144), (.bin .lss .num (.t 143) (.c (.c (.int .i64 3)))), (some (141, true))⟩, []⟩,
   ⟨11, none, ⟨(some 145), (.pick (.t 141) (.t 144) (.c (.c (.bool false)))), none⟩, []⟩])
  (.seq (.kill [0, 1, 10, 12, 128, 129, 130, 145] 1) (.cond (.t 145)
  (.region [
    ⟨(some 146), (.mov (.t 10)), none⟩,
    ⟨(some 147), (.load (some 3) (.t 12)), none⟩,
    ⟨(some 148), (.bslice true 3 1 [(.int .i64 0), (.int .i64 0), (.int .i64 0)] [(0, (3, (.t 147)))]), none⟩,
    ⟨(some 149), (.app 3 24 (.t 146) (.t 148)), none⟩,
    ⟨(some 10), (.mov (.t 149)), none⟩])
  (.skip)))))))
  (.seq (.kill [0, 1, 10, 128, 129, 130] 0) (.region [
   ⟨(some 150), (.bin .add .num (.t 130) (.c (.c (.int .i64 1)))), none⟩,
   ⟨(some 130), (.mov (.t 150)), none⟩]))))))))))))
 (.seq (.kill [0, 1, 10] 0) (.seq (.region [
  ⟨(some 151), (.mov (.t 0)), none⟩,
  ⟨(some 152), (.mov (.t 10)), none⟩,
  ⟨(some 153), (.nilck (.t 151)), none⟩,
  ⟨(some 154), (.faddr 2 (.t 153)), none⟩,
  ⟨none, (.store 1 (.t 154) (.t 152)), none⟩])
 (.seq (.kill [0, 1] 0) (.seq (.region [
  ⟨(some 156), (.mov (.t 0)), none⟩,
  ⟨(some 157), (.mov (.t 1)), none⟩,
  ⟨(some 158), (.call 63 [(.t 156), (.t 157)]), none⟩,
  ⟨(some 155), (.mov (.t 158)), none⟩,
  ⟨(some 159), (.ext (.t 155) 0), none⟩,
  ⟨(some 160), (.ext (.t 155) 1), none⟩,
  ⟨(some 13), (.mov (.t 159)), none⟩,
  ⟨(some 14), (.mov (.t 160)), none⟩])
 (.seq (.kill [14] 0) (.seq (.region [
  ⟨(some 161), (.mov (.t 14)), none⟩,
  ⟨(some 8), (.mov (.t 161)), none⟩])
 (.ret)))))))))))))))))))))))))⟩
/-- (*campanile/parents.Set).First -/
def n60 : NF := ⟨21, [2, 3],
 .seq (.region [
  ⟨(some 2), (.mov (.c (.c (.int .i64 0)))), none⟩,
  ⟨(some 3), (.mov (.c (.c (.bool false)))), none⟩])
 (.seq (.kill [0] 0) (.seq (.seq (.region [
  ⟨(some 4), (.mov (.t 0)), none⟩,
  ⟨(some 5), (.bin .eql .ptr (.t 4) (.c (.c .nilp))), none⟩,
  ⟨(some 6), (.mov (.t 5)), none⟩,
  ⟨(some 7), (.mov (.t 0)), (some (6, false))⟩,
  ⟨(some 8), (.nilck (.t 7)), (some (6, false))⟩,
  ⟨(some 9), (.faddr 2 (.t 8)), (some (6, false))⟩,
  ⟨(some 10), (.load none (.t 9)), (some (6, false))⟩,
  ⟨(some 11), (.len .sl (.t 10)), (some (6, false))⟩,
  ⟨(some 12), (.bin .eql .num (.t 11) (.c (.c (.int .i64 0)))), (some (6, false))⟩,
  ⟨(some 13), (.pick (.t 6) (.c (.c (.bool true))) (.t 12)), none⟩])
 (.seq (.kill [0, 13] 0) (.cond (.t 13)
 (.seq (.region [
   ⟨(some 2), (.mov (.c (.c (.int .i64 0)))), none⟩,
   ⟨(some 3), (.mov (.c (.c (.bool false)))), none⟩])
  (.ret))
 (.skip))))
 (.seq (.kill [0] 0) (.seq (.region [
  ⟨(some 14), (.mov (.t 0)), none⟩,
  ⟨(some 15), (.nilck (.t 14)), none⟩,
  ⟨(some 16), (.faddr 2 (.t 15)), none⟩,
  ⟨(some 17), (.load none (.t 16)), none⟩,
  ⟨(some 18), (.iaddr 3 (.t 17) (.c (.c (.int .i64 0)))), none⟩,
  ⟨(some 19), (.faddr 1 (.t 18)), none⟩,
  ⟨(some 20), (.load none (.t 19)), none⟩,
  ⟨(some 2), (.mov (.t 20)), none⟩,
  ⟨(some 3), (.mov (.c (.c (.bool true)))), none⟩])
 (.ret)))))⟩
/-- (*campanile/campanileref8.Set).First -/
def n61 : NF := ⟨17, [2, 3],
 .seq (.region [
  ⟨(some 2), (.mov (.c (.c (.int .i64 0)))), none⟩,
  ⟨(some 3), (.mov (.c (.c (.bool false)))), none⟩])
 (.seq (.kill [0] 0) (.seq (.seq (.region [
  ⟨(some 4), (.mov (.t 0)), none⟩,
  ⟨(some 5), (.nilck (.t 4)), none⟩,
  ⟨(some 6), (.faddr 2 (.t 5)), none⟩,
  ⟨(some 7), (.load none (.t 6)), none⟩,
  ⟨(some 8), (.len .sl (.t 7)), none⟩,
  ⟨(some 9), (.bin .eql .num (.t 8) (.c (.c (.int .i64 0)))), none⟩])
 (.seq (.kill [0, 9] 0) (.cond (.t 9)
 (.seq (.region [
   ⟨(some 2), (.mov (.c (.c (.int .i64 0)))), none⟩,
   ⟨(some 3), (.mov (.c (.c (.bool false)))), none⟩])
  (.ret))
 (.skip))))
 (.seq (.kill [0] 0) (.seq (.region [
  ⟨(some 10), (.mov (.t 0)), none⟩,
  ⟨(some 11), (.nilck (.t 10)), none⟩,
  ⟨(some 12), (.faddr 2 (.t 11)), none⟩,
  ⟨(some 13), (.load none (.t 12)), none⟩,
  ⟨(some 14), (.iaddr 3 (.t 13) (.c (.c (.int .i64 0)))), none⟩,
  ⟨(some 15), (.faddr 0 (.t 14)), none⟩,
  ⟨(some 16), (.load none (.t 15)), none⟩,
  ⟨(some 2), (.mov (.t 16)), none⟩,
  ⟨(some 3), (.mov (.c (.c (.bool true)))), none⟩])
 (.ret)))))⟩
/-- (*campanile/parents.Set).RankOf -/
def n62 : NF := ⟨26, [4, 5],
 .seq (.region [
  ⟨(some 4), (.mov (.c (.c (.int .i64 0)))), none⟩,
  ⟨(some 5), (.mov (.c (.c (.bool false)))), none⟩])
 (.seq (.kill [0, 1] 0) (.seq (.seq (.region [
  ⟨(some 8), (.mov (.t 0)), none⟩,
  ⟨(some 9), (.bin .eql .ptr (.t 8) (.c (.c .nilp))), none⟩])
 (.seq (.kill [0, 1, 9] 0) (.cond (.t 9)
 (.seq (.region [
   ⟨(some 4), (.mov (.c (.c (.int .i64 0)))), none⟩,
   ⟨(some 5), (.mov (.c (.c (.bool false)))), none⟩])
  (.ret))
 (.skip))))
 (.seq (.kill [0, 1] 0) (.seq (.seq (.region [
  ⟨(some 10), (.mov (.t 0)), none⟩,
  ⟨(some 11), (.nilck (.t 10)), none⟩,
  ⟨(some 12), (.faddr 2 (.t 11)), none⟩,
  ⟨(some 13), (.load none (.t 12)), none⟩,
  ⟨(some 14), (.len .sl (.t 13)), none⟩,
  ⟨(some 15), (.mov (.c (.c (.int .i64 0)))), none⟩])
 (.seq (.kill [1, 13, 14, 15] 0) (.block 0 (.loop (.seq (.kill [1, 13, 14, 15] 0) (.seq (.region [
   ⟨(some 16), (.bin .lss .num (.t 15) (.t 14)), none⟩])
  (.seq (.kill [1, 13, 14, 15, 16] 0) (.seq (.cond (.t 16)
  (.skip)
  (.exit 0))
  (.seq (.kill [1, 13, 14, 15] 0) (.seq (.block 1 (.seq (.region [
   ⟨(some 17), (.iaddr 3 (.t 13) (.t 15)), none⟩,
   ⟨(some 18), (.load (some 3) (.t 17)), none⟩,
   ⟨(some 7), (.box true 3 (.c (.agg [(.int .i64 0), (.int .i64 0), (.int .i64 0)]))), none⟩,
   ⟨none, (.store 3 (.t 7) (.t 18)), none⟩])
  (.seq (.kill [1, 7, 13, 14, 15] 1) (.seq (.region [
   ⟨(some 19), (.faddr 1 (.t 7)), none⟩,
   ⟨(some 20), (.load none (.t 19)), none⟩,
   ⟨(some 21), (.mov (.t 1)), none⟩,
   ⟨(some 22), (.bin .eql .num (.t 20) (.t 21)), none⟩])
  (.seq (.kill [1, 7, 13, 14, 15, 22] 1) (.cond (.t 22)
  (.seq (.region [
    ⟨(some 23), (.faddr 0 (.t 7)), none⟩,
    ⟨(some 24), (.load none (.t 23)), none⟩,
    ⟨(some 4), (.mov (.t 24)), none⟩,
    ⟨(some 5), (.mov (.c (.c (.bool true)))), none⟩])
   (.ret))
  (.skip)))))))
  (.seq (.kill [1, 13, 14, 15] 0) (.region [
   ⟨(some 25), (.bin .add .num (.t 15) (.c (.c (.int .i64 1)))), none⟩,
   ⟨(some 15), (.mov (.t 25)), none⟩]))))))))))))
 (.seq (.kill [] 0) (.seq (.region [
  ⟨(some 4), (.mov (.c (.c (.int .i64 0)))), none⟩,
  ⟨(some 5), (.mov (.c (.c (.bool false)))), none⟩])
 (.ret)))))))⟩
/-- (*campanile/campanileref8.Set).RankOf -/
def n63 : NF := ⟨24, [4, 5],
 .seq (.region [
  ⟨(some 4), (.mov (.c (.c (.int .i64 0)))), none⟩,
  ⟨(some 5), (.mov (.c (.c (.bool false)))), none⟩])
 (.seq (.kill [0, 1] 0) (.seq (.seq (.region [
  ⟨(some 8), (.mov (.t 0)), none⟩,
  ⟨(some 9), (.nilck (.t 8)), none⟩,
  ⟨(some 10), (.faddr 2 (.t 9)), none⟩,
  ⟨(some 11), (.load none (.t 10)), none⟩,
  ⟨(some 12), (.len .sl (.t 11)), none⟩,
  ⟨(some 13), (.mov (.c (.c (.int .i64 0)))), none⟩])
 (.seq (.kill [1, 11, 12, 13] 0) (.block 0 (.loop (.seq (.kill [1, 11, 12, 13] 0) (.seq (.region [
   ⟨(some 14), (.bin .lss .num (.t 13) (.t 12)), none⟩])
  (.seq (.kill [1, 11, 12, 13, 14] 0) (.seq (.cond (.t 14)
  (.skip)
  (.exit 0))
  (.seq (.kill [1, 11, 12, 13] 0) (.seq (.block 1 (.seq (.region [
   ⟨(some 15), (.iaddr 3 (.t 11) (.t 13)), none⟩,
   ⟨(some 16), (.load (some 3) (.t 15)), none⟩,
   ⟨(some 7), (.box true 3 (.c (.agg [(.int .i64 0), (.int .i64 0), (.int .i64 0)]))), none⟩,
   ⟨none, (.store 3 (.t 7) (.t 16)), none⟩])
  (.seq (.kill [1, 7, 11, 12, 13] 1) (.seq (.region [
   ⟨(some 17), (.faddr 0 (.t 7)), none⟩,
   ⟨(some 18), (.load none (.t 17)), none⟩,
   ⟨(some 19), (.mov (.t 1)), none⟩,
   ⟨(some 20), (.bin .eql .num (.t 18) (.t 19)), none⟩])
  (.seq (.kill [1, 7, 11, 12, 13, 20] 1) (.cond (.t 20)
  (.seq (.region [
    ⟨(some 21), (.faddr 1 (.t 7)), none⟩,
    ⟨(some 22), (.load none (.t 21)), none⟩,
    ⟨(some 4), (.mov (.t 22)), none⟩,
    ⟨(some 5), (.mov (.c (.c (.bool true)))), none⟩])
   (.ret))
  (.skip)))))))
  (.seq (.kill [1, 11, 12, 13] 0) (.region [
   ⟨(some 23), (.bin .add .num (.t 13) (.c (.c (.int .i64 1)))), none⟩,
   ⟨(some 13), (.mov (.t 23)), none⟩]))))))))))))
 (.seq (.kill [] 0) (.seq (.region [
  ⟨(some 4), (.mov (.c (.c (.int .i64 0)))), none⟩,
  ⟨(some 5), (.mov (.c (.c (.bool false)))), none⟩])
 (.ret)))))⟩
/-- (*campanile/parents.Set).All -/
def n64 : NF := ⟨24, [2],
 .seq (.region [
  ⟨(some 2), (.mov (.c (.c .nils))), none⟩])
 (.seq (.kill [0] 0) (.seq (.seq (.region [
  ⟨(some 6), (.mov (.t 0)), none⟩,
  ⟨(some 7), (.bin .eql .ptr (.t 6) (.c (.c .nilp))), none⟩])
 (.seq (.kill [0, 7] 0) (.cond (.t 7)
 (.seq (.region [
   ⟨(some 2), (.mov (.c (.c .nils))), none⟩])
  (.ret))
 (.skip))))
 (.seq (.kill [0] 0) (.seq (.region [
  ⟨(some 3), (.mov (.c (.c .nils))), none⟩])
 (.seq (.kill [0, 3] 0) (.seq (.seq (.region [
  ⟨(some 8), (.mov (.t 0)), none⟩,
  ⟨(some 9), (.nilck (.t 8)), none⟩,
  ⟨(some 10), (.faddr 2 (.t 9)), none⟩,
  ⟨(some 11), (.load none (.t 10)), none⟩,
  ⟨(some 12), (.len .sl (.t 11)), none⟩,
  ⟨(some 13), (.mov (.c (.c (.int .i64 0)))), none⟩])
 (.seq (.kill [3, 11, 12, 13] 0) (.block 0 (.loop (.seq (.kill [3, 11, 12, 13] 0) (.seq (.region [
   ⟨(some 14), (.bin .lss .num (.t 13) (.t 12)), none⟩])
  (.seq (.kill [3, 11, 12, 13, 14] 0) (.seq (.cond (.t 14)
  (.skip)
  (.exit 0))
  (.seq (.kill [3, 11, 12, 13] 0) (.seq (.block 1 (.seq (.region [
   ⟨(some 15), (.iaddr 3 (.t 11) (.t 13)), none⟩,
   ⟨(some 16), (.load (some 3) (.t 15)), none⟩,
   ⟨(some 5), (.box true 3 (.c (.agg [(.int .i64 0), (.int .i64 0), (.int .i64 0)]))), none⟩,
   ⟨none, (.store 3 (.t 5) (.t 16)), none⟩])
  (.seq (.kill [3, 5, 11, 12, 13] 1) (.region [
   ⟨(some 17), (.mov (.t 3)), none⟩,
   ⟨(some 18), (.faddr 1 (.t 5)), none⟩,
   ⟨(some 19), (.load none (.t 18)), none⟩,
   ⟨(some 20), (.bslice true 1 1 [(.int .i64 0)] [(0, (1, (.t 19)))]), none⟩,
   ⟨(some 21), (.app 1 8 (.t 17) (.t 20)), none⟩,
   ⟨(some 3), (.mov (.t 21)), none⟩]))))
  (.seq (.kill [3, 11, 12, 13] 0) (.region [
   ⟨(some 22), (.bin .add .num (.t 13) (.c (.c (.int .i64 1)))), none⟩,
   ⟨(some 13), (.mov (.t 22)), none⟩]))))))))))))
 (.seq (.kill [3] 0) (.seq (.region [
  ⟨(some 23), (.mov (.t 3)), none⟩,
  ⟨(some 2), (.mov (.t 23)), none⟩])
 (.ret)))))))))⟩
/-- (*campanile/campanileref8.Set).All -/
def n65 : NF := ⟨22, [2],
 .seq (.region [
  ⟨(some 2), (.mov (.c (.c .nils))), none⟩])
 (.seq (.kill [0] 0) (.seq (.region [
  ⟨(some 3), (.mov (.c (.c .nils))), none⟩])
 (.seq (.kill [0, 3] 0) (.seq (.seq (.region [
  ⟨(some 6), (.mov (.t 0)), none⟩,
  ⟨(some 7), (.nilck (.t 6)), none⟩,
  ⟨(some 8), (.faddr 2 (.t 7)), none⟩,
  ⟨(some 9), (.load none (.t 8)), none⟩,
  ⟨(some 10), (.len .sl (.t 9)), none⟩,
  ⟨(some 11), (.mov (.c (.c (.int .i64 0)))), none⟩])
 (.seq (.kill [3, 9, 10, 11] 0) (.block 0 (.loop (.seq (.kill [3, 9, 10, 11] 0) (.seq (.region [
   ⟨(some 12), (.bin .lss .num (.t 11) (.t 10)), none⟩])
  (.seq (.kill [3, 9, 10, 11, 12] 0) (.seq (.cond (.t 12)
  (.skip)
  (.exit 0))
  (.seq (.kill [3, 9, 10, 11] 0) (.seq (.block 1 (.seq (.region [
   ⟨(some 13), (.iaddr 3 (.t 9) (.t 11)), none⟩,
   ⟨(some 14), (.load (some 3) (.t 13)), none⟩,
   ⟨(some 5), (.box true 3 (.c (.agg [(.int .i64 0), (.int .i64 0), (.int .i64 0)]))), none⟩,
   ⟨none, (.store 3 (.t 5) (.t 14)), none⟩])
  (.seq (.kill [3, 5, 9, 10, 11] 1) (.region [
   ⟨(some 15), (.mov (.t 3)), none⟩,
   ⟨(some 16), (.faddr 0 (.t 5)), none⟩,
   ⟨(some 17), (.load none (.t 16)), none⟩,
   ⟨(some 18), (.bslice true 1 1 [(.int .i64 0)] [(0, (1, (.t 17)))]), none⟩,
   ⟨(some 19), (.app 1 8 (.t 15) (.t 18)), none⟩,
   ⟨(some 3), (.mov (.t 19)), none⟩]))))
  (.seq (.kill [3, 9, 10, 11] 0) (.region [
   ⟨(some 20), (.bin .add .num (.t 11) (.c (.c (.int .i64 1)))), none⟩,
   ⟨(some 11), (.mov (.t 20)), none⟩]))))))))))))
 (.seq (.kill [3] 0) (.seq (.region [
  ⟨(some 21), (.mov (.t 3)), none⟩,
  ⟨(some 2), (.mov (.t 21)), none⟩])
 (.ret)))))))⟩
/-- (*campanile/parents.Set).Rank -/
def n66 : NF := ⟨9, [2],
 .seq (.region [
  ⟨(some 2), (.mov (.c (.c (.int .i64 0)))), none⟩])
 (.seq (.kill [0] 0) (.seq (.seq (.region [
  ⟨(some 3), (.mov (.t 0)), none⟩,
  ⟨(some 4), (.bin .eql .ptr (.t 3) (.c (.c .nilp))), none⟩])
 (.seq (.kill [0, 4] 0) (.cond (.t 4)
 (.seq (.region [
   ⟨(some 2), (.mov (.c (.c (.int .i64 0)))), none⟩])
  (.ret))
 (.skip))))
 (.seq (.kill [0] 0) (.seq (.region [
  ⟨(some 5), (.mov (.t 0)), none⟩,
  ⟨(some 6), (.nilck (.t 5)), none⟩,
  ⟨(some 7), (.faddr 1 (.t 6)), none⟩,
  ⟨(some 8), (.load none (.t 7)), none⟩,
  ⟨(some 2), (.mov (.t 8)), none⟩])
 (.ret)))))⟩
/-- campanile/campanilelaw14.s2 -/
def n72 : NF := ⟨5, [2],
 .seq (.region [
  ⟨(some 2), (.mov (.c (.c .nils))), none⟩])
 (.seq (.kill [0] 0) (.seq (.seq (.region [
  ⟨(some 3), (.mov (.t 0)), none⟩])
 (.seq (.kill [3] 0) (.cond (.t 3)
 (.seq (.region [
   ⟨(some 4), (.bslice false 1 1 [(.int .i64 0)] [(0, (1, (.c (.c (.int .i64 4)))))]), none⟩,
   ⟨(some 2), (.mov (.t 4)), none⟩])
  (.ret))
 (.skip))))
 (.seq (.kill [] 0) (.seq (.region [
  ⟨(some 2), (.mov (.c (.c .nils))), none⟩])
 (.ret)))))⟩
/-- campanile/parents.in -/
def n73 : NF := ⟨15, [6],
 .seq (.region [
  ⟨(some 6), (.mov (.c (.c (.bool false)))), none⟩])
 (.seq (.kill [0, 1, 2] 0) (.seq (.region [
  ⟨(some 7), (.mov (.t 0)), none⟩,
  ⟨(some 8), (.mov (.t 1)), none⟩,
  ⟨(some 9), (.bin .geq .num (.t 7) (.t 8)), none⟩,
  ⟨(some 10), (.mov (.t 9)), none⟩,
  ⟨(some 11), (.mov (.t 0)), (some (10, true))⟩,
  ⟨(some 12), (.mov (.t 2)), (some (10, true))⟩,
  ⟨(some 13), (.bin .leq .num (.t 11) (.t 12)), (some (10, true))⟩,
  ⟨(some 14), (.pick (.t 10) (.t 13) (.c (.c (.bool false)))), none⟩,
  ⟨(some 6), (.mov (.t 14)), none⟩])
 (.ret)))⟩
/-- campanile/campanileref1.Node -/
def n44 : NF := ⟨9, [2],
 .seq (.region [
  ⟨(some 2), (.mov (.c (.c (.bool false)))), none⟩])
 (.seq (.kill [0] 0) (.seq (.region [
  ⟨(some 3), (.mov (.t 0)), none⟩,
  ⟨(some 4), (.bin .geq .num (.t 3) (.c (.c (.int .i64 0)))), none⟩,
  ⟨(some 5), (.mov (.t 4)), none⟩,
  ⟨(some 6), (.mov (.t 0)), (some (5, true))⟩,
  ⟨(some 7), (.bin .lss .num (.t 6) (.c (.c (.int .i64 16)))), (some (5, true))⟩,
  ⟨(some 8), (.pick (.t 5) (.t 7) (.c (.c (.bool false)))), none⟩,
  ⟨(some 2), (.mov (.t 8)), none⟩])
 (.ret)))⟩
/-- slices.Sort[[]int,int] -/
def n74 : NF := ⟨11, [],
 .seq (.region [
  ⟨(some 3), (.mov (.t 0)), none⟩,
  ⟨(some 4), (.len .sl (.t 3)), none⟩,
  ⟨(some 2), (.mov (.t 4)), none⟩])
 (.seq (.kill [0, 2] 0) (.region [
  ⟨(some 5), (.mov (.t 0)), none⟩,
  ⟨(some 6), (.mov (.t 2)), none⟩,
  ⟨(some 7), (.mov (.t 2)), none⟩,
  ⟨(some 8), (.conv (.toInt .u64) (.t 7)), none⟩,
  ⟨(some 9), (.call 82 [(.t 8)]), none⟩,
  ⟨(some 10), (.call 83 [(.t 5), (.c (.c (.int .i64 0))), (.t 6), (.t 9)]), none⟩]))⟩
/-- (*campanile/parents.Set).lets -/
def n76 : NF := ⟨13, [],
 .region [
  ⟨(some 4), (.mov (.t 0)), none⟩,
  ⟨(some 5), (.mov (.t 0)), none⟩,
  ⟨(some 6), (.nilck (.t 5)), none⟩,
  ⟨(some 7), (.faddr 2 (.t 6)), none⟩,
  ⟨(some 8), (.load none (.t 7)), none⟩,
  ⟨(some 9), (.mov (.t 1)), none⟩,
  ⟨(some 10), (.call 84 [(.t 8), (.t 9)]), none⟩,
  ⟨(some 11), (.nilck (.t 4)), none⟩,
  ⟨(some 12), (.faddr 2 (.t 11)), none⟩,
  ⟨none, (.store 1 (.t 12) (.t 10)), none⟩]⟩
/-- (*campanile/parents.Set).Old$1 -/
def n75 : NF := ⟨8, [3],
 .seq (.region [
  ⟨(some 2), (.box true 3 (.t 0)), none⟩,
  ⟨(some 3), (.mov (.c (.c (.bool false)))), none⟩])
 (.seq (.kill [1, 2] 1) (.seq (.region [
  ⟨(some 4), (.faddr 2 (.t 2)), none⟩,
  ⟨(some 5), (.load none (.t 4)), none⟩,
  ⟨(some 6), (.load none (.t 1)), none⟩,
  ⟨(some 7), (.bin .leq .num (.t 5) (.t 6)), none⟩,
  ⟨(some 3), (.mov (.t 7)), none⟩])
 (.ret)))⟩
/-- (*campanile/parents.Set).Hear$1 -/
def n77 : NF := ⟨8, [3],
 .seq (.region [
  ⟨(some 2), (.box true 3 (.t 0)), none⟩,
  ⟨(some 3), (.mov (.c (.c (.bool false)))), none⟩])
 (.seq (.kill [1, 2] 1) (.seq (.region [
  ⟨(some 4), (.faddr 1 (.t 2)), none⟩,
  ⟨(some 5), (.load none (.t 4)), none⟩,
  ⟨(some 6), (.load none (.t 1)), none⟩,
  ⟨(some 7), (.bin .eql .num (.t 5) (.t 6)), none⟩,
  ⟨(some 3), (.mov (.t 7)), none⟩])
 (.ret)))⟩
/-- slices.SortFunc[[]campanile/parents.parent,campanile/parents.parent] -/
def n78 : NF := ⟨14, [],
 .seq (.region [
  ⟨(some 5), (.mov (.t 0)), none⟩,
  ⟨(some 6), (.len .sl (.t 5)), none⟩,
  ⟨(some 4), (.mov (.t 6)), none⟩])
 (.seq (.kill [0, 1, 4] 0) (.region [
  ⟨(some 7), (.mov (.t 0)), none⟩,
  ⟨(some 8), (.mov (.t 4)), none⟩,
  ⟨(some 9), (.mov (.t 4)), none⟩,
  ⟨(some 10), (.conv (.toInt .u64) (.t 9)), none⟩,
  ⟨(some 11), (.call 82 [(.t 10)]), none⟩,
  ⟨(some 12), (.mov (.t 1)), none⟩,
  ⟨(some 13), (.call 85 [(.t 7), (.c (.c (.int .i64 0))), (.t 8), (.t 11), (.t 12)]), none⟩]))⟩
/-- campanile/parents.by -/
def n79 : NF := ⟨17, [4],
 .seq (.region [
  ⟨(some 2), (.box true 3 (.t 0)), none⟩,
  ⟨(some 3), (.box true 3 (.t 1)), none⟩,
  ⟨(some 4), (.mov (.c (.c (.int .i64 0)))), none⟩])
 (.seq (.kill [2, 3] 2) (.seq (.draw 1 [
  ⟨0, none, ⟨(some 5), (.faddr 0 (.t 2)), none⟩, []⟩,
  ⟨1, none, ⟨(some 6), (.load none (.t 5)), none⟩, []⟩,
  ⟨2, none, ⟨(some 7), (.faddr 0 (.t 3)), none⟩, []⟩,
  ⟨3, none, ⟨(some 8), (.load none (.t 7)), none⟩, []⟩,
  ⟨5, none, ⟨(some 10), (.faddr 1 (.t 2)), none⟩, []⟩,
  ⟨6, none, ⟨(some 11), (.load none (.t 10)), none⟩, []⟩,
  ⟨7, none, ⟨(some 12), (.faddr 1 (.t 3)), none⟩, []⟩,
  ⟨8, none, ⟨(some 13), (.load none (.t 12)), none⟩, []⟩,
  ⟨4, none, ⟨(some 9), (.call 46 [(.t 6), (.t 8)]), none⟩, [(6, ⟨(some 11), (.load none (.t 10)), none⟩), (8, ⟨(some 13), (.load none (.t 12)), none⟩)]⟩,
  ⟨9, none, ⟨(some 14), (.call 46 [(.t 11), (.t 13)]), none⟩, []⟩,
  ⟨10, (some 0), ⟨(some 15), (.bslice false 1 2 [(.int .i64 0)] [(0, (1, (.t 9))), (1, (1, (.t 14)))]), none⟩, []⟩,
  ⟨11, none, ⟨(some 16), (.call 86 [(.t 15)]), none⟩, []⟩,
  ⟨12, none, ⟨(some 4), (.mov (.t 16)), none⟩, []⟩])
 (.ret)))⟩
/-- (*campanile/parents.Set).Hear$2 -/
def n80 : NF := ⟨11, [3],
 .seq (.region [
  ⟨(some 2), (.box true 3 (.t 0)), none⟩,
  ⟨(some 3), (.mov (.c (.c (.bool false)))), none⟩])
 (.seq (.kill [1, 2] 1) (.seq (.draw 0 [
  ⟨0, none, ⟨(some 4), (.faddr 0 (.t 2)), none⟩, []⟩,
  ⟨1, none, ⟨(some 5), (.load none (.t 4)), none⟩, []⟩,
  ⟨2, none, ⟨(some 6), (.load none (.t 1)), none⟩, []⟩,
  ⟨3, none, ⟨(some 7), (.nilck (.t 6)), none⟩, []⟩,
  ⟨4, none, ⟨(some 8), (.faddr 1 (.t 7)), none⟩, []⟩,
  ⟨5, none, ⟨(some 9), (.load none (.t 8)), none⟩, []⟩,
  ⟨6, none, ⟨(some 10), (.bin .geq .num (.t 5) (.t 9)), none⟩, []⟩,
  ⟨7, none, ⟨(some 3), (.mov (.t 10)), none⟩, []⟩])
 (.ret)))⟩
/-- (*campanile/campanileref8.Set).drop -/
def n81 : NF := ⟨29, [],
 .seq (.region [
  ⟨(some 4), (.mov (.c (.c .nils))), none⟩])
 (.seq (.kill [0, 1, 4] 0) (.seq (.seq (.region [
  ⟨(some 7), (.mov (.t 0)), none⟩,
  ⟨(some 8), (.nilck (.t 7)), none⟩,
  ⟨(some 9), (.faddr 2 (.t 8)), none⟩,
  ⟨(some 10), (.load none (.t 9)), none⟩,
  ⟨(some 11), (.len .sl (.t 10)), none⟩,
  ⟨(some 12), (.mov (.c (.c (.int .i64 0)))), none⟩])
 (.seq (.kill [0, 1, 4, 10, 11, 12] 0) (.block 0 (.loop (.seq (.kill [0, 1, 4, 10, 11, 12] 0) (.seq (.region [
   ⟨(some 13), (.bin .lss .num (.t 12) (.t 11)), none⟩])
  (.seq (.kill [0, 1, 4, 10, 11, 12, 13] 0) (.seq (.cond (.t 13)
  (.skip)
  (.exit 0))
  (.seq (.kill [0, 1, 4, 10, 11, 12] 0) (.seq (.block 1 (.seq (.region [
   ⟨(some 14), (.iaddr 3 (.t 10) (.t 12)), none⟩,
   ⟨(some 15), (.load (some 3) (.t 14)), none⟩,
   ⟨(some 6), (.box true 3 (.c (.agg [(.int .i64 0), (.int .i64 0), (.int .i64 0)]))), none⟩,
   ⟨none, (.store 3 (.t 6) (.t 15)), none⟩])
  (.seq (.kill [0, 1, 4, 6, 10, 11, 12] 1) (.seq (.region [
   ⟨(some 16), (.faddr 0 (.t 6)), none⟩,
   ⟨(some 17), (.load none (.t 16)), none⟩,
   ⟨(some 18), (.mov (.t 1)), none⟩,
   ⟨(some 19), (.bin .neq .num (.t 17) (.t 18)), none⟩])
  (.seq (.kill [0, 1, 4, 6, 10, 11, 12, 19] 1) (.cond (.t 19)
  (.region [
    ⟨(some 20), (.mov (.t 4)), none⟩,
    ⟨(some 21), (.load (some 3) (.t 6)), none⟩,
    ⟨(some 22), (.bslice true 3 1 [(.int .i64 0), (.int .i64 0), (.int .i64 0)] [(0, (3, (.t 21)))]), none⟩,
    ⟨(some 23), (.app 3 24 (.t 20) (.t 22)), none⟩,
    ⟨(some 4), (.mov (.t 23)), none⟩])
  (.skip)))))))
  (.seq (.kill [0, 1, 4, 10, 11, 12] 0) (.region [
   ⟨(some 24), (.bin .add .num (.t 12) (.c (.c (.int .i64 1)))), none⟩,
   ⟨(some 12), (.mov (.t 24)), none⟩]))))))))))))
 (.seq (.kill [0, 4] 0) (.region [
  ⟨(some 25), (.mov (.t 0)), none⟩,
  ⟨(some 26), (.mov (.t 4)), none⟩,
  ⟨(some 27), (.nilck (.t 25)), none⟩,
  ⟨(some 28), (.faddr 2 (.t 27)), none⟩,
  ⟨none, (.store 1 (.t 28) (.t 26)), none⟩]))))⟩
/-- slices.pdqsortOrdered[int] -/
def n83 : NF := ⟨134, [],
 .seq (.region [
  ⟨(some 8), (.mov (.c (.c (.bool true)))), none⟩])
 (.seq (.kill [0, 1, 2, 3, 8] 0) (.seq (.region [
  ⟨(some 9), (.mov (.c (.c (.bool true)))), none⟩])
 (.seq (.kill [0, 1, 2, 3, 8, 9] 0) (.block 0 (.loop (.seq (.kill [0, 1, 2, 3, 8, 9] 0) (.block 1 (.seq (.region [
   ⟨(some 19), (.mov (.t 2)), none⟩,
   ⟨(some 20), (.mov (.t 1)), none⟩,
   ⟨(some 21), (.bin .sub .num (.t 19) (.t 20)), none⟩,
   ⟨(some 10), (.mov (.t 21)), none⟩])
  (.seq (.kill [0, 1, 2, 3, 8, 9, 10] 0) (.seq (.seq (.region [
   ⟨(some 22), (.mov (.t 10)), none⟩,
   ⟨(some 23), (.bin .leq .num (.t 22) (.c (.c (.int .i64 12)))), none⟩])
  (.seq (.kill [0, 1, 2, 3, 8, 9, 10, 23] 0) (.cond (.t 23)
  (.seq (.region [
    ⟨(some 24), (.mov (.t 0)), none⟩,
    ⟨(some 25), (.mov (.t 1)), none⟩,
    ⟨(some 26), (.mov (.t 2)), none⟩,
    ⟨(some 27), (.call 87 [(.t 24), (.t 25), (.t 26)]), none⟩])
   (.ret))
  (.skip))))
  (.seq (.kill [0, 1, 2, 3, 8, 9, 10] 0) (.seq (.seq (.region [
   ⟨(some 28), (.mov (.t 3)), none⟩,
   ⟨(some 29), (.bin .eql .num (.t 28) (.c (.c (.int .i64 0)))), none⟩])
  (.seq (.kill [0, 1, 2, 3, 8, 9, 10, 29] 0) (.cond (.t 29)
  (.seq (.region [
    ⟨(some 30), (.mov (.t 0)), none⟩,
    ⟨(some 31), (.mov (.t 1)), none⟩,
    ⟨(some 32), (.mov (.t 2)), none⟩,
    ⟨(some 33), (.call 88 [(.t 30), (.t 31), (.t 32)]), none⟩])
   (.ret))
  (.skip))))
  (.seq (.kill [0, 1, 2, 3, 8, 9, 10] 0) (.seq (.seq (.region [
   ⟨(some 34), (.mov (.t 8)), none⟩,
   ⟨(some 35), (.un .not (.t 34)), none⟩])
  (.seq (.kill [0, 1, 2, 3, 8, 9, 10, 35] 0) (.cond (.t 35)
  (.seq (.region [
    ⟨(some 36), (.mov (.t 0)), none⟩,
    ⟨(some 37), (.mov (.t 1)), none⟩,
    ⟨(some 38), (.mov (.t 2)), none⟩,
    ⟨(some 39), (.call 89 [(.t 36), (.t 37), (.t 38)]), none⟩])
   (.seq (.kill [0, 1, 2, 3, 8, 9, 10] 0) (.region [
    ⟨(some 40), (.mov (.t 3)), none⟩,
    ⟨(some 41), (.bin .sub .num (.t 40) (.c (.c (.int .i64 1)))), none⟩,
    ⟨(some 3), (.mov (.t 41)), none⟩])))
  (.skip))))
  (.seq (.kill [0, 1, 2, 3, 8, 9, 10] 0) (.seq (.region [
   ⟨(some 43), (.mov (.t 0)), none⟩,
   ⟨(some 44), (.mov (.t 1)), none⟩,
   ⟨(some 45), (.mov (.t 2)), none⟩,
   ⟨(some 46), (.call 90 [(.t 43), (.t 44), (.t 45)]), none⟩,
   ⟨(some 42), (.mov (.t 46)), none⟩,
   ⟨(some 47), (.ext (.t 42) 0), none⟩,
   ⟨(some 48), (.ext (.t 42) 1), none⟩,
   ⟨(some 11), (.mov (.t 47)), none⟩,
   ⟨(some 12), (.mov (.t 48)), none⟩])
  (.seq (.kill [0, 1, 2, 3, 8, 9, 10, 11, 12] 0) (.seq (.seq (.region [
   ⟨(some 49), (.mov (.t 12)), none⟩,
   ⟨(some 50), (.bin .eql .num (.t 49) (.c (.c (.int .i64 2)))), none⟩])
  (.seq (.kill [0, 1, 2, 3, 8, 9, 10, 11, 12, 50] 0) (.cond (.t 50)
  (.seq (.region [
    ⟨(some 51), (.mov (.t 0)), none⟩,
    ⟨(some 52), (.mov (.t 1)), none⟩,
    ⟨(some 53), (.mov (.t 2)), none⟩,
    ⟨(some 54), (.call 91 [(.t 51), (.t 52), (.t 53)]), none⟩])
   (.seq (.kill [0, 1, 2, 3, 8, 9, 10, 11] 0) (.seq (.region [
    ⟨(some 55), (.mov (.t 2)), none⟩,
    ⟨(some 56), (.bin .sub .num (.t 55) (.c (.c (.int .i64 1)))), none⟩,
    ⟨(some 57), (.mov (.t 11)), none⟩,
    ⟨(some 58), (.mov (.t 1)), none⟩,
    ⟨(some 59), (.bin .sub .num (.t 57) (.t 58)), none⟩,
    ⟨(some 60), (.bin .sub .num (.t 56) (.t 59)), none⟩,
    ⟨(some 11), (.mov (.t 60)), none⟩])
   (.seq (.kill [0, 1, 2, 3, 8, 9, 10, 11] 0) (.region [
    ⟨(some 12), (.mov (.c (.c (.int .i64 1)))), none⟩])))))
  (.skip))))
  (.seq (.kill [0, 1, 2, 3, 8, 9, 10, 11, 12] 0) (.seq (.seq (.region [
   ⟨(some 61), (.mov (.t 8)), none⟩,
   ⟨(some 62), (.mov (.t 61)), none⟩,
   ⟨(some 63), (.mov (.t 9)), (some (62, true))⟩,
   ⟨(some 64), (.pick (.t 62) (.t 63) (.c (.c (.bool false)))), none⟩,
   ⟨(some 65), (.mov (.t 64)), none⟩,
   ⟨(some 66), (.mov (.t 12)), (some (65, true))⟩,
   ⟨(some 67), (.bin .eql .num (.t 66) (.c (.c (.int .i64 1)))), (some (65, true))⟩,
   ⟨(some 68), (.pick (.t 65) (.t 67) (.c (.c (.bool false)))), none⟩])
  (.seq (.kill [0, 1, 2, 3, 8, 9, 10, 11, 68] 0) (.cond (.t 68)
  (.seq (.region [
    ⟨(some 69), (.mov (.t 0)), none⟩,
    ⟨(some 70), (.mov (.t 1)), none⟩,
    ⟨(some 71), (.mov (.t 2)), none⟩,
    ⟨(some 72), (.call 92 [(.t 69), (.t 70), (.t 71)]), none⟩])
   (.seq (.kill [0, 1, 2, 3, 8, 9, 10, 11, 72] 0) (.cond (.t 72)
   (.ret)
   (.skip))))
  (.skip))))
  (.seq (.kill [0, 1, 2, 3, 8, 9, 10, 11] 0) (.seq (.seq (.draw 0 [
   ⟨0, none, ⟨(some 73), (.mov (.t 1)), none⟩, []⟩,
   ⟨1, none, ⟨(some 74), (.bin .gtr .num (.t 73) (.c (.c (.int .i64 0)))), none⟩, []⟩,
   ⟨2, none, ⟨(some 75), (.mov (.t 74)), none⟩, []⟩,
   ⟨3, none, ⟨(some 76), (.mov (.t 0)), (some (75, true))⟩, []⟩,
   ⟨4, none, ⟨(some 77), (.mov (.t 1)), (some (75, true))⟩, []⟩,
   ⟨5, none, ⟨(some 78), (.bin .sub .num (.t 77) (.c (.c (.int .i64 1)))), (some (75, true))⟩, []⟩,
   ⟨6, none, ⟨(some 79), (.iaddr 1 (.t 76) (.t 78)), (some (75, true))⟩, []⟩,
   ⟨7, none, ⟨(some 80), (.load none (.t 79)), (some (75, true))⟩, []⟩,
   ⟨8, none, ⟨(some 81), (.mov (.t 0)), (some (75, true))⟩, []⟩,
   ⟨9, none, ⟨(some 82), (.mov (.t 11)), (some (75, true))⟩, []⟩,
   ⟨10, none, ⟨(some 83), (.iaddr 1 (.t 81) (.t 82)), (some (75, true))⟩, []⟩,
   ⟨11, none, ⟨(some 84), (.load none (.t 83)), (some (75, true))⟩, []⟩,
   ⟨12, none, ⟨(some 85), (.call 93 [(.t 80), (.t 84)]), (some (75, true))⟩, []⟩,
   ⟨13, none, ⟨(some 86), (.un .not (.t 85)), (some (75, true))⟩, []⟩,
   ⟨14, none, ⟨(some 87), (.pick (.t 75) (.t 86) (.c (.c (.bool false)))), none⟩, []⟩])
  (.seq (.kill [0, 1, 2, 3, 8, 9, 10, 11, 87] 0) (.cond (.t 87)
  (.seq (.region [
    ⟨(some 88), (.mov (.t 0)), none⟩,
    ⟨(some 89), (.mov (.t 1)), none⟩,
    ⟨(some 90), (.mov (.t 2)), none⟩,
    ⟨(some 91), (.mov (.t 11)), none⟩,
    ⟨(some 92), (.call 94 [(.t 88), (.t 89), (.t 90), (.t 91)]), none⟩,
    ⟨(some 13), (.mov (.t 92)), none⟩])
   (.seq (.kill [0, 2, 3, 8, 9, 13] 0) (.seq (.region [
    ⟨(some 93), (.mov (.t 13)), none⟩,
    ⟨(some 1), (.mov (.t 93)), none⟩])
   (.exit 1))))
  (.skip))))
  (.seq (.kill [0, 1, 2, 3, 10, 11] 0) (.seq (.region [
   ⟨(some 95), (.mov (.t 0)), none⟩,
   ⟨(some 96), (.mov (.t 1)), none⟩,
   ⟨(some 97), (.mov (.t 2)), none⟩,
   ⟨(some 98), (.mov (.t 11)), none⟩,
   ⟨(some 99), (.call 95 [(.t 95), (.t 96), (.t 97), (.t 98)]), none⟩,
   ⟨(some 94), (.mov (.t 99)), none⟩,
   ⟨(some 100), (.ext (.t 94) 0), none⟩,
   ⟨(some 101), (.ext (.t 94) 1), none⟩,
   ⟨(some 14), (.mov (.t 100)), none⟩,
   ⟨(some 15), (.mov (.t 101)), none⟩])
  (.seq (.kill [0, 1, 2, 3, 10, 14, 15] 0) (.seq (.region [
   ⟨(some 102), (.mov (.t 15)), none⟩,
   ⟨(some 9), (.mov (.t 102)), none⟩])
  (.seq (.kill [0, 1, 2, 3, 9, 10, 14] 0) (.seq (.region [
   ⟨(some 103), (.mov (.t 14)), none⟩,
   ⟨(some 104), (.mov (.t 1)), none⟩,
   ⟨(some 105), (.bin .sub .num (.t 103) (.t 104)), none⟩,
   ⟨(some 106), (.mov (.t 2)), none⟩,
   ⟨(some 107), (.mov (.t 14)), none⟩,
   ⟨(some 108), (.bin .sub .num (.t 106) (.t 107)), none⟩,
   ⟨(some 16), (.mov (.t 105)), none⟩,
   ⟨(some 17), (.mov (.t 108)), none⟩])
  (.seq (.kill [0, 1, 2, 3, 9, 10, 14, 16, 17] 0) (.seq (.region [
   ⟨(some 109), (.mov (.t 10)), none⟩,
   ⟨(some 110), (.bin .quo .num (.t 109) (.c (.c (.int .i64 8)))), none⟩,
   ⟨(some 18), (.mov (.t 110)), none⟩])
  (.seq (.kill [0, 1, 2, 3, 9, 14, 16, 17, 18] 0) (.seq (.region [
   ⟨(some 111), (.mov (.t 16)), none⟩,
   ⟨(some 112), (.mov (.t 17)), none⟩,
   ⟨(some 113), (.bin .lss .num (.t 111) (.t 112)), none⟩])
  (.seq (.kill [0, 1, 2, 3, 9, 14, 16, 17, 18, 113] 0) (.cond (.t 113)
  (.seq (.region [
    ⟨(some 114), (.mov (.t 16)), none⟩,
    ⟨(some 115), (.mov (.t 18)), none⟩,
    ⟨(some 116), (.bin .geq .num (.t 114) (.t 115)), none⟩,
    ⟨(some 8), (.mov (.t 116)), none⟩])
   (.seq (.kill [0, 1, 2, 3, 8, 9, 14] 0) (.seq (.region [
    ⟨(some 117), (.mov (.t 0)), none⟩,
    ⟨(some 118), (.mov (.t 1)), none⟩,
    ⟨(some 119), (.mov (.t 14)), none⟩,
    ⟨(some 120), (.mov (.t 3)), none⟩,
    ⟨(some 121), (.call 83 [(.t 117), (.t 118), (.t 119), (.t 120)]), none⟩])
   (.seq (.kill [0, 2, 3, 8, 9, 14] 0) (.region [
    ⟨(some 122), (.mov (.t 14)), none⟩,
    ⟨(some 123), (.bin .add .num (.t 122) (.c (.c (.int .i64 1)))), none⟩,
    ⟨(some 1), (.mov (.t 123)), none⟩])))))
  (.seq (.region [
    ⟨(some 124), (.mov (.t 17)), none⟩,
    ⟨(some 125), (.mov (.t 18)), none⟩,
    ⟨(some 126), (.bin .geq .num (.t 124) (.t 125)), none⟩,
    ⟨(some 8), (.mov (.t 126)), none⟩])
   (.seq (.kill [0, 1, 2, 3, 8, 9, 14] 0) (.seq (.region [
    ⟨(some 127), (.mov (.t 0)), none⟩,
    ⟨(some 128), (.mov (.t 14)), none⟩,
    ⟨(some 129), (.bin .add .num (.t 128) (.c (.c (.int .i64 1)))), none⟩,
    ⟨(some 130), (.mov (.t 2)), none⟩,
    ⟨(some 131), (.mov (.t 3)), none⟩,
    ⟨(some 132), (.call 83 [(.t 127), (.t 129), (.t 130), (.t 131)]), none⟩])
   (.seq (.kill [0, 1, 3, 8, 9, 14] 0) (.region [
    ⟨(some 133), (.mov (.t 14)), none⟩,
    ⟨(some 2), (.mov (.t 133)), none⟩])))))))))))))))))))))))))))))))))))))))⟩
/-- math/bits.Len -/
def n82 : NF := ⟨8, [2],
 .seq (.region [
  ⟨(some 2), (.mov (.c (.c (.int .i64 0)))), none⟩])
 (.seq (.kill [0] 0) (.seq (.cond (.c (.c (.bool false)))
 (.seq (.region [
   ⟨(some 3), (.mov (.t 0)), none⟩,
   ⟨(some 4), (.conv (.toInt .u32) (.t 3)), none⟩,
   ⟨(some 5), (.call 96 [(.t 4)]), none⟩,
   ⟨(some 2), (.mov (.t 5)), none⟩])
  (.ret))
 (.skip))
 (.seq (.kill [0] 0) (.seq (.region [
  ⟨(some 6), (.mov (.t 0)), none⟩,
  ⟨(some 7), (.call 97 [(.t 6)]), none⟩,
  ⟨(some 2), (.mov (.t 7)), none⟩])
 (.ret)))))⟩
/-- slices.DeleteFunc[[]campanile/parents.parent,campanile/parents.parent] -/
def n84 : NF := ⟨42, [4],
 .seq (.region [
  ⟨(some 4), (.mov (.c (.c .nils))), none⟩])
 (.seq (.kill [0, 1] 0) (.seq (.region [
  ⟨(some 8), (.mov (.t 0)), none⟩,
  ⟨(some 9), (.mov (.t 1)), none⟩,
  ⟨(some 10), (.call 98 [(.t 8), (.t 9)]), none⟩,
  ⟨(some 5), (.mov (.t 10)), none⟩])
 (.seq (.kill [0, 1, 5] 0) (.seq (.seq (.region [
  ⟨(some 11), (.mov (.t 5)), none⟩,
  ⟨(some 12), (.bin .eql .num (.t 11) (.c (.c (.int .i64 (-1))))), none⟩])
 (.seq (.kill [0, 1, 5, 12] 0) (.cond (.t 12)
 (.seq (.region [
   ⟨(some 13), (.mov (.t 0)), none⟩,
   ⟨(some 4), (.mov (.t 13)), none⟩])
  (.ret))
 (.skip))))
 (.seq (.kill [0, 1, 5] 0) (.seq (.seq (.region [
  ⟨(some 14), (.mov (.t 5)), none⟩,
  ⟨(some 15), (.bin .add .num (.t 14) (.c (.c (.int .i64 1)))), none⟩,
  ⟨(some 6), (.mov (.t 15)), none⟩])
 (.seq (.kill [0, 1, 5, 6] 0) (.block 0 (.loop (.seq (.kill [0, 1, 5, 6] 0) (.seq (.seq (.region [
   ⟨(some 16), (.mov (.t 6)), none⟩,
   ⟨(some 17), (.mov (.t 0)), none⟩,
   ⟨(some 18), (.len .sl (.t 17)), none⟩,
   ⟨(some 19), (.bin .lss .num (.t 16) (.t 18)), none⟩])
  (.seq (.kill [0, 1, 5, 6, 19] 0) (.cond (.t 19)
  (.skip)
  (.exit 0))))
  (.seq (.kill [0, 1, 5, 6] 0) (.seq (.block 1 (.seq (.region [
   ⟨(some 22), (.mov (.t 0)), none⟩,
   ⟨(some 23), (.mov (.t 6)), none⟩,
   ⟨(some 24), (.iaddr 3 (.t 22) (.t 23)), none⟩,
   ⟨(some 25), (.load (some 3) (.t 24)), none⟩,
   ⟨(some 7), (.box true 3 (.c (.agg [(.int .i64 0), (.int .i64 0), (.int .i64 0)]))), none⟩,
   ⟨none, (.store 3 (.t 7) (.t 25)), none⟩])
  (.seq (.kill [0, 1, 5, 6, 7] 1) (.seq (.region [
   ⟨(some 26), (.mov (.t 1)), none⟩,
   ⟨(some 27), (.load (some 3) (.t 7)), none⟩,
   ⟨(some 28), (.dyn (.t 26) [(.t 27)]), none⟩,
   ⟨(some 29), (.un .not (.t 28)), none⟩])
  (.seq (.kill [0, 1, 5, 6, 7, 29] 1) (.cond (.t 29)
  (.seq (.region [
    ⟨(some 30), (.mov (.t 0)), none⟩,
    ⟨(some 31), (.mov (.t 5)), none⟩,
    ⟨(some 32), (.load (some 3) (.t 7)), none⟩,
    ⟨(some 33), (.iaddr 3 (.t 30) (.t 31)), none⟩,
    ⟨none, (.store 3 (.t 33) (.t 32)), none⟩])
   (.seq (.kill [0, 1, 5, 6] 0) (.region [
    ⟨(some 34), (.mov (.t 5)), none⟩,
    ⟨(some 35), (.bin .add .num (.t 34) (.c (.c (.int .i64 1)))), none⟩,
    ⟨(some 5), (.mov (.t 35)), none⟩])))
  (.skip)))))))
  (.seq (.kill [0, 1, 5, 6] 0) (.region [
   ⟨(some 20), (.mov (.t 6)), none⟩,
   ⟨(some 21), (.bin .add .num (.t 20) (.c (.c (.int .i64 1)))), none⟩,
   ⟨(some 6), (.mov (.t 21)), none⟩]))))))))))
 (.seq (.kill [0, 5] 0) (.seq (.region [
  ⟨(some 36), (.mov (.t 0)), none⟩,
  ⟨(some 37), (.mov (.t 5)), none⟩,
  ⟨(some 38), (.slice 3 (.t 36) (some (.t 37)) none none), none⟩,
  ⟨none, (.clear 3 [(.int .i64 0), (.int .i64 0), (.int .i64 0)] (.t 38)), none⟩])
 (.seq (.kill [0, 5] 0) (.seq (.region [
  ⟨(some 39), (.mov (.t 0)), none⟩,
  ⟨(some 40), (.mov (.t 5)), none⟩,
  ⟨(some 41), (.slice 3 (.t 39) none (some (.t 40)) none), none⟩,
  ⟨(some 4), (.mov (.t 41)), none⟩])
 (.ret)))))))))))⟩
/-- slices.pdqsortCmpFunc[campanile/parents.parent] -/
def n85 : NF := ⟨148, [],
 .seq (.region [
  ⟨(some 10), (.mov (.c (.c (.bool true)))), none⟩])
 (.seq (.kill [0, 1, 2, 3, 4, 10] 0) (.seq (.region [
  ⟨(some 11), (.mov (.c (.c (.bool true)))), none⟩])
 (.seq (.kill [0, 1, 2, 3, 4, 10, 11] 0) (.block 0 (.loop (.seq (.kill [0, 1, 2, 3, 4, 10, 11] 0) (.block 1 (.seq (.region [
   ⟨(some 21), (.mov (.t 2)), none⟩,
   ⟨(some 22), (.mov (.t 1)), none⟩,
   ⟨(some 23), (.bin .sub .num (.t 21) (.t 22)), none⟩,
   ⟨(some 12), (.mov (.t 23)), none⟩])
  (.seq (.kill [0, 1, 2, 3, 4, 10, 11, 12] 0) (.seq (.seq (.region [
   ⟨(some 24), (.mov (.t 12)), none⟩,
   ⟨(some 25), (.bin .leq .num (.t 24) (.c (.c (.int .i64 12)))), none⟩])
  (.seq (.kill [0, 1, 2, 3, 4, 10, 11, 12, 25] 0) (.cond (.t 25)
  (.seq (.region [
    ⟨(some 26), (.mov (.t 0)), none⟩,
    ⟨(some 27), (.mov (.t 1)), none⟩,
    ⟨(some 28), (.mov (.t 2)), none⟩,
    ⟨(some 29), (.mov (.t 4)), none⟩,
    ⟨(some 30), (.call 99 [(.t 26), (.t 27), (.t 28), (.t 29)]), none⟩])
   (.ret))
  (.skip))))
  (.seq (.kill [0, 1, 2, 3, 4, 10, 11, 12] 0) (.seq (.seq (.region [
   ⟨(some 31), (.mov (.t 3)), none⟩,
   ⟨(some 32), (.bin .eql .num (.t 31) (.c (.c (.int .i64 0)))), none⟩])
  (.seq (.kill [0, 1, 2, 3, 4, 10, 11, 12, 32] 0) (.cond (.t 32)
  (.seq (.region [
    ⟨(some 33), (.mov (.t 0)), none⟩,
    ⟨(some 34), (.mov (.t 1)), none⟩,
    ⟨(some 35), (.mov (.t 2)), none⟩,
    ⟨(some 36), (.mov (.t 4)), none⟩,
    ⟨(some 37), (.call 100 [(.t 33), (.t 34), (.t 35), (.t 36)]), none⟩])
   (.ret))
  (.skip))))
  (.seq (.kill [0, 1, 2, 3, 4, 10, 11, 12] 0) (.seq (.seq (.region [
   ⟨(some 38), (.mov (.t 10)), none⟩,
   ⟨(some 39), (.un .not (.t 38)), none⟩])
  (.seq (.kill [0, 1, 2, 3, 4, 10, 11, 12, 39] 0) (.cond (.t 39)
  (.seq (.region [
    ⟨(some 40), (.mov (.t 0)), none⟩,
    ⟨(some 41), (.mov (.t 1)), none⟩,
    ⟨(some 42), (.mov (.t 2)), none⟩,
    ⟨(some 43), (.mov (.t 4)), none⟩,
    ⟨(some 44), (.call 101 [(.t 40), (.t 41), (.t 42), (.t 43)]), none⟩])
   (.seq (.kill [0, 1, 2, 3, 4, 10, 11, 12] 0) (.region [
    ⟨(some 45), (.mov (.t 3)), none⟩,
    ⟨(some 46), (.bin .sub .num (.t 45) (.c (.c (.int .i64 1)))), none⟩,
    ⟨(some 3), (.mov (.t 46)), none⟩])))
  (.skip))))
  (.seq (.kill [0, 1, 2, 3, 4, 10, 11, 12] 0) (.seq (.region [
   ⟨(some 48), (.mov (.t 0)), none⟩,
   ⟨(some 49), (.mov (.t 1)), none⟩,
   ⟨(some 50), (.mov (.t 2)), none⟩,
   ⟨(some 51), (.mov (.t 4)), none⟩,
   ⟨(some 52), (.call 102 [(.t 48), (.t 49), (.t 50), (.t 51)]), none⟩,
   ⟨(some 47), (.mov (.t 52)), none⟩,
   ⟨(some 53), (.ext (.t 47) 0), none⟩,
   ⟨(some 54), (.ext (.t 47) 1), none⟩,
   ⟨(some 13), (.mov (.t 53)), none⟩,
   ⟨(some 14), (.mov (.t 54)), none⟩])
  (.seq (.kill [0, 1, 2, 3, 4, 10, 11, 12, 13, 14] 0) (.seq (.seq (.region [
   ⟨(some 55), (.mov (.t 14)), none⟩,
   ⟨(some 56), (.bin .eql .num (.t 55) (.c (.c (.int .i64 2)))), none⟩])
  (.seq (.kill [0, 1, 2, 3, 4, 10, 11, 12, 13, 14, 56] 0) (.cond (.t 56)
  (.seq (.region [
    ⟨(some 57), (.mov (.t 0)), none⟩,
    ⟨(some 58), (.mov (.t 1)), none⟩,
    ⟨(some 59), (.mov (.t 2)), none⟩,
    ⟨(some 60), (.mov (.t 4)), none⟩,
    ⟨(some 61), (.call 103 [(.t 57), (.t 58), (.t 59), (.t 60)]), none⟩])
   (.seq (.kill [0, 1, 2, 3, 4, 10, 11, 12, 13] 0) (.seq (.region [
    ⟨(some 62), (.mov (.t 2)), none⟩,
    ⟨(some 63), (.bin .sub .num (.t 62) (.c (.c (.int .i64 1)))), none⟩,
    ⟨(some 64), (.mov (.t 13)), none⟩,
    ⟨(some 65), (.mov (.t 1)), none⟩,
    ⟨(some 66), (.bin .sub .num (.t 64) (.t 65)), none⟩,
    ⟨(some 67), (.bin .sub .num (.t 63) (.t 66)), none⟩,
    ⟨(some 13), (.mov (.t 67)), none⟩])
   (.seq (.kill [0, 1, 2, 3, 4, 10, 11, 12, 13] 0) (.region [
    ⟨(some 14), (.mov (.c (.c (.int .i64 1)))), none⟩])))))
  (.skip))))
  (.seq (.kill [0, 1, 2, 3, 4, 10, 11, 12, 13, 14] 0) (.seq (.seq (.region [
   ⟨(some 68), (.mov (.t 10)), none⟩,
   ⟨(some 69), (.mov (.t 68)), none⟩,
   ⟨(some 70), (.mov (.t 11)), (some (69, true))⟩,
   ⟨(some 71), (.pick (.t 69) (.t 70) (.c (.c (.bool false)))), none⟩,
   ⟨(some 72), (.mov (.t 71)), none⟩,
   ⟨(some 73), (.mov (.t 14)), (some (72, true))⟩,
   ⟨(some 74), (.bin .eql .num (.t 73) (.c (.c (.int .i64 1)))), (some (72, true))⟩,
   ⟨(some 75), (.pick (.t 72) (.t 74) (.c (.c (.bool false)))), none⟩])
  (.seq (.kill [0, 1, 2, 3, 4, 10, 11, 12, 13, 75] 0) (.cond (.t 75)
  (.seq (.region [
    ⟨(some 76), (.mov (.t 0)), none⟩,
    ⟨(some 77), (.mov (.t 1)), none⟩,
    ⟨(some 78), (.mov (.t 2)), none⟩,
    ⟨(some 79), (.mov (.t 4)), none⟩,
    ⟨(some 80), (.call 104 [(.t 76), (.t 77), (.t 78), (.t 79)]), none⟩])
   (.seq (.kill [0, 1, 2, 3, 4, 10, 11, 12, 13, 80] 0) (.cond (.t 80)
   (.ret)
   (.skip))))
  (.skip))))
  (.seq (.kill [0, 1, 2, 3, 4, 10, 11, 12, 13] 0) (.seq (.seq (.draw 0 [
   ⟨0, none, ⟨(some 81), (.mov (.t 1)), none⟩, []⟩,
   ⟨1, none, ⟨(some 82), (.bin .gtr .num (.t 81) (.c (.c (.int .i64 0)))), none⟩, []⟩,
   ⟨2, none, ⟨(some 83), (.mov (.t 82)), none⟩, []⟩,
   ⟨3, none, ⟨(some 84), (.mov (.t 4)), (some (83, true))⟩, []⟩,
   ⟨4, none, ⟨(some 85), (.mov (.t 0)), (some (83, true))⟩, []⟩,
   ⟨5, none, ⟨(some 86), (.mov (.t 1)), (some (83, true))⟩, []⟩,
   ⟨6, none, ⟨(some 87), (.bin .sub .num (.t 86) (.c (.c (.int .i64 1)))), (some (83, true))⟩, []⟩,
   ⟨7, none, ⟨(some 88), (.iaddr 3 (.t 85) (.t 87)), (some (83, true))⟩, []⟩,
   ⟨8, none, ⟨(some 89), (.load (some 3) (.t 88)), (some (83, true))⟩, []⟩,
   ⟨9, none, ⟨(some 90), (.mov (.t 0)), (some (83, true))⟩, []⟩,
   ⟨10, none, ⟨(some 91), (.mov (.t 13)), (some (83, true))⟩, []⟩,
   ⟨11, none, ⟨(some 92), (.iaddr 3 (.t 90) (.t 91)), (some (83, true))⟩, []⟩,
   ⟨12, none, ⟨(some 93), (.load (some 3) (.t 92)), (some (83, true))⟩, []⟩,
   ⟨13, none, ⟨(some 94), (.dyn (.t 84) [(.t 89), (.t 93)]), (some (83, true))⟩, []⟩,
   ⟨14, none, ⟨(some 95), (.bin .lss .num (.t 94) (.c (.c (.int .i64 0)))), (some (83, true))⟩, []⟩,
   ⟨15, none, ⟨(some 96), (.un .not (.t 95)), (some (83, true))⟩, []⟩,
   ⟨16, none, ⟨(some 97), (.pick (.t 83) (.t 96) (.c (.c (.bool false)))), none⟩, []⟩])
  (.seq (.kill [0, 1, 2, 3, 4, 10, 11, 12, 13, 97] 0) (.cond (.t 97)
  (.seq (.region [
    ⟨(some 98), (.mov (.t 0)), none⟩,
    ⟨(some 99), (.mov (.t 1)), none⟩,
    ⟨(some 100), (.mov (.t 2)), none⟩,
    ⟨(some 101), (.mov (.t 13)), none⟩,
    ⟨(some 102), (.mov (.t 4)), none⟩,
    ⟨(some 103), (.call 105 [(.t 98), (.t 99), (.t 100), (.t 101), (.t 102)]), none⟩,
    ⟨(some 15), (.mov (.t 103)), none⟩])
   (.seq (.kill [0, 2, 3, 4, 10, 11, 15] 0) (.seq (.region [
    ⟨(some 104), (.mov (.t 15)), none⟩,
    ⟨(some 1), (.mov (.t 104)), none⟩])
   (.exit 1))))
  (.skip))))
  (.seq (.kill [0, 1, 2, 3, 4, 12, 13] 0) (.seq (.region [
   ⟨(some 106), (.mov (.t 0)), none⟩,
   ⟨(some 107), (.mov (.t 1)), none⟩,
   ⟨(some 108), (.mov (.t 2)), none⟩,
   ⟨(some 109), (.mov (.t 13)), none⟩,
   ⟨(some 110), (.mov (.t 4)), none⟩,
   ⟨(some 111), (.call 106 [(.t 106), (.t 107), (.t 108), (.t 109), (.t 110)]), none⟩,
   ⟨(some 105), (.mov (.t 111)), none⟩,
   ⟨(some 112), (.ext (.t 105) 0), none⟩,
   ⟨(some 113), (.ext (.t 105) 1), none⟩,
   ⟨(some 16), (.mov (.t 112)), none⟩,
   ⟨(some 17), (.mov (.t 113)), none⟩])
  (.seq (.kill [0, 1, 2, 3, 4, 12, 16, 17] 0) (.seq (.region [
   ⟨(some 114), (.mov (.t 17)), none⟩,
   ⟨(some 11), (.mov (.t 114)), none⟩])
  (.seq (.kill [0, 1, 2, 3, 4, 11, 12, 16] 0) (.seq (.region [
   ⟨(some 115), (.mov (.t 16)), none⟩,
   ⟨(some 116), (.mov (.t 1)), none⟩,
   ⟨(some 117), (.bin .sub .num (.t 115) (.t 116)), none⟩,
   ⟨(some 118), (.mov (.t 2)), none⟩,
   ⟨(some 119), (.mov (.t 16)), none⟩,
   ⟨(some 120), (.bin .sub .num (.t 118) (.t 119)), none⟩,
   ⟨(some 18), (.mov (.t 117)), none⟩,
   ⟨(some 19), (.mov (.t 120)), none⟩])
  (.seq (.kill [0, 1, 2, 3, 4, 11, 12, 16, 18, 19] 0) (.seq (.region [
   ⟨(some 121), (.mov (.t 12)), none⟩,
   ⟨(some 122), (.bin .quo .num (.t 121) (.c (.c (.int .i64 8)))), none⟩,
   ⟨(some 20), (.mov (.t 122)), none⟩])
  (.seq (.kill [0, 1, 2, 3, 4, 11, 16, 18, 19, 20] 0) (.seq (.region [
   ⟨(some 123), (.mov (.t 18)), none⟩,
   ⟨(some 124), (.mov (.t 19)), none⟩,
   ⟨(some 125), (.bin .lss .num (.t 123) (.t 124)), none⟩])
  (.seq (.kill [0, 1, 2, 3, 4, 11, 16, 18, 19, 20, 125] 0) (.cond (.t 125)
  (.seq (.region [
    ⟨(some 126), (.mov (.t 18)), none⟩,
    ⟨(some 127), (.mov (.t 20)), none⟩,
    ⟨(some 128), (.bin .geq .num (.t 126) (.t 127)), none⟩,
    ⟨(some 10), (.mov (.t 128)), none⟩])
   (.seq (.kill [0, 1, 2, 3, 4, 10, 11, 16] 0) (.seq (.region [
    ⟨(some 129), (.mov (.t 0)), none⟩,
    ⟨(some 130), (.mov (.t 1)), none⟩,
    ⟨(some 131), (.mov (.t 16)), none⟩,
    ⟨(some 132), (.mov (.t 3)), none⟩,
    ⟨(some 133), (.mov (.t 4)), none⟩,
    ⟨(some 134), (.call 85 [(.t 129), (.t 130), (.t 131), (.t 132), (.t 133)]), none⟩])
   (.seq (.kill [0, 2, 3, 4, 10, 11, 16] 0) (.region [
    ⟨(some 135), (.mov (.t 16)), none⟩,
    ⟨(some 136), (.bin .add .num (.t 135) (.c (.c (.int .i64 1)))), none⟩,
    ⟨(some 1), (.mov (.t 136)), none⟩])))))
  (.seq (.region [
    ⟨(some 137), (.mov (.t 19)), none⟩,
    ⟨(some 138), (.mov (.t 20)), none⟩,
    ⟨(some 139), (.bin .geq .num (.t 137) (.t 138)), none⟩,
    ⟨(some 10), (.mov (.t 139)), none⟩])
   (.seq (.kill [0, 1, 2, 3, 4, 10, 11, 16] 0) (.seq (.region [
    ⟨(some 140), (.mov (.t 0)), none⟩,
    ⟨(some 141), (.mov (.t 16)), none⟩,
    ⟨(some 142), (.bin .add .num (.t 141) (.c (.c (.int .i64 1)))), none⟩,
    ⟨(some 143), (.mov (.t 2)), none⟩,
    ⟨(some 144), (.mov (.t 3)), none⟩,
    ⟨(some 145), (.mov (.t 4)), none⟩,
    ⟨(some 146), (.call 85 [(.t 140), (.t 142), (.t 143), (.t 144), (.t 145)]), none⟩])
   (.seq (.kill [0, 1, 3, 4, 10, 11, 16] 0) (.region [
    ⟨(some 147), (.mov (.t 16)), none⟩,
    ⟨(some 2), (.mov (.t 147)), none⟩])))))))))))))))))))))))))))))))))))))))⟩
/-- cmp.Or[int] -/
def n86 : NF := ⟨18, [2],
 .seq (.region [
  ⟨(some 2), (.mov (.c (.c (.int .i64 0)))), none⟩])
 (.seq (.kill [0] 0) (.seq (.region [
  ⟨(some 3), (.mov (.c (.c (.int .i64 0)))), none⟩])
 (.seq (.kill [0, 3] 0) (.seq (.seq (.region [
  ⟨(some 6), (.mov (.t 0)), none⟩,
  ⟨(some 7), (.len .sl (.t 6)), none⟩,
  ⟨(some 8), (.mov (.c (.c (.int .i64 0)))), none⟩])
 (.seq (.kill [3, 6, 7, 8] 0) (.block 0 (.loop (.seq (.kill [3, 6, 7, 8] 0) (.seq (.region [
   ⟨(some 9), (.bin .lss .num (.t 8) (.t 7)), none⟩])
  (.seq (.kill [3, 6, 7, 8, 9] 0) (.seq (.cond (.t 9)
  (.skip)
  (.exit 0))
  (.seq (.kill [3, 6, 7, 8] 0) (.seq (.block 1 (.seq (.region [
   ⟨(some 10), (.iaddr 1 (.t 6) (.t 8)), none⟩,
   ⟨(some 11), (.load none (.t 10)), none⟩,
   ⟨(some 5), (.mov (.t 11)), none⟩])
  (.seq (.kill [3, 5, 6, 7, 8] 0) (.seq (.region [
   ⟨(some 12), (.mov (.t 5)), none⟩,
   ⟨(some 13), (.mov (.t 3)), none⟩,
   ⟨(some 14), (.bin .neq .num (.t 12) (.t 13)), none⟩])
  (.seq (.kill [3, 5, 6, 7, 8, 14] 0) (.cond (.t 14)
  (.seq (.region [
    ⟨(some 15), (.mov (.t 5)), none⟩,
    ⟨(some 2), (.mov (.t 15)), none⟩])
   (.ret))
  (.skip)))))))
  (.seq (.kill [3, 6, 7, 8] 0) (.region [
   ⟨(some 16), (.bin .add .num (.t 8) (.c (.c (.int .i64 1)))), none⟩,
   ⟨(some 8), (.mov (.t 16)), none⟩]))))))))))))
 (.seq (.kill [3] 0) (.seq (.region [
  ⟨(some 17), (.mov (.t 3)), none⟩,
  ⟨(some 2), (.mov (.t 17)), none⟩])
 (.ret)))))))⟩
/-- cmp.Compare[int] -/
def n46 : NF := ⟨20, [4],
 .seq (.region [
  ⟨(some 4), (.mov (.c (.c (.int .i64 0)))), none⟩])
 (.seq (.kill [0, 1] 0) (.seq (.region [
  ⟨(some 7), (.mov (.t 0)), none⟩,
  ⟨(some 8), (.call 47 [(.t 7)]), none⟩,
  ⟨(some 5), (.mov (.t 8)), none⟩])
 (.seq (.kill [0, 1, 5] 0) (.seq (.region [
  ⟨(some 9), (.mov (.t 1)), none⟩,
  ⟨(some 10), (.call 47 [(.t 9)]), none⟩,
  ⟨(some 6), (.mov (.t 10)), none⟩])
 (.seq (.kill [0, 1, 5, 6] 0) (.seq (.seq (.region [
  ⟨(some 11), (.mov (.t 5)), none⟩])
 (.seq (.kill [0, 1, 6, 11] 0) (.cond (.t 11)
 (.seq (.seq (.region [
   ⟨(some 12), (.mov (.t 6)), none⟩])
  (.seq (.kill [12] 0) (.cond (.t 12)
  (.seq (.region [
    ⟨(some 4), (.mov (.c (.c (.int .i64 0)))), none⟩])
   (.ret))
  (.skip))))
  (.seq (.kill [] 0) (.seq (.region [
   ⟨(some 4), (.mov (.c (.c (.int .i64 (-1))))), none⟩])
  (.ret))))
 (.skip))))
 (.seq (.kill [0, 1, 6] 0) (.seq (.seq (.region [
  ⟨(some 13), (.mov (.t 6)), none⟩])
 (.seq (.kill [0, 1, 13] 0) (.cond (.t 13)
 (.seq (.region [
   ⟨(some 4), (.mov (.c (.c (.int .i64 1)))), none⟩])
  (.ret))
 (.skip))))
 (.seq (.kill [0, 1] 0) (.seq (.seq (.region [
  ⟨(some 14), (.mov (.t 0)), none⟩,
  ⟨(some 15), (.mov (.t 1)), none⟩,
  ⟨(some 16), (.bin .lss .num (.t 14) (.t 15)), none⟩])
 (.seq (.kill [0, 1, 16] 0) (.cond (.t 16)
 (.seq (.region [
   ⟨(some 4), (.mov (.c (.c (.int .i64 (-1))))), none⟩])
  (.ret))
 (.skip))))
 (.seq (.kill [0, 1] 0) (.seq (.seq (.region [
  ⟨(some 17), (.mov (.t 0)), none⟩,
  ⟨(some 18), (.mov (.t 1)), none⟩,
  ⟨(some 19), (.bin .gtr .num (.t 17) (.t 18)), none⟩])
 (.seq (.kill [19] 0) (.cond (.t 19)
 (.seq (.region [
   ⟨(some 4), (.mov (.c (.c (.int .i64 1)))), none⟩])
  (.ret))
 (.skip))))
 (.seq (.kill [] 0) (.seq (.region [
  ⟨(some 4), (.mov (.c (.c (.int .i64 0)))), none⟩])
 (.ret)))))))))))))))⟩
/-- slices.insertionSortOrdered[int] -/
def n87 : NF := ⟨49, [],
 .seq (.region [
  ⟨(some 8), (.mov (.t 1)), none⟩,
  ⟨(some 9), (.bin .add .num (.t 8) (.c (.c (.int .i64 1)))), none⟩,
  ⟨(some 6), (.mov (.t 9)), none⟩])
 (.seq (.kill [0, 1, 2, 6] 0) (.block 0 (.loop (.seq (.kill [0, 1, 2, 6] 0) (.seq (.seq (.region [
   ⟨(some 10), (.mov (.t 6)), none⟩,
   ⟨(some 11), (.mov (.t 2)), none⟩,
   ⟨(some 12), (.bin .lss .num (.t 10) (.t 11)), none⟩])
  (.seq (.kill [0, 1, 2, 6, 12] 0) (.cond (.t 12)
  (.skip)
  (.exit 0))))
  (.seq (.kill [0, 1, 2, 6] 0) (.seq (.block 1 (.seq (.region [
   ⟨(some 15), (.mov (.t 6)), none⟩,
   ⟨(some 7), (.mov (.t 15)), none⟩])
  (.seq (.kill [0, 1, 2, 6, 7] 0) (.block 2 (.loop (.seq (.kill [0, 1, 2, 6, 7] 0) (.seq (.seq (.draw 0 [
    ⟨0, none, ⟨(some 16), (.mov (.t 7)), none⟩, []⟩,
    ⟨1, none, ⟨(some 17), (.mov (.t 1)), none⟩, []⟩,
    ⟨2, none, ⟨(some 18), (.bin .gtr .num (.t 16) (.t 17)), none⟩, []⟩,
    ⟨3, none, ⟨(some 19), (.mov (.t 18)), none⟩, []⟩,
    ⟨4, none, ⟨(some 20), (.mov (.t 0)), (some (19, true))⟩, []⟩,
    ⟨5, none, ⟨(some 21), (.mov (.t 7)), (some (19, true))⟩, []⟩,
    ⟨6, none, ⟨(some 22), (.iaddr 1 (.t 20) (.t 21)), (some (19, true))⟩, []⟩,
    ⟨7, none, ⟨(some 23), (.load none (.t 22)), (some (19, true))⟩, []⟩,
    ⟨8, none, ⟨(some 24), (.mov (.t 0)), (some (19, true))⟩, []⟩,
    ⟨9, none, ⟨(some 25), (.mov (.t 7)), (some (19, true))⟩, []⟩,
    ⟨10, none, ⟨(some 26), (.bin .sub .num (.t 25) (.c (.c (.int .i64 1)))), (some (19, true))⟩, []⟩,
    ⟨11, none, ⟨(some 27), (.iaddr 1 (.t 24) (.t 26)), (some (19, true))⟩, []⟩,
    ⟨12, none, ⟨(some 28), (.load none (.t 27)), (some (19, true))⟩, []⟩,
    ⟨13, none, ⟨(some 29), (.call 93 [(.t 23), (.t 28)]), (some (19, true))⟩, []⟩,
    ⟨14, none, ⟨(some 30), (.pick (.t 19) (.t 29) (.c (.c (.bool false)))), none⟩, []⟩])
   (.seq (.kill [0, 1, 2, 6, 7, 30] 0) (.cond (.t 30)
   (.skip)
   (.exit 2))))
   (.seq (.kill [0, 1, 2, 6, 7] 0) (.seq (.block 3 (.draw 0 [
    ⟨0, none, ⟨(some 33), (.mov (.t 0)), none⟩, []⟩,
    ⟨1, none, ⟨(some 34), (.mov (.t 7)), none⟩, []⟩,
    ⟨2, none, ⟨(some 35), (.mov (.t 0)), none⟩, []⟩,
    ⟨3, none, ⟨(some 36), (.mov (.t 7)), none⟩, []⟩,
    ⟨4, none, ⟨(some 37), (.bin .sub .num (.t 36) (.c (.c (.int .i64 1)))), none⟩, []⟩,
    ⟨5, none, ⟨(some 38), (.mov (.t 0)), none⟩, []⟩,
    ⟨6, none, ⟨(some 39), (.mov (.t 7)), none⟩, []⟩,
    ⟨7, none, ⟨(some 40), (.bin .sub .num (.t 39) (.c (.c (.int .i64 1)))), none⟩, []⟩,
    ⟨8, none, ⟨(some 41), (.iaddr 1 (.t 38) (.t 40)), none⟩, []⟩,
    ⟨9, none, ⟨(some 42), (.load none (.t 41)), none⟩, []⟩,
    ⟨10, none, ⟨(some 43), (.mov (.t 0)), none⟩, []⟩,
    ⟨11, none, ⟨(some 44), (.mov (.t 7)), none⟩, []⟩,
    ⟨12, none, ⟨(some 45), (.iaddr 1 (.t 43) (.t 44)), none⟩, []⟩,
    ⟨13, none, ⟨(some 46), (.load none (.t 45)), none⟩, []⟩,
    ⟨14, none, ⟨(some 47), (.iaddr 1 (.t 33) (.t 34)), none⟩, []⟩,
    ⟨15, none, ⟨none, (.store 1 (.t 47) (.t 42)), none⟩, []⟩,
    ⟨16, none, ⟨(some 48), (.iaddr 1 (.t 35) (.t 37)), none⟩, []⟩,
    ⟨17, none, ⟨none, (.store 1 (.t 48) (.t 46)), none⟩, []⟩]))
   (.seq (.kill [0, 1, 2, 6, 7] 0) (.region [
    ⟨(some 31), (.mov (.t 7)), none⟩,
    ⟨(some 32), (.bin .sub .num (.t 31) (.c (.c (.int .i64 1)))), none⟩,
    ⟨(some 7), (.mov (.t 32)), none⟩])))))))))))
  (.seq (.kill [0, 1, 2, 6] 0) (.region [
   ⟨(some 13), (.mov (.t 6)), none⟩,
   ⟨(some 14), (.bin .add .num (.t 13) (.c (.c (.int .i64 1)))), none⟩,
   ⟨(some 6), (.mov (.t 14)), none⟩])))))))))⟩
/-- slices.heapSortOrdered[int] -/
def n88 : NF := ⟨56, [],
 .seq (.region [
  ⟨(some 11), (.mov (.t 1)), none⟩,
  ⟨(some 6), (.mov (.t 11)), none⟩])
 (.seq (.kill [0, 1, 2, 6] 0) (.seq (.region [
  ⟨(some 7), (.mov (.c (.c (.int .i64 0)))), none⟩])
 (.seq (.kill [0, 1, 2, 6, 7] 0) (.seq (.region [
  ⟨(some 12), (.mov (.t 2)), none⟩,
  ⟨(some 13), (.mov (.t 1)), none⟩,
  ⟨(some 14), (.bin .sub .num (.t 12) (.t 13)), none⟩,
  ⟨(some 8), (.mov (.t 14)), none⟩])
 (.seq (.kill [0, 6, 7, 8] 0) (.seq (.seq (.region [
  ⟨(some 15), (.mov (.t 8)), none⟩,
  ⟨(some 16), (.bin .sub .num (.t 15) (.c (.c (.int .i64 1)))), none⟩,
  ⟨(some 17), (.bin .quo .num (.t 16) (.c (.c (.int .i64 2)))), none⟩,
  ⟨(some 9), (.mov (.t 17)), none⟩])
 (.seq (.kill [0, 6, 7, 8, 9] 0) (.block 0 (.loop (.seq (.kill [0, 6, 7, 8, 9] 0) (.seq (.seq (.region [
   ⟨(some 18), (.mov (.t 9)), none⟩,
   ⟨(some 19), (.bin .geq .num (.t 18) (.c (.c (.int .i64 0)))), none⟩])
  (.seq (.kill [0, 6, 7, 8, 9, 19] 0) (.cond (.t 19)
  (.skip)
  (.exit 0))))
  (.seq (.kill [0, 6, 7, 8, 9] 0) (.seq (.block 1 (.region [
   ⟨(some 22), (.mov (.t 0)), none⟩,
   ⟨(some 23), (.mov (.t 9)), none⟩,
   ⟨(some 24), (.mov (.t 8)), none⟩,
   ⟨(some 25), (.mov (.t 6)), none⟩,
   ⟨(some 26), (.call 107 [(.t 22), (.t 23), (.t 24), (.t 25)]), none⟩]))
  (.seq (.kill [0, 6, 7, 8, 9] 0) (.region [
   ⟨(some 20), (.mov (.t 9)), none⟩,
   ⟨(some 21), (.bin .sub .num (.t 20) (.c (.c (.int .i64 1)))), none⟩,
   ⟨(some 9), (.mov (.t 21)), none⟩]))))))))))
 (.seq (.kill [0, 6, 7, 8] 0) (.seq (.region [
  ⟨(some 27), (.mov (.t 8)), none⟩,
  ⟨(some 28), (.bin .sub .num (.t 27) (.c (.c (.int .i64 1)))), none⟩,
  ⟨(some 10), (.mov (.t 28)), none⟩])
 (.seq (.kill [0, 6, 7, 10] 0) (.block 2 (.loop (.seq (.kill [0, 6, 7, 10] 0) (.seq (.seq (.region [
   ⟨(some 29), (.mov (.t 10)), none⟩,
   ⟨(some 30), (.bin .geq .num (.t 29) (.c (.c (.int .i64 0)))), none⟩])
  (.seq (.kill [0, 6, 7, 10, 30] 0) (.cond (.t 30)
  (.skip)
  (.exit 2))))
  (.seq (.kill [0, 6, 7, 10] 0) (.seq (.block 3 (.seq (.draw 0 [
   ⟨0, none, ⟨(some 33), (.mov (.t 0)), none⟩, []⟩,
   ⟨1, none, ⟨(some 34), (.mov (.t 6)), none⟩, []⟩,
   ⟨2, none, ⟨(some 35), (.mov (.t 0)), none⟩, []⟩,
   ⟨3, none, ⟨(some 36), (.mov (.t 6)), none⟩, []⟩,
   ⟨4, none, ⟨(some 37), (.mov (.t 10)), none⟩, []⟩,
   ⟨5, none, ⟨(some 38), (.bin .add .num (.t 36) (.t 37)), none⟩, []⟩,
   ⟨6, none, ⟨(some 39), (.mov (.t 0)), none⟩, []⟩,
   ⟨7, none, ⟨(some 40), (.mov (.t 6)), none⟩, []⟩,
   ⟨8, none, ⟨(some 41), (.mov (.t 10)), none⟩, []⟩,
   ⟨9, none, ⟨(some 42), (.bin .add .num (.t 40) (.t 41)), none⟩, []⟩,
   ⟨10, none, ⟨(some 43), (.iaddr 1 (.t 39) (.t 42)), none⟩, []⟩,
   ⟨11, none, ⟨(some 44), (.load none (.t 43)), none⟩, []⟩,
   ⟨12, none, ⟨(some 45), (.mov (.t 0)), none⟩, []⟩,
   ⟨13, none, ⟨(some 46), (.mov (.t 6)), none⟩, []⟩,
   ⟨14, none, ⟨(some 47), (.iaddr 1 (.t 45) (.t 46)), none⟩, []⟩,
   ⟨15, none, ⟨(some 48), (.load none (.t 47)), none⟩, []⟩,
   ⟨16, none, ⟨(some 49), (.iaddr 1 (.t 33) (.t 34)), none⟩, []⟩,
   ⟨17, none, ⟨none, (.store 1 (.t 49) (.t 44)), none⟩, []⟩,
   ⟨18, none, ⟨(some 50), (.iaddr 1 (.t 35) (.t 38)), none⟩, []⟩,
   ⟨19, none, ⟨none, (.store 1 (.t 50) (.t 48)), none⟩, []⟩])
  (.seq (.kill [0, 6, 7, 10] 0) (.region [
   ⟨(some 51), (.mov (.t 0)), none⟩,
   ⟨(some 52), (.mov (.t 7)), none⟩,
   ⟨(some 53), (.mov (.t 10)), none⟩,
   ⟨(some 54), (.mov (.t 6)), none⟩,
   ⟨(some 55), (.call 107 [(.t 51), (.t 52), (.t 53), (.t 54)]), none⟩]))))
  (.seq (.kill [0, 6, 7, 10] 0) (.region [
   ⟨(some 31), (.mov (.t 10)), none⟩,
   ⟨(some 32), (.bin .sub .num (.t 31) (.c (.c (.int .i64 1)))), none⟩,
   ⟨(some 10), (.mov (.t 32)), none⟩])))))))))))))))))⟩
/-- slices.breakPatternsOrdered[int] -/
def n89 : NF := ⟨65, [],
 .seq (.region [
  ⟨(some 11), (.mov (.t 2)), none⟩,
  ⟨(some 12), (.mov (.t 1)), none⟩,
  ⟨(some 13), (.bin .sub .num (.t 11) (.t 12)), none⟩,
  ⟨(some 6), (.mov (.t 13)), none⟩])
 (.seq (.kill [0, 1, 6] 0) (.seq (.region [
  ⟨(some 14), (.mov (.t 6)), none⟩,
  ⟨(some 15), (.bin .geq .num (.t 14) (.c (.c (.int .i64 8)))), none⟩])
 (.seq (.kill [0, 1, 6, 15] 0) (.cond (.t 15)
 (.seq (.region [
   ⟨(some 16), (.mov (.t 6)), none⟩,
   ⟨(some 17), (.conv (.toInt .u64) (.t 16)), none⟩,
   ⟨(some 7), (.box false 1 (.c (.c (.int .u64 0)))), none⟩,
   ⟨none, (.store 1 (.t 7) (.t 17)), none⟩])
  (.seq (.kill [0, 1, 6, 7] 0) (.seq (.region [
   ⟨(some 18), (.mov (.t 6)), none⟩,
   ⟨(some 19), (.call 108 [(.t 18)]), none⟩,
   ⟨(some 8), (.mov (.t 19)), none⟩])
  (.seq (.kill [0, 1, 6, 7, 8] 0) (.seq (.region [
   ⟨(some 20), (.mov (.t 1)), none⟩,
   ⟨(some 21), (.mov (.t 6)), none⟩,
   ⟨(some 22), (.bin .quo .num (.t 21) (.c (.c (.int .i64 4)))), none⟩,
   ⟨(some 23), (.bin .mul .num (.t 22) (.c (.c (.int .i64 2)))), none⟩,
   ⟨(some 24), (.bin .add .num (.t 20) (.t 23)), none⟩,
   ⟨(some 25), (.bin .sub .num (.t 24) (.c (.c (.int .i64 1)))), none⟩,
   ⟨(some 9), (.mov (.t 25)), none⟩])
  (.seq (.kill [0, 1, 6, 7, 8, 9] 0) (.block 0 (.loop (.seq (.kill [0, 1, 6, 7, 8, 9] 0) (.seq (.seq (.region [
    ⟨(some 26), (.mov (.t 9)), none⟩,
    ⟨(some 27), (.mov (.t 1)), none⟩,
    ⟨(some 28), (.mov (.t 6)), none⟩,
    ⟨(some 29), (.bin .quo .num (.t 28) (.c (.c (.int .i64 4)))), none⟩,
    ⟨(some 30), (.bin .mul .num (.t 29) (.c (.c (.int .i64 2)))), none⟩,
    ⟨(some 31), (.bin .add .num (.t 27) (.t 30)), none⟩,
    ⟨(some 32), (.bin .add .num (.t 31) (.c (.c (.int .i64 1)))), none⟩,
    ⟨(some 33), (.bin .leq .num (.t 26) (.t 32)), none⟩])
   (.seq (.kill [0, 1, 6, 7, 8, 9, 33] 0) (.cond (.t 33)
   (.skip)
   (.exit 0))))
   (.seq (.kill [0, 1, 6, 7, 8, 9] 0) (.seq (.block 1 (.seq (.region [
    ⟨(some 36), (.call 109 [(.t 7)]), none⟩,
    ⟨(some 37), (.mov (.t 8)), none⟩,
    ⟨(some 38), (.bin .sub .num (.t 37) (.c (.c (.int .u64 1)))), none⟩,
    ⟨(some 39), (.bin .and .num (.t 36) (.t 38)), none⟩,
    ⟨(some 40), (.conv (.toInt .i64) (.t 39)), none⟩,
    ⟨(some 10), (.mov (.t 40)), none⟩])
   (.seq (.kill [0, 1, 6, 7, 8, 9, 10] 0) (.seq (.seq (.region [
    ⟨(some 41), (.mov (.t 10)), none⟩,
    ⟨(some 42), (.mov (.t 6)), none⟩,
    ⟨(some 43), (.bin .geq .num (.t 41) (.t 42)), none⟩])
   (.seq (.kill [0, 1, 6, 7, 8, 9, 10, 43] 0) (.cond (.t 43)
   (.region [
     ⟨(some 44), (.mov (.t 10)), none⟩,
     ⟨(some 45), (.mov (.t 6)), none⟩,
     ⟨(some 46), (.bin .sub .num (.t 44) (.t 45)), none⟩,
     ⟨(some 10), (.mov (.t 46)), none⟩])
   (.skip))))
   (.seq (.kill [0, 1, 6, 7, 8, 9, 10] 0) (.draw 0 [
    ⟨0, none, ⟨(some 47), (.mov (.t 0)), none⟩, []⟩,
    ⟨1, none, ⟨(some 48), (.mov (.t 9)), none⟩, []⟩,
    ⟨2, none, ⟨(some 49), (.mov (.t 0)), none⟩, []⟩,
    ⟨3, none, ⟨(some 50), (.mov (.t 1)), none⟩, []⟩,
    ⟨4, none, ⟨(some 51), (.mov (.t 10)), none⟩, []⟩,
    ⟨5, none, ⟨(some 52), (.bin .add .num (.t 50) (.t 51)), none⟩, []⟩,
    ⟨6, none, ⟨(some 53), (.mov (.t 0)), none⟩, []⟩,
    ⟨7, none, ⟨(some 54), (.mov (.t 1)), none⟩, []⟩,
    ⟨8, none, ⟨(some 55), (.mov (.t 10)), none⟩, []⟩,
    ⟨9, none, ⟨(some 56), (.bin .add .num (.t 54) (.t 55)), none⟩, []⟩,
    ⟨10, none, ⟨(some 57), (.iaddr 1 (.t 53) (.t 56)), none⟩, []⟩,
    ⟨11, none, ⟨(some 58), (.load none (.t 57)), none⟩, []⟩,
    ⟨12, none, ⟨(some 59), (.mov (.t 0)), none⟩, []⟩,
    ⟨13, none, ⟨(some 60), (.mov (.t 9)), none⟩, []⟩,
    ⟨14, none, ⟨(some 61), (.iaddr 1 (.t 59) (.t 60)), none⟩, []⟩,
    ⟨15, none, ⟨(some 62), (.load none (.t 61)), none⟩, []⟩,
    ⟨16, none, ⟨(some 63), (.iaddr 1 (.t 47) (.t 48)), none⟩, []⟩,
    ⟨17, none, ⟨none, (.store 1 (.t 63) (.t 58)), none⟩, []⟩,
    ⟨18, none, ⟨(some 64), (.iaddr 1 (.t 49) (.t 52)), none⟩, []⟩,
    ⟨19, none, ⟨none, (.store 1 (.t 64) (.t 62)), none⟩, []⟩]))))))
   (.seq (.kill [0, 1, 6, 7, 8, 9] 0) (.region [
    ⟨(some 34), (.mov (.t 9)), none⟩,
    ⟨(some 35), (.bin .add .num (.t 34) (.c (.c (.int .i64 1)))), none⟩,
    ⟨(some 9), (.mov (.t 35)), none⟩]))))))))))))))
 (.skip)))))⟩
/-- slices.choosePivotOrdered[int] -/
def n90 : NF := ⟨57, [6, 7],
 .seq (.region [
  ⟨(some 6), (.mov (.c (.c (.int .i64 0)))), none⟩,
  ⟨(some 7), (.mov (.c (.c (.int .i64 0)))), none⟩])
 (.seq (.kill [0, 1, 2] 0) (.seq (.region [
  ⟨(some 13), (.mov (.t 2)), none⟩,
  ⟨(some 14), (.mov (.t 1)), none⟩,
  ⟨(some 15), (.bin .sub .num (.t 13) (.t 14)), none⟩,
  ⟨(some 8), (.mov (.t 15)), none⟩])
 (.seq (.kill [0, 1, 8] 0) (.seq (.region [
  ⟨(some 9), (.box false 1 (.c (.c (.int .i64 0)))), none⟩])
 (.seq (.kill [0, 1, 8, 9] 0) (.seq (.region [
  ⟨(some 16), (.mov (.t 1)), none⟩,
  ⟨(some 17), (.mov (.t 8)), none⟩,
  ⟨(some 18), (.bin .quo .num (.t 17) (.c (.c (.int .i64 4)))), none⟩,
  ⟨(some 19), (.bin .mul .num (.t 18) (.c (.c (.int .i64 1)))), none⟩,
  ⟨(some 20), (.bin .add .num (.t 16) (.t 19)), none⟩,
  ⟨(some 10), (.mov (.t 20)), none⟩])
 (.seq (.kill [0, 1, 8, 9, 10] 0) (.seq (.region [
  ⟨(some 21), (.mov (.t 1)), none⟩,
  ⟨(some 22), (.mov (.t 8)), none⟩,
  ⟨(some 23), (.bin .quo .num (.t 22) (.c (.c (.int .i64 4)))), none⟩,
  ⟨(some 24), (.bin .mul .num (.t 23) (.c (.c (.int .i64 2)))), none⟩,
  ⟨(some 25), (.bin .add .num (.t 21) (.t 24)), none⟩,
  ⟨(some 11), (.mov (.t 25)), none⟩])
 (.seq (.kill [0, 1, 8, 9, 10, 11] 0) (.seq (.region [
  ⟨(some 26), (.mov (.t 1)), none⟩,
  ⟨(some 27), (.mov (.t 8)), none⟩,
  ⟨(some 28), (.bin .quo .num (.t 27) (.c (.c (.int .i64 4)))), none⟩,
  ⟨(some 29), (.bin .mul .num (.t 28) (.c (.c (.int .i64 3)))), none⟩,
  ⟨(some 30), (.bin .add .num (.t 26) (.t 29)), none⟩,
  ⟨(some 12), (.mov (.t 30)), none⟩])
 (.seq (.kill [0, 8, 9, 10, 11, 12] 0) (.seq (.seq (.region [
  ⟨(some 31), (.mov (.t 8)), none⟩,
  ⟨(some 32), (.bin .geq .num (.t 31) (.c (.c (.int .i64 8)))), none⟩])
 (.seq (.kill [0, 8, 9, 10, 11, 12, 32] 0) (.cond (.t 32)
 (.seq (.seq (.region [
   ⟨(some 33), (.mov (.t 8)), none⟩,
   ⟨(some 34), (.bin .geq .num (.t 33) (.c (.c (.int .i64 50)))), none⟩])
  (.seq (.kill [0, 9, 10, 11, 12, 34] 0) (.cond (.t 34)
  (.seq (.region [
    ⟨(some 35), (.mov (.t 0)), none⟩,
    ⟨(some 36), (.mov (.t 10)), none⟩,
    ⟨(some 37), (.call 110 [(.t 35), (.t 36), (.t 9)]), none⟩,
    ⟨(some 10), (.mov (.t 37)), none⟩])
   (.seq (.kill [0, 9, 10, 11, 12] 0) (.seq (.region [
    ⟨(some 38), (.mov (.t 0)), none⟩,
    ⟨(some 39), (.mov (.t 11)), none⟩,
    ⟨(some 40), (.call 110 [(.t 38), (.t 39), (.t 9)]), none⟩,
    ⟨(some 11), (.mov (.t 40)), none⟩])
   (.seq (.kill [0, 9, 10, 11, 12] 0) (.region [
    ⟨(some 41), (.mov (.t 0)), none⟩,
    ⟨(some 42), (.mov (.t 12)), none⟩,
    ⟨(some 43), (.call 110 [(.t 41), (.t 42), (.t 9)]), none⟩,
    ⟨(some 12), (.mov (.t 43)), none⟩])))))
  (.skip))))
  (.seq (.kill [0, 9, 10, 11, 12] 0) (.region [
   ⟨(some 44), (.mov (.t 0)), none⟩,
   ⟨(some 45), (.mov (.t 10)), none⟩,
   ⟨(some 46), (.mov (.t 11)), none⟩,
   ⟨(some 47), (.mov (.t 12)), none⟩,
   ⟨(some 48), (.call 111 [(.t 44), (.t 45), (.t 46), (.t 47), (.t 9)]), none⟩,
   ⟨(some 11), (.mov (.t 48)), none⟩])))
 (.skip))))
 (.seq (.kill [9, 11] 0) (.seq (.region [
  ⟨(some 49), (.load none (.t 9)), none⟩])
 (.seq (.kill [11, 49] 0) (.block 0 (.seq (.region [
  ⟨(some 52), (.bin .eql .num (.t 49) (.c (.c (.int .i64 0)))), none⟩,
  ⟨(some 51), (.mov (.t 52)), none⟩])
 (.seq (.kill [11, 49, 51] 0) (.cond (.t 51)
 (.seq (.region [
   ⟨(some 53), (.mov (.t 11)), none⟩,
   ⟨(some 6), (.mov (.t 53)), none⟩,
   ⟨(some 7), (.mov (.c (.c (.int .i64 1)))), none⟩])
  (.ret))
 (.seq (.region [
   ⟨(some 55), (.bin .eql .num (.t 49) (.c (.c (.int .i64 12)))), none⟩,
   ⟨(some 54), (.mov (.t 55)), none⟩])
  (.seq (.kill [11, 54] 0) (.cond (.t 54)
  (.seq (.region [
    ⟨(some 56), (.mov (.t 11)), none⟩,
    ⟨(some 6), (.mov (.t 56)), none⟩,
    ⟨(some 7), (.mov (.c (.c (.int .i64 2)))), none⟩])
   (.ret))
  (.seq (.region [
    ⟨(some 50), (.mov (.t 11)), none⟩,
    ⟨(some 6), (.mov (.t 50)), none⟩,
    ⟨(some 7), (.mov (.c (.c (.int .i64 0)))), none⟩])
   (.ret))))))))))))))))))))))))⟩
/-- slices.reverseRangeOrdered[int] -/
def n91 : NF := ⟨32, [],
 .seq (.region [
  ⟨(some 8), (.mov (.t 1)), none⟩,
  ⟨(some 6), (.mov (.t 8)), none⟩])
 (.seq (.kill [0, 2, 6] 0) (.seq (.region [
  ⟨(some 9), (.mov (.t 2)), none⟩,
  ⟨(some 10), (.bin .sub .num (.t 9) (.c (.c (.int .i64 1)))), none⟩,
  ⟨(some 7), (.mov (.t 10)), none⟩])
 (.seq (.kill [0, 6, 7] 0) (.block 0 (.loop (.seq (.kill [0, 6, 7] 0) (.seq (.seq (.region [
   ⟨(some 11), (.mov (.t 6)), none⟩,
   ⟨(some 12), (.mov (.t 7)), none⟩,
   ⟨(some 13), (.bin .lss .num (.t 11) (.t 12)), none⟩])
  (.seq (.kill [0, 6, 7, 13] 0) (.cond (.t 13)
  (.skip)
  (.exit 0))))
  (.seq (.kill [0, 6, 7] 0) (.block 1 (.seq (.draw 0 [
   ⟨0, none, ⟨(some 14), (.mov (.t 0)), none⟩, []⟩,
   ⟨1, none, ⟨(some 15), (.mov (.t 6)), none⟩, []⟩,
   ⟨2, none, ⟨(some 16), (.mov (.t 0)), none⟩, []⟩,
   ⟨3, none, ⟨(some 17), (.mov (.t 7)), none⟩, []⟩,
   ⟨4, none, ⟨(some 18), (.mov (.t 0)), none⟩, []⟩,
   ⟨5, none, ⟨(some 19), (.mov (.t 7)), none⟩, []⟩,
   ⟨6, none, ⟨(some 20), (.iaddr 1 (.t 18) (.t 19)), none⟩, []⟩,
   ⟨7, none, ⟨(some 21), (.load none (.t 20)), none⟩, []⟩,
   ⟨8, none, ⟨(some 22), (.mov (.t 0)), none⟩, []⟩,
   ⟨9, none, ⟨(some 23), (.mov (.t 6)), none⟩, []⟩,
   ⟨10, none, ⟨(some 24), (.iaddr 1 (.t 22) (.t 23)), none⟩, []⟩,
   ⟨11, none, ⟨(some 25), (.load none (.t 24)), none⟩, []⟩,
   ⟨12, none, ⟨(some 26), (.iaddr 1 (.t 14) (.t 15)), none⟩, []⟩,
   ⟨13, none, ⟨none, (.store 1 (.t 26) (.t 21)), none⟩, []⟩,
   ⟨14, none, ⟨(some 27), (.iaddr 1 (.t 16) (.t 17)), none⟩, []⟩,
   ⟨15, none, ⟨none, (.store 1 (.t 27) (.t 25)), none⟩, []⟩])
  (.seq (.kill [0, 6, 7] 0) (.seq (.region [
   ⟨(some 28), (.mov (.t 6)), none⟩,
   ⟨(some 29), (.bin .add .num (.t 28) (.c (.c (.int .i64 1)))), none⟩,
   ⟨(some 6), (.mov (.t 29)), none⟩])
  (.seq (.kill [0, 6, 7] 0) (.region [
   ⟨(some 30), (.mov (.t 7)), none⟩,
   ⟨(some 31), (.bin .sub .num (.t 30) (.c (.c (.int .i64 1)))), none⟩,
   ⟨(some 7), (.mov (.t 31)), none⟩]))))))))))))))⟩
/-- slices.partialInsertionSortOrdered[int] -/
def n92 : NF := ⟨133, [6],
 .seq (.region [
  ⟨(some 6), (.mov (.c (.c (.bool false)))), none⟩])
 (.seq (.kill [0, 1, 2] 0) (.seq (.region [
  ⟨(some 11), (.mov (.t 1)), none⟩,
  ⟨(some 12), (.bin .add .num (.t 11) (.c (.c (.int .i64 1)))), none⟩,
  ⟨(some 7), (.mov (.t 12)), none⟩])
 (.seq (.kill [0, 1, 2, 7] 0) (.seq (.seq (.region [
  ⟨(some 8), (.mov (.c (.c (.int .i64 0)))), none⟩])
 (.seq (.kill [0, 1, 2, 7, 8] 0) (.block 0 (.loop (.seq (.kill [0, 1, 2, 7, 8] 0) (.seq (.seq (.region [
   ⟨(some 13), (.mov (.t 8)), none⟩,
   ⟨(some 14), (.bin .lss .num (.t 13) (.c (.c (.int .i64 5)))), none⟩])
  (.seq (.kill [0, 1, 2, 7, 8, 14] 0) (.cond (.t 14)
  (.skip)
  (.exit 0))))
  (.seq (.kill [0, 1, 2, 7, 8] 0) (.seq (.block 1 (.seq (.block 2 (.loop (.seq (.kill [0, 1, 2, 7, 8] 0) (.seq (.seq (.draw 0 [
    ⟨0, none, ⟨(some 17), (.mov (.t 7)), none⟩, []⟩,
    ⟨1, none, ⟨(some 18), (.mov (.t 2)), none⟩, []⟩,
    ⟨2, none, ⟨(some 19), (.bin .lss .num (.t 17) (.t 18)), none⟩, []⟩,
    ⟨3, none, ⟨(some 20), (.mov (.t 19)), none⟩, []⟩,
    ⟨4, none, ⟨(some 21), (.mov (.t 0)), (some (20, true))⟩, []⟩,
    ⟨5, none, ⟨(some 22), (.mov (.t 7)), (some (20, true))⟩, []⟩,
    ⟨6, none, ⟨(some 23), (.iaddr 1 (.t 21) (.t 22)), (some (20, true))⟩, []⟩,
    ⟨7, none, ⟨(some 24), (.load none (.t 23)), (some (20, true))⟩, []⟩,
    ⟨8, none, ⟨(some 25), (.mov (.t 0)), (some (20, true))⟩, []⟩,
    ⟨9, none, ⟨(some 26), (.mov (.t 7)), (some (20, true))⟩, []⟩,
    ⟨10, none, ⟨(some 27), (.bin .sub .num (.t 26) (.c (.c (.int .i64 1)))), (some (20, true))⟩, []⟩,
    ⟨11, none, ⟨(some 28), (.iaddr 1 (.t 25) (.t 27)), (some (20, true))⟩, []⟩,
    ⟨12, none, ⟨(some 29), (.load none (.t 28)), (some (20, true))⟩, []⟩,
    ⟨13, none, ⟨(some 30), (.call 93 [(.t 24), (.t 29)]), (some (20, true))⟩, []⟩,
    ⟨14, none, ⟨(some 31), (.un .not (.t 30)), (some (20, true))⟩, []⟩,
    ⟨15, none, ⟨(some 32), (.pick (.t 20) (.t 31) (.c (.c (.bool false)))), none⟩, []⟩])
   (.seq (.kill [0, 1, 2, 7, 8, 32] 0) (.cond (.t 32)
   (.skip)
   (.exit 2))))
   (.seq (.kill [0, 1, 2, 7, 8] 0) (.block 3 (.region [
    ⟨(some 33), (.mov (.t 7)), none⟩,
    ⟨(some 34), (.bin .add .num (.t 33) (.c (.c (.int .i64 1)))), none⟩,
    ⟨(some 7), (.mov (.t 34)), none⟩])))))))
  (.seq (.kill [0, 1, 2, 7, 8] 0) (.seq (.seq (.region [
   ⟨(some 35), (.mov (.t 7)), none⟩,
   ⟨(some 36), (.mov (.t 2)), none⟩,
   ⟨(some 37), (.bin .eql .num (.t 35) (.t 36)), none⟩])
  (.seq (.kill [0, 1, 2, 7, 8, 37] 0) (.cond (.t 37)
  (.seq (.region [
    ⟨(some 6), (.mov (.c (.c (.bool true)))), none⟩])
   (.ret))
  (.skip))))
  (.seq (.kill [0, 1, 2, 7, 8] 0) (.seq (.seq (.region [
   ⟨(some 38), (.mov (.t 2)), none⟩,
   ⟨(some 39), (.mov (.t 1)), none⟩,
   ⟨(some 40), (.bin .sub .num (.t 38) (.t 39)), none⟩,
   ⟨(some 41), (.bin .lss .num (.t 40) (.c (.c (.int .i64 50)))), none⟩])
  (.seq (.kill [0, 1, 2, 7, 8, 41] 0) (.cond (.t 41)
  (.seq (.region [
    ⟨(some 6), (.mov (.c (.c (.bool false)))), none⟩])
   (.ret))
  (.skip))))
  (.seq (.kill [0, 1, 2, 7, 8] 0) (.seq (.draw 0 [
   ⟨0, none, ⟨(some 42), (.mov (.t 0)), none⟩, []⟩,
   ⟨1, none, ⟨(some 43), (.mov (.t 7)), none⟩, []⟩,
   ⟨2, none, ⟨(some 44), (.mov (.t 0)), none⟩, []⟩,
   ⟨3, none, ⟨(some 45), (.mov (.t 7)), none⟩, []⟩,
   ⟨4, none, ⟨(some 46), (.bin .sub .num (.t 45) (.c (.c (.int .i64 1)))), none⟩, []⟩,
   ⟨5, none, ⟨(some 47), (.mov (.t 0)), none⟩, []⟩,
   ⟨6, none, ⟨(some 48), (.mov (.t 7)), none⟩, []⟩,
   ⟨7, none, ⟨(some 49), (.bin .sub .num (.t 48) (.c (.c (.int .i64 1)))), none⟩, []⟩,
   ⟨8, none, ⟨(some 50), (.iaddr 1 (.t 47) (.t 49)), none⟩, []⟩,
   ⟨9, none, ⟨(some 51), (.load none (.t 50)), none⟩, []⟩,
   ⟨10, none, ⟨(some 52), (.mov (.t 0)), none⟩, []⟩,
   ⟨11, none, ⟨(some 53), (.mov (.t 7)), none⟩, []⟩,
   ⟨12, none, ⟨(some 54), (.iaddr 1 (.t 52) (.t 53)), none⟩, []⟩,
   ⟨13, none, ⟨(some 55), (.load none (.t 54)), none⟩, []⟩,
   ⟨14, none, ⟨(some 56), (.iaddr 1 (.t 42) (.t 43)), none⟩, []⟩,
   ⟨15, none, ⟨none, (.store 1 (.t 56) (.t 51)), none⟩, []⟩,
   ⟨16, none, ⟨(some 57), (.iaddr 1 (.t 44) (.t 46)), none⟩, []⟩,
   ⟨17, none, ⟨none, (.store 1 (.t 57) (.t 55)), none⟩, []⟩])
  (.seq (.kill [0, 1, 2, 7, 8] 0) (.seq (.seq (.region [
   ⟨(some 58), (.mov (.t 7)), none⟩,
   ⟨(some 59), (.mov (.t 1)), none⟩,
   ⟨(some 60), (.bin .sub .num (.t 58) (.t 59)), none⟩,
   ⟨(some 61), (.bin .geq .num (.t 60) (.c (.c (.int .i64 2)))), none⟩])
  (.seq (.kill [0, 1, 2, 7, 8, 61] 0) (.cond (.t 61)
  (.seq (.region [
    ⟨(some 62), (.mov (.t 7)), none⟩,
    ⟨(some 63), (.bin .sub .num (.t 62) (.c (.c (.int .i64 1)))), none⟩,
    ⟨(some 9), (.mov (.t 63)), none⟩])
   (.seq (.kill [0, 1, 2, 7, 8, 9] 0) (.block 4 (.loop (.seq (.kill [0, 1, 2, 7, 8, 9] 0) (.seq (.seq (.region [
     ⟨(some 64), (.mov (.t 9)), none⟩,
     ⟨(some 65), (.bin .geq .num (.t 64) (.c (.c (.int .i64 1)))), none⟩])
    (.seq (.kill [0, 1, 2, 7, 8, 9, 65] 0) (.cond (.t 65)
    (.skip)
    (.exit 4))))
    (.seq (.kill [0, 1, 2, 7, 8, 9] 0) (.seq (.block 5 (.seq (.seq (.draw 0 [
     ⟨0, none, ⟨(some 68), (.mov (.t 0)), none⟩, []⟩,
     ⟨1, none, ⟨(some 69), (.mov (.t 9)), none⟩, []⟩,
     ⟨2, none, ⟨(some 70), (.iaddr 1 (.t 68) (.t 69)), none⟩, []⟩,
     ⟨3, none, ⟨(some 71), (.load none (.t 70)), none⟩, []⟩,
     ⟨4, none, ⟨(some 72), (.mov (.t 0)), none⟩, []⟩,
     ⟨5, none, ⟨(some 73), (.mov (.t 9)), none⟩, []⟩,
     ⟨6, none, ⟨(some 74), (.bin .sub .num (.t 73) (.c (.c (.int .i64 1)))), none⟩, []⟩,
     ⟨7, none, ⟨(some 75), (.iaddr 1 (.t 72) (.t 74)), none⟩, []⟩,
     ⟨8, none, ⟨(some 76), (.load none (.t 75)), none⟩, []⟩,
     ⟨9, none, ⟨(some 77), (.call 93 [(.t 71), (.t 76)]), none⟩, []⟩,
     ⟨10, none, ⟨(some 78), (.un .not (.t 77)), none⟩, []⟩])
    (.seq (.kill [0, 1, 2, 7, 8, 9, 78] 0) (.cond (.t 78)
    (.exit 4)
    (.skip))))
    (.seq (.kill [0, 1, 2, 7, 8, 9] 0) (.draw 0 [
     ⟨0, none, ⟨(some 79), (.mov (.t 0)), none⟩, []⟩,
     ⟨1, none, ⟨(some 80), (.mov (.t 9)), none⟩, []⟩,
     ⟨2, none, ⟨(some 81), (.mov (.t 0)), none⟩, []⟩,
     ⟨3, none, ⟨(some 82), (.mov (.t 9)), none⟩, []⟩,
     ⟨4, none, ⟨(some 83), (.bin .sub .num (.t 82) (.c (.c (.int .i64 1)))), none⟩, []⟩,
     ⟨5, none, ⟨(some 84), (.mov (.t 0)), none⟩, []⟩,
     ⟨6, none, ⟨(some 85), (.mov (.t 9)), none⟩, []⟩,
     ⟨7, none, ⟨(some 86), (.bin .sub .num (.t 85) (.c (.c (.int .i64 1)))), none⟩, []⟩,
     ⟨8, none, ⟨(some 87), (.iaddr 1 (.t 84) (.t 86)), none⟩, []⟩,
     ⟨9, none, ⟨(some 88), (.load none (.t 87)), none⟩, []⟩,
     ⟨10, none, ⟨(some 89), (.mov (.t 0)), none⟩, []⟩,
     ⟨11, none, ⟨(some 90), (.mov (.t 9)), none⟩, []⟩,
     ⟨12, none, ⟨(some 91), (.iaddr 1 (.t 89) (.t 90)), none⟩, []⟩,
     ⟨13, none, ⟨(some 92), (.load none (.t 91)), none⟩, []⟩,
     ⟨14, none, ⟨(some 93), (.iaddr 1 (.t 79) (.t 80)), none⟩, []⟩,
     ⟨15, none, ⟨none, (.store 1 (.t 93) (.t 88)), none⟩, []⟩,
     ⟨16, none, ⟨(some 94), (.iaddr 1 (.t 81) (.t 83)), none⟩, []⟩,
     ⟨17, none, ⟨none, (.store 1 (.t 94) (.t 92)), none⟩, []⟩]))))
    (.seq (.kill [0, 1, 2, 7, 8, 9] 0) (.region [
     ⟨(some 66), (.mov (.t 9)), none⟩,
     ⟨(some 67), (.bin .sub .num (.t 66) (.c (.c (.int .i64 1)))), none⟩,
     ⟨(some 9), (.mov (.t 67)), none⟩]))))))))))
  (.skip))))
  (.seq (.kill [0, 1, 2, 7, 8] 0) (.seq (.region [
   ⟨(some 95), (.mov (.t 2)), none⟩,
   ⟨(some 96), (.mov (.t 7)), none⟩,
   ⟨(some 97), (.bin .sub .num (.t 95) (.t 96)), none⟩,
   ⟨(some 98), (.bin .geq .num (.t 97) (.c (.c (.int .i64 2)))), none⟩])
  (.seq (.kill [0, 1, 2, 7, 8, 98] 0) (.cond (.t 98)
  (.seq (.region [
    ⟨(some 99), (.mov (.t 7)), none⟩,
    ⟨(some 100), (.bin .add .num (.t 99) (.c (.c (.int .i64 1)))), none⟩,
    ⟨(some 10), (.mov (.t 100)), none⟩])
   (.seq (.kill [0, 1, 2, 7, 8, 10] 0) (.block 6 (.loop (.seq (.kill [0, 1, 2, 7, 8, 10] 0) (.seq (.seq (.region [
     ⟨(some 101), (.mov (.t 10)), none⟩,
     ⟨(some 102), (.mov (.t 2)), none⟩,
     ⟨(some 103), (.bin .lss .num (.t 101) (.t 102)), none⟩])
    (.seq (.kill [0, 1, 2, 7, 8, 10, 103] 0) (.cond (.t 103)
    (.skip)
    (.exit 6))))
    (.seq (.kill [0, 1, 2, 7, 8, 10] 0) (.seq (.block 7 (.seq (.seq (.draw 0 [
     ⟨0, none, ⟨(some 106), (.mov (.t 0)), none⟩, []⟩,
     ⟨1, none, ⟨(some 107), (.mov (.t 10)), none⟩, []⟩,
     ⟨2, none, ⟨(some 108), (.iaddr 1 (.t 106) (.t 107)), none⟩, []⟩,
     ⟨3, none, ⟨(some 109), (.load none (.t 108)), none⟩, []⟩,
     ⟨4, none, ⟨(some 110), (.mov (.t 0)), none⟩, []⟩,
     ⟨5, none, ⟨(some 111), (.mov (.t 10)), none⟩, []⟩,
     ⟨6, none, ⟨(some 112), (.bin .sub .num (.t 111) (.c (.c (.int .i64 1)))), none⟩, []⟩,
     ⟨7, none, ⟨(some 113), (.iaddr 1 (.t 110) (.t 112)), none⟩, []⟩,
     ⟨8, none, ⟨(some 114), (.load none (.t 113)), none⟩, []⟩,
     ⟨9, none, ⟨(some 115), (.call 93 [(.t 109), (.t 114)]), none⟩, []⟩,
     ⟨10, none, ⟨(some 116), (.un .not (.t 115)), none⟩, []⟩])
    (.seq (.kill [0, 1, 2, 7, 8, 10, 116] 0) (.cond (.t 116)
    (.exit 6)
    (.skip))))
    (.seq (.kill [0, 1, 2, 7, 8, 10] 0) (.draw 0 [
     ⟨0, none, ⟨(some 117), (.mov (.t 0)), none⟩, []⟩,
     ⟨1, none, ⟨(some 118), (.mov (.t 10)), none⟩, []⟩,
     ⟨2, none, ⟨(some 119), (.mov (.t 0)), none⟩, []⟩,
     ⟨3, none, ⟨(some 120), (.mov (.t 10)), none⟩, []⟩,
     ⟨4, none, ⟨(some 121), (.bin .sub .num (.t 120) (.c (.c (.int .i64 1)))), none⟩, []⟩,
     ⟨5, none, ⟨(some 122), (.mov (.t 0)), none⟩, []⟩,
     ⟨6, none, ⟨(some 123), (.mov (.t 10)), none⟩, []⟩,
     ⟨7, none, ⟨(some 124), (.bin .sub .num (.t 123) (.c (.c (.int .i64 1)))), none⟩, []⟩,
     ⟨8, none, ⟨(some 125), (.iaddr 1 (.t 122) (.t 124)), none⟩, []⟩,
     ⟨9, none, ⟨(some 126), (.load none (.t 125)), none⟩, []⟩,
     ⟨10, none, ⟨(some 127), (.mov (.t 0)), none⟩, []⟩,
     ⟨11, none, ⟨(some 128), (.mov (.t 10)), none⟩, []⟩,
     ⟨12, none, ⟨(some 129), (.iaddr 1 (.t 127) (.t 128)), none⟩, []⟩,
     ⟨13, none, ⟨(some 130), (.load none (.t 129)), none⟩, []⟩,
     ⟨14, none, ⟨(some 131), (.iaddr 1 (.t 117) (.t 118)), none⟩, []⟩,
     ⟨15, none, ⟨none, (.store 1 (.t 131) (.t 126)), none⟩, []⟩,
     ⟨16, none, ⟨(some 132), (.iaddr 1 (.t 119) (.t 121)), none⟩, []⟩,
     ⟨17, none, ⟨none, (.store 1 (.t 132) (.t 130)), none⟩, []⟩]))))
    (.seq (.kill [0, 1, 2, 7, 8, 10] 0) (.region [
     ⟨(some 104), (.mov (.t 10)), none⟩,
     ⟨(some 105), (.bin .add .num (.t 104) (.c (.c (.int .i64 1)))), none⟩,
     ⟨(some 10), (.mov (.t 105)), none⟩]))))))))))
  (.skip)))))))))))))))
  (.seq (.kill [0, 1, 2, 7, 8] 0) (.region [
   ⟨(some 15), (.mov (.t 8)), none⟩,
   ⟨(some 16), (.bin .add .num (.t 15) (.c (.c (.int .i64 1)))), none⟩,
   ⟨(some 8), (.mov (.t 16)), none⟩]))))))))))
 (.seq (.kill [] 0) (.seq (.region [
  ⟨(some 6), (.mov (.c (.c (.bool false)))), none⟩])
 (.ret)))))))⟩
/-- cmp.Less[int] -/
def n93 : NF := ⟨17, [4],
 .seq (.region [
  ⟨(some 4), (.mov (.c (.c (.bool false)))), none⟩])
 (.seq (.kill [0, 1] 0) (.seq (.region [
  ⟨(some 5), (.mov (.t 0)), none⟩,
  ⟨(some 6), (.call 47 [(.t 5)]), none⟩,
  ⟨(some 7), (.mov (.t 6)), none⟩,
  ⟨(some 8), (.mov (.t 1)), (some (7, true))⟩,
  ⟨(some 9), (.call 47 [(.t 8)]), (some (7, true))⟩,
  ⟨(some 10), (.un .not (.t 9)), (some (7, true))⟩,
  ⟨(some 11), (.pick (.t 7) (.t 10) (.c (.c (.bool false)))), none⟩,
  ⟨(some 12), (.mov (.t 11)), none⟩,
  ⟨(some 13), (.mov (.t 0)), (some (12, false))⟩,
  ⟨(some 14), (.mov (.t 1)), (some (12, false))⟩,
  ⟨(some 15), (.bin .lss .num (.t 13) (.t 14)), (some (12, false))⟩,
  ⟨(some 16), (.pick (.t 12) (.c (.c (.bool true))) (.t 15)), none⟩,
  ⟨(some 4), (.mov (.t 16)), none⟩])
 (.ret)))⟩
/-- slices.partitionEqualOrdered[int] -/
def n94 : NF := ⟨84, [8],
 .seq (.region [
  ⟨(some 8), (.mov (.c (.c (.int .i64 0)))), none⟩])
 (.seq (.kill [0, 1, 2, 3] 0) (.seq (.draw 0 [
  ⟨0, none, ⟨(some 11), (.mov (.t 0)), none⟩, []⟩,
  ⟨1, none, ⟨(some 12), (.mov (.t 1)), none⟩, []⟩,
  ⟨2, none, ⟨(some 13), (.mov (.t 0)), none⟩, []⟩,
  ⟨3, none, ⟨(some 14), (.mov (.t 3)), none⟩, []⟩,
  ⟨4, none, ⟨(some 15), (.mov (.t 0)), none⟩, []⟩,
  ⟨5, none, ⟨(some 16), (.mov (.t 3)), none⟩, []⟩,
  ⟨6, none, ⟨(some 17), (.iaddr 1 (.t 15) (.t 16)), none⟩, []⟩,
  ⟨7, none, ⟨(some 18), (.load none (.t 17)), none⟩, []⟩,
  ⟨8, none, ⟨(some 19), (.mov (.t 0)), none⟩, []⟩,
  ⟨9, none, ⟨(some 20), (.mov (.t 1)), none⟩, []⟩,
  ⟨10, none, ⟨(some 21), (.iaddr 1 (.t 19) (.t 20)), none⟩, []⟩,
  ⟨11, none, ⟨(some 22), (.load none (.t 21)), none⟩, []⟩,
  ⟨12, none, ⟨(some 23), (.iaddr 1 (.t 11) (.t 12)), none⟩, []⟩,
  ⟨13, none, ⟨none, (.store 1 (.t 23) (.t 18)), none⟩, []⟩,
  ⟨14, none, ⟨(some 24), (.iaddr 1 (.t 13) (.t 14)), none⟩, []⟩,
  ⟨15, none, ⟨none, (.store 1 (.t 24) (.t 22)), none⟩, []⟩])
 (.seq (.kill [0, 1, 2] 0) (.seq (.region [
  ⟨(some 25), (.mov (.t 1)), none⟩,
  ⟨(some 26), (.bin .add .num (.t 25) (.c (.c (.int .i64 1)))), none⟩,
  ⟨(some 27), (.mov (.t 2)), none⟩,
  ⟨(some 28), (.bin .sub .num (.t 27) (.c (.c (.int .i64 1)))), none⟩,
  ⟨(some 9), (.mov (.t 26)), none⟩,
  ⟨(some 10), (.mov (.t 28)), none⟩])
 (.seq (.kill [0, 1, 9, 10] 0) (.seq (.block 0 (.loop (.seq (.kill [0, 1, 9, 10] 0) (.block 1 (.seq (.block 2 (.loop (.seq (.kill [0, 1, 9, 10] 0) (.seq (.seq (.draw 0 [
    ⟨0, none, ⟨(some 29), (.mov (.t 9)), none⟩, []⟩,
    ⟨1, none, ⟨(some 30), (.mov (.t 10)), none⟩, []⟩,
    ⟨2, none, ⟨(some 31), (.bin .leq .num (.t 29) (.t 30)), none⟩, []⟩,
    ⟨3, none, ⟨(some 32), (.mov (.t 31)), none⟩, []⟩,
    ⟨4, none, ⟨(some 33), (.mov (.t 0)), (some (32, true))⟩, []⟩,
    ⟨5, none, ⟨(some 34), (.mov (.t 1)), (some (32, true))⟩, []⟩,
    ⟨6, none, ⟨(some 35), (.iaddr 1 (.t 33) (.t 34)), (some (32, true))⟩, []⟩,
    ⟨7, none, ⟨(some 36), (.load none (.t 35)), (some (32, true))⟩, []⟩,
    ⟨8, none, ⟨(some 37), (.mov (.t 0)), (some (32, true))⟩, []⟩,
    ⟨9, none, ⟨(some 38), (.mov (.t 9)), (some (32, true))⟩, []⟩,
    ⟨10, none, ⟨(some 39), (.iaddr 1 (.t 37) (.t 38)), (some (32, true))⟩, []⟩,
    ⟨11, none, ⟨(some 40), (.load none (.t 39)), (some (32, true))⟩, []⟩,
    ⟨12, none, ⟨(some 41), (.call 93 [(.t 36), (.t 40)]), (some (32, true))⟩, []⟩,
    ⟨13, none, ⟨(some 42), (.un .not (.t 41)), (some (32, true))⟩, []⟩,
    ⟨14, none, ⟨(some 43), (.pick (.t 32) (.t 42) (.c (.c (.bool false)))), none⟩, []⟩])
   (.seq (.kill [0, 1, 9, 10, 43] 0) (.cond (.t 43)
   (.skip)
   (.exit 2))))
   (.seq (.kill [0, 1, 9, 10] 0) (.block 3 (.region [
    ⟨(some 44), (.mov (.t 9)), none⟩,
    ⟨(some 45), (.bin .add .num (.t 44) (.c (.c (.int .i64 1)))), none⟩,
    ⟨(some 9), (.mov (.t 45)), none⟩])))))))
  (.seq (.kill [0, 1, 9, 10] 0) (.seq (.block 4 (.loop (.seq (.kill [0, 1, 9, 10] 0) (.seq (.seq (.draw 0 [
    ⟨0, none, ⟨(some 46), (.mov (.t 9)), none⟩, []⟩,
    ⟨1, none, ⟨(some 47), (.mov (.t 10)), none⟩, []⟩,
    ⟨2, none, ⟨(some 48), (.bin .leq .num (.t 46) (.t 47)), none⟩, []⟩,
    ⟨3, none, ⟨(some 49), (.mov (.t 48)), none⟩, []⟩,
    ⟨4, none, ⟨(some 50), (.mov (.t 0)), (some (49, true))⟩, []⟩,
    ⟨5, none, ⟨(some 51), (.mov (.t 1)), (some (49, true))⟩, []⟩,
    ⟨6, none, ⟨(some 52), (.iaddr 1 (.t 50) (.t 51)), (some (49, true))⟩, []⟩,
    ⟨7, none, ⟨(some 53), (.load none (.t 52)), (some (49, true))⟩, []⟩,
    ⟨8, none, ⟨(some 54), (.mov (.t 0)), (some (49, true))⟩, []⟩,
    ⟨9, none, ⟨(some 55), (.mov (.t 10)), (some (49, true))⟩, []⟩,
    ⟨10, none, ⟨(some 56), (.iaddr 1 (.t 54) (.t 55)), (some (49, true))⟩, []⟩,
    ⟨11, none, ⟨(some 57), (.load none (.t 56)), (some (49, true))⟩, []⟩,
    ⟨12, none, ⟨(some 58), (.call 93 [(.t 53), (.t 57)]), (some (49, true))⟩, []⟩,
    ⟨13, none, ⟨(some 59), (.pick (.t 49) (.t 58) (.c (.c (.bool false)))), none⟩, []⟩])
   (.seq (.kill [0, 1, 9, 10, 59] 0) (.cond (.t 59)
   (.skip)
   (.exit 4))))
   (.seq (.kill [0, 1, 9, 10] 0) (.block 5 (.region [
    ⟨(some 60), (.mov (.t 10)), none⟩,
    ⟨(some 61), (.bin .sub .num (.t 60) (.c (.c (.int .i64 1)))), none⟩,
    ⟨(some 10), (.mov (.t 61)), none⟩])))))))
  (.seq (.kill [0, 1, 9, 10] 0) (.seq (.seq (.region [
   ⟨(some 62), (.mov (.t 9)), none⟩,
   ⟨(some 63), (.mov (.t 10)), none⟩,
   ⟨(some 64), (.bin .gtr .num (.t 62) (.t 63)), none⟩])
  (.seq (.kill [0, 1, 9, 10, 64] 0) (.cond (.t 64)
  (.exit 0)
  (.skip))))
  (.seq (.kill [0, 1, 9, 10] 0) (.seq (.draw 0 [
   ⟨0, none, ⟨(some 65), (.mov (.t 0)), none⟩, []⟩,
   ⟨1, none, ⟨(some 66), (.mov (.t 9)), none⟩, []⟩,
   ⟨2, none, ⟨(some 67), (.mov (.t 0)), none⟩, []⟩,
   ⟨3, none, ⟨(some 68), (.mov (.t 10)), none⟩, []⟩,
   ⟨4, none, ⟨(some 69), (.mov (.t 0)), none⟩, []⟩,
   ⟨5, none, ⟨(some 70), (.mov (.t 10)), none⟩, []⟩,
   ⟨6, none, ⟨(some 71), (.iaddr 1 (.t 69) (.t 70)), none⟩, []⟩,
   ⟨7, none, ⟨(some 72), (.load none (.t 71)), none⟩, []⟩,
   ⟨8, none, ⟨(some 73), (.mov (.t 0)), none⟩, []⟩,
   ⟨9, none, ⟨(some 74), (.mov (.t 9)), none⟩, []⟩,
   ⟨10, none, ⟨(some 75), (.iaddr 1 (.t 73) (.t 74)), none⟩, []⟩,
   ⟨11, none, ⟨(some 76), (.load none (.t 75)), none⟩, []⟩,
   ⟨12, none, ⟨(some 77), (.iaddr 1 (.t 65) (.t 66)), none⟩, []⟩,
   ⟨13, none, ⟨none, (.store 1 (.t 77) (.t 72)), none⟩, []⟩,
   ⟨14, none, ⟨(some 78), (.iaddr 1 (.t 67) (.t 68)), none⟩, []⟩,
   ⟨15, none, ⟨none, (.store 1 (.t 78) (.t 76)), none⟩, []⟩])
  (.seq (.kill [0, 1, 9, 10] 0) (.seq (.region [
   ⟨(some 79), (.mov (.t 9)), none⟩,
   ⟨(some 80), (.bin .add .num (.t 79) (.c (.c (.int .i64 1)))), none⟩,
   ⟨(some 9), (.mov (.t 80)), none⟩])
  (.seq (.kill [0, 1, 9, 10] 0) (.region [
   ⟨(some 81), (.mov (.t 10)), none⟩,
   ⟨(some 82), (.bin .sub .num (.t 81) (.c (.c (.int .i64 1)))), none⟩,
   ⟨(some 10), (.mov (.t 82)), none⟩])))))))))))))))
 (.seq (.kill [9] 0) (.seq (.region [
  ⟨(some 83), (.mov (.t 9)), none⟩,
  ⟨(some 8), (.mov (.t 83)), none⟩])
 (.ret)))))))))⟩
/-- slices.partitionOrdered[int] -/
def n95 : NF := ⟨168, [8, 9],
 .seq (.region [
  ⟨(some 8), (.mov (.c (.c (.int .i64 0)))), none⟩,
  ⟨(some 9), (.mov (.c (.c (.bool false)))), none⟩])
 (.seq (.kill [0, 1, 2, 3] 0) (.seq (.draw 0 [
  ⟨0, none, ⟨(some 12), (.mov (.t 0)), none⟩, []⟩,
  ⟨1, none, ⟨(some 13), (.mov (.t 1)), none⟩, []⟩,
  ⟨2, none, ⟨(some 14), (.mov (.t 0)), none⟩, []⟩,
  ⟨3, none, ⟨(some 15), (.mov (.t 3)), none⟩, []⟩,
  ⟨4, none, ⟨(some 16), (.mov (.t 0)), none⟩, []⟩,
  ⟨5, none, ⟨(some 17), (.mov (.t 3)), none⟩, []⟩,
  ⟨6, none, ⟨(some 18), (.iaddr 1 (.t 16) (.t 17)), none⟩, []⟩,
  ⟨7, none, ⟨(some 19), (.load none (.t 18)), none⟩, []⟩,
  ⟨8, none, ⟨(some 20), (.mov (.t 0)), none⟩, []⟩,
  ⟨9, none, ⟨(some 21), (.mov (.t 1)), none⟩, []⟩,
  ⟨10, none, ⟨(some 22), (.iaddr 1 (.t 20) (.t 21)), none⟩, []⟩,
  ⟨11, none, ⟨(some 23), (.load none (.t 22)), none⟩, []⟩,
  ⟨12, none, ⟨(some 24), (.iaddr 1 (.t 12) (.t 13)), none⟩, []⟩,
  ⟨13, none, ⟨none, (.store 1 (.t 24) (.t 19)), none⟩, []⟩,
  ⟨14, none, ⟨(some 25), (.iaddr 1 (.t 14) (.t 15)), none⟩, []⟩,
  ⟨15, none, ⟨none, (.store 1 (.t 25) (.t 23)), none⟩, []⟩])
 (.seq (.kill [0, 1, 2] 0) (.seq (.region [
  ⟨(some 26), (.mov (.t 1)), none⟩,
  ⟨(some 27), (.bin .add .num (.t 26) (.c (.c (.int .i64 1)))), none⟩,
  ⟨(some 28), (.mov (.t 2)), none⟩,
  ⟨(some 29), (.bin .sub .num (.t 28) (.c (.c (.int .i64 1)))), none⟩,
  ⟨(some 10), (.mov (.t 27)), none⟩,
  ⟨(some 11), (.mov (.t 29)), none⟩])
 (.seq (.kill [0, 1, 10, 11] 0) (.seq (.block 0 (.loop (.seq (.kill [0, 1, 10, 11] 0) (.seq (.seq (.draw 0 [
   ⟨0, none, ⟨(some 30), (.mov (.t 10)), none⟩, []⟩,
   ⟨1, none, ⟨(some 31), (.mov (.t 11)), none⟩, []⟩,
   ⟨2, none, ⟨(some 32), (.bin .leq .num (.t 30) (.t 31)), none⟩, []⟩,
   ⟨3, none, ⟨(some 33), (.mov (.t 32)), none⟩, []⟩,
   ⟨4, none, ⟨(some 34), (.mov (.t 0)), (some (33, true))⟩, []⟩,
   ⟨5, none, ⟨(some 35), (.mov (.t 10)), (some (33, true))⟩, []⟩,
   ⟨6, none, ⟨(some 36), (.iaddr 1 (.t 34) (.t 35)), (some (33, true))⟩, []⟩,
   ⟨7, none, ⟨(some 37), (.load none (.t 36)), (some (33, true))⟩, []⟩,
   ⟨8, none, ⟨(some 38), (.mov (.t 0)), (some (33, true))⟩, []⟩,
   ⟨9, none, ⟨(some 39), (.mov (.t 1)), (some (33, true))⟩, []⟩,
   ⟨10, none, ⟨(some 40), (.iaddr 1 (.t 38) (.t 39)), (some (33, true))⟩, []⟩,
   ⟨11, none, ⟨(some 41), (.load none (.t 40)), (some (33, true))⟩, []⟩,
   ⟨12, none, ⟨(some 42), (.call 93 [(.t 37), (.t 41)]), (some (33, true))⟩, []⟩,
   ⟨13, none, ⟨(some 43), (.pick (.t 33) (.t 42) (.c (.c (.bool false)))), none⟩, []⟩])
  (.seq (.kill [0, 1, 10, 11, 43] 0) (.cond (.t 43)
  (.skip)
  (.exit 0))))
  (.seq (.kill [0, 1, 10, 11] 0) (.block 1 (.region [
   ⟨(some 44), (.mov (.t 10)), none⟩,
   ⟨(some 45), (.bin .add .num (.t 44) (.c (.c (.int .i64 1)))), none⟩,
   ⟨(some 10), (.mov (.t 45)), none⟩])))))))
 (.seq (.kill [0, 1, 10, 11] 0) (.seq (.block 2 (.loop (.seq (.kill [0, 1, 10, 11] 0) (.seq (.seq (.draw 0 [
   ⟨0, none, ⟨(some 46), (.mov (.t 10)), none⟩, []⟩,
   ⟨1, none, ⟨(some 47), (.mov (.t 11)), none⟩, []⟩,
   ⟨2, none, ⟨(some 48), (.bin .leq .num (.t 46) (.t 47)), none⟩, []⟩,
   ⟨3, none, ⟨(some 49), (.mov (.t 48)), none⟩, []⟩,
   ⟨4, none, ⟨(some 50), (.mov (.t 0)), (some (49, true))⟩, []⟩,
   ⟨5, none, ⟨(some 51), (.mov (.t 11)), (some (49, true))⟩, []⟩,
   ⟨6, none, ⟨(some 52), (.iaddr 1 (.t 50) (.t 51)), (some (49, true))⟩, []⟩,
   ⟨7, none, ⟨(some 53), (.load none (.t 52)), (some (49, true))⟩, []⟩,
   ⟨8, none, ⟨(some 54), (.mov (.t 0)), (some (49, true))⟩, []⟩,
   ⟨9, none, ⟨(some 55), (.mov (.t 1)), (some (49, true))⟩, []⟩,
   ⟨10, none, ⟨(some 56), (.iaddr 1 (.t 54) (.t 55)), (some (49, true))⟩, []⟩,
   ⟨11, none, ⟨(some 57), (.load none (.t 56)), (some (49, true))⟩, []⟩,
   ⟨12, none, ⟨(some 58), (.call 93 [(.t 53), (.t 57)]), (some (49, true))⟩, []⟩,
   ⟨13, none, ⟨(some 59), (.un .not (.t 58)), (some (49, true))⟩, []⟩,
   ⟨14, none, ⟨(some 60), (.pick (.t 49) (.t 59) (.c (.c (.bool false)))), none⟩, []⟩])
  (.seq (.kill [0, 1, 10, 11, 60] 0) (.cond (.t 60)
  (.skip)
  (.exit 2))))
  (.seq (.kill [0, 1, 10, 11] 0) (.block 3 (.region [
   ⟨(some 61), (.mov (.t 11)), none⟩,
   ⟨(some 62), (.bin .sub .num (.t 61) (.c (.c (.int .i64 1)))), none⟩,
   ⟨(some 11), (.mov (.t 62)), none⟩])))))))
 (.seq (.kill [0, 1, 10, 11] 0) (.seq (.seq (.region [
  ⟨(some 63), (.mov (.t 10)), none⟩,
  ⟨(some 64), (.mov (.t 11)), none⟩,
  ⟨(some 65), (.bin .gtr .num (.t 63) (.t 64)), none⟩])
 (.seq (.kill [0, 1, 10, 11, 65] 0) (.cond (.t 65)
 (.seq (.draw 0 [
   ⟨0, none, ⟨(some 66), (.mov (.t 0)), none⟩, []⟩,
   ⟨1, none, ⟨(some 67), (.mov (.t 11)), none⟩, []⟩,
   ⟨2, none, ⟨(some 68), (.mov (.t 0)), none⟩, []⟩,
   ⟨3, none, ⟨(some 69), (.mov (.t 1)), none⟩, []⟩,
   ⟨4, none, ⟨(some 70), (.mov (.t 0)), none⟩, []⟩,
   ⟨5, none, ⟨(some 71), (.mov (.t 1)), none⟩, []⟩,
   ⟨6, none, ⟨(some 72), (.iaddr 1 (.t 70) (.t 71)), none⟩, []⟩,
   ⟨7, none, ⟨(some 73), (.load none (.t 72)), none⟩, []⟩,
   ⟨8, none, ⟨(some 74), (.mov (.t 0)), none⟩, []⟩,
   ⟨9, none, ⟨(some 75), (.mov (.t 11)), none⟩, []⟩,
   ⟨10, none, ⟨(some 76), (.iaddr 1 (.t 74) (.t 75)), none⟩, []⟩,
   ⟨11, none, ⟨(some 77), (.load none (.t 76)), none⟩, []⟩,
   ⟨12, none, ⟨(some 78), (.iaddr 1 (.t 66) (.t 67)), none⟩, []⟩,
   ⟨13, none, ⟨none, (.store 1 (.t 78) (.t 73)), none⟩, []⟩,
   ⟨14, none, ⟨(some 79), (.iaddr 1 (.t 68) (.t 69)), none⟩, []⟩,
   ⟨15, none, ⟨none, (.store 1 (.t 79) (.t 77)), none⟩, []⟩])
  (.seq (.kill [11] 0) (.seq (.region [
   ⟨(some 80), (.mov (.t 11)), none⟩,
   ⟨(some 8), (.mov (.t 80)), none⟩,
   ⟨(some 9), (.mov (.c (.c (.bool true)))), none⟩])
  (.ret))))
 (.skip))))
 (.seq (.kill [0, 1, 10, 11] 0) (.seq (.draw 0 [
  ⟨0, none, ⟨(some 81), (.mov (.t 0)), none⟩, []⟩,
  ⟨1, none, ⟨(some 82), (.mov (.t 10)), none⟩, []⟩,
  ⟨2, none, ⟨(some 83), (.mov (.t 0)), none⟩, []⟩,
  ⟨3, none, ⟨(some 84), (.mov (.t 11)), none⟩, []⟩,
  ⟨4, none, ⟨(some 85), (.mov (.t 0)), none⟩, []⟩,
  ⟨5, none, ⟨(some 86), (.mov (.t 11)), none⟩, []⟩,
  ⟨6, none, ⟨(some 87), (.iaddr 1 (.t 85) (.t 86)), none⟩, []⟩,
  ⟨7, none, ⟨(some 88), (.load none (.t 87)), none⟩, []⟩,
  ⟨8, none, ⟨(some 89), (.mov (.t 0)), none⟩, []⟩,
  ⟨9, none, ⟨(some 90), (.mov (.t 10)), none⟩, []⟩,
  ⟨10, none, ⟨(some 91), (.iaddr 1 (.t 89) (.t 90)), none⟩, []⟩,
  ⟨11, none, ⟨(some 92), (.load none (.t 91)), none⟩, []⟩,
  ⟨12, none, ⟨(some 93), (.iaddr 1 (.t 81) (.t 82)), none⟩, []⟩,
  ⟨13, none, ⟨none, (.store 1 (.t 93) (.t 88)), none⟩, []⟩,
  ⟨14, none, ⟨(some 94), (.iaddr 1 (.t 83) (.t 84)), none⟩, []⟩,
  ⟨15, none, ⟨none, (.store 1 (.t 94) (.t 92)), none⟩, []⟩])
 (.seq (.kill [0, 1, 10, 11] 0) (.seq (.region [
  ⟨(some 95), (.mov (.t 10)), none⟩,
  ⟨(some 96), (.bin .add .num (.t 95) (.c (.c (.int .i64 1)))), none⟩,
  ⟨(some 10), (.mov (.t 96)), none⟩])
 (.seq (.kill [0, 1, 10, 11] 0) (.seq (.region [
  ⟨(some 97), (.mov (.t 11)), none⟩,
  ⟨(some 98), (.bin .sub .num (.t 97) (.c (.c (.int .i64 1)))), none⟩,
  ⟨(some 11), (.mov (.t 98)), none⟩])
 (.seq (.kill [0, 1, 10, 11] 0) (.seq (.block 4 (.loop (.seq (.kill [0, 1, 10, 11] 0) (.block 5 (.seq (.block 6 (.loop (.seq (.kill [0, 1, 10, 11] 0) (.seq (.seq (.draw 0 [
    ⟨0, none, ⟨(some 99), (.mov (.t 10)), none⟩, []⟩,
    ⟨1, none, ⟨(some 100), (.mov (.t 11)), none⟩, []⟩,
    ⟨2, none, ⟨(some 101), (.bin .leq .num (.t 99) (.t 100)), none⟩, []⟩,
    ⟨3, none, ⟨(some 102), (.mov (.t 101)), none⟩, []⟩,
    ⟨4, none, ⟨(some 103), (.mov (.t 0)), (some (102, true))⟩, []⟩,
    ⟨5, none, ⟨(some 104), (.mov (.t 10)), (some (102, true))⟩, []⟩,
    ⟨6, none, ⟨(some 105), (.iaddr 1 (.t 103) (.t 104)), (some (102, true))⟩, []⟩,
    ⟨7, none, ⟨(some 106), (.load none (.t 105)), (some (102, true))⟩, []⟩,
    ⟨8, none, ⟨(some 107), (.mov (.t 0)), (some (102, true))⟩, []⟩,
    ⟨9, none, ⟨(some 108), (.mov (.t 1)), (some (102, true))⟩, []⟩,
    ⟨10, none, ⟨(some 109), (.iaddr 1 (.t 107) (.t 108)), (some (102, true))⟩, []⟩,
    ⟨11, none, ⟨(some 110), (.load none (.t 109)), (some (102, true))⟩, []⟩,
    ⟨12, none, ⟨(some 111), (.call 93 [(.t 106), (.t 110)]), (some (102, true))⟩, []⟩,
    ⟨13, none, ⟨(some 112), (.pick (.t 102) (.t 111) (.c (.c (.bool false)))), none⟩, []⟩])
   (.seq (.kill [0, 1, 10, 11, 112] 0) (.cond (.t 112)
   (.skip)
   (.exit 6))))
   (.seq (.kill [0, 1, 10, 11] 0) (.block 7 (.region [
    ⟨(some 113), (.mov (.t 10)), none⟩,
    ⟨(some 114), (.bin .add .num (.t 113) (.c (.c (.int .i64 1)))), none⟩,
    ⟨(some 10), (.mov (.t 114)), none⟩])))))))
  (.seq (.kill [0, 1, 10, 11] 0) (.seq (.block 8 (.loop (.seq (.kill [0, 1, 10, 11] 0) (.seq (.seq (.draw 0 [
    ⟨0, none, ⟨(some 115), (.mov (.t 10)), none⟩, []⟩,
    ⟨1, none, ⟨(some 116), (.mov (.t 11)), none⟩, []⟩,
    ⟨2, none, ⟨(some 117), (.bin .leq .num (.t 115) (.t 116)), none⟩, []⟩,
    ⟨3, none, ⟨(some 118), (.mov (.t 117)), none⟩, []⟩,
    ⟨4, none, ⟨(some 119), (.mov (.t 0)), (some (118, true))⟩, []⟩,
    ⟨5, none, ⟨(some 120), (.mov (.t 11)), (some (118, true))⟩, []⟩,
    ⟨6, none, ⟨(some 121), (.iaddr 1 (.t 119) (.t 120)), (some (118, true))⟩, []⟩,
    ⟨7, none, ⟨(some 122), (.load none (.t 121)), (some (118, true))⟩, []⟩,
    ⟨8, none, ⟨(some 123), (.mov (.t 0)), (some (118, true))⟩, []⟩,
    ⟨9, none, ⟨(some 124), (.mov (.t 1)), (some (118, true))⟩, []⟩,
    ⟨10, none, ⟨(some 125), (.iaddr 1 (.t 123) (.t 124)), (some (118, true))⟩, []⟩,
    ⟨11, none, ⟨(some 126), (.load none (.t 125)), (some (118, true))⟩, []⟩,
    ⟨12, none, ⟨(some 127), (.call 93 [(.t 122), (.t 126)]), (some (118, true))⟩, []⟩,
    ⟨13, none, ⟨(some 128), (.un .not (.t 127)), (some (118, true))⟩, []⟩,
    ⟨14, none, ⟨(some 129), (.pick (.t 118) (.t 128) (.c (.c (.bool false)))), none⟩, []⟩])
   (.seq (.kill [0, 1, 10, 11, 129] 0) (.cond (.t 129)
   (.skip)
   (.exit 8))))
   (.seq (.kill [0, 1, 10, 11] 0) (.block 9 (.region [
    ⟨(some 130), (.mov (.t 11)), none⟩,
    ⟨(some 131), (.bin .sub .num (.t 130) (.c (.c (.int .i64 1)))), none⟩,
    ⟨(some 11), (.mov (.t 131)), none⟩])))))))
  (.seq (.kill [0, 1, 10, 11] 0) (.seq (.seq (.region [
   ⟨(some 132), (.mov (.t 10)), none⟩,
   ⟨(some 133), (.mov (.t 11)), none⟩,
   ⟨(some 134), (.bin .gtr .num (.t 132) (.t 133)), none⟩])
  (.seq (.kill [0, 1, 10, 11, 134] 0) (.cond (.t 134)
  (.exit 4)
  (.skip))))
  (.seq (.kill [0, 1, 10, 11] 0) (.seq (.draw 0 [
   ⟨0, none, ⟨(some 135), (.mov (.t 0)), none⟩, []⟩,
   ⟨1, none, ⟨(some 136), (.mov (.t 10)), none⟩, []⟩,
   ⟨2, none, ⟨(some 137), (.mov (.t 0)), none⟩, []⟩,
   ⟨3, none, ⟨(some 138), (.mov (.t 11)), none⟩, []⟩,
   ⟨4, none, ⟨(some 139), (.mov (.t 0)), none⟩, []⟩,
   ⟨5, none, ⟨(some 140), (.mov (.t 11)), none⟩, []⟩,
   ⟨6, none, ⟨(some 141), (.iaddr 1 (.t 139) (.t 140)), none⟩, []⟩,
   ⟨7, none, ⟨(some 142), (.load none (.t 141)), none⟩, []⟩,
   ⟨8, none, ⟨(some 143), (.mov (.t 0)), none⟩, []⟩,
   ⟨9, none, ⟨(some 144), (.mov (.t 10)), none⟩, []⟩,
   ⟨10, none, ⟨(some 145), (.iaddr 1 (.t 143) (.t 144)), none⟩, []⟩,
   ⟨11, none, ⟨(some 146), (.load none (.t 145)), none⟩, []⟩,
   ⟨12, none, ⟨(some 147), (.iaddr 1 (.t 135) (.t 136)), none⟩, []⟩,
   ⟨13, none, ⟨none, (.store 1 (.t 147) (.t 142)), none⟩, []⟩,
   ⟨14, none, ⟨(some 148), (.iaddr 1 (.t 137) (.t 138)), none⟩, []⟩,
   ⟨15, none, ⟨none, (.store 1 (.t 148) (.t 146)), none⟩, []⟩])
  (.seq (.kill [0, 1, 10, 11] 0) (.seq (.region [
   ⟨(some 149), (.mov (.t 10)), none⟩,
   ⟨(some 150), (.bin .add .num (.t 149) (.c (.c (.int .i64 1)))), none⟩,
   ⟨(some 10), (.mov (.t 150)), none⟩])
  (.seq (.kill [0, 1, 10, 11] 0) (.region [
   ⟨(some 151), (.mov (.t 11)), none⟩,
   ⟨(some 152), (.bin .sub .num (.t 151) (.c (.c (.int .i64 1)))), none⟩,
   ⟨(some 11), (.mov (.t 152)), none⟩])))))))))))))))
 (.seq (.kill [0, 1, 11] 0) (.seq (.draw 0 [
  ⟨0, none, ⟨(some 153), (.mov (.t 0)), none⟩, []⟩,
  ⟨1, none, ⟨(some 154), (.mov (.t 11)), none⟩, []⟩,
  ⟨2, none, ⟨(some 155), (.mov (.t 0)), none⟩, []⟩,
  ⟨3, none, ⟨(some 156), (.mov (.t 1)), none⟩, []⟩,
  ⟨4, none, ⟨(some 157), (.mov (.t 0)), none⟩, []⟩,
  ⟨5, none, ⟨(some 158), (.mov (.t 1)), none⟩, []⟩,
  ⟨6, none, ⟨(some 159), (.iaddr 1 (.t 157) (.t 158)), none⟩, []⟩,
  ⟨7, none, ⟨(some 160), (.load none (.t 159)), none⟩, []⟩,
  ⟨8, none, ⟨(some 161), (.mov (.t 0)), none⟩, []⟩,
  ⟨9, none, ⟨(some 162), (.mov (.t 11)), none⟩, []⟩,
  ⟨10, none, ⟨(some 163), (.iaddr 1 (.t 161) (.t 162)), none⟩, []⟩,
  ⟨11, none, ⟨(some 164), (.load none (.t 163)), none⟩, []⟩,
  ⟨12, none, ⟨(some 165), (.iaddr 1 (.t 153) (.t 154)), none⟩, []⟩,
  ⟨13, none, ⟨none, (.store 1 (.t 165) (.t 160)), none⟩, []⟩,
  ⟨14, none, ⟨(some 166), (.iaddr 1 (.t 155) (.t 156)), none⟩, []⟩,
  ⟨15, none, ⟨none, (.store 1 (.t 166) (.t 164)), none⟩, []⟩])
 (.seq (.kill [11] 0) (.seq (.region [
  ⟨(some 167), (.mov (.t 11)), none⟩,
  ⟨(some 8), (.mov (.t 167)), none⟩,
  ⟨(some 9), (.mov (.c (.c (.bool false)))), none⟩])
 (.ret)))))))))))))))))))))))⟩
/-- math/bits.Len32 -/
def n96 : NF := ⟨19, [2],
 .seq (.region [
  ⟨(some 2), (.mov (.c (.c (.int .i64 0)))), none⟩])
 (.seq (.kill [0, 2] 0) (.seq (.seq (.region [
  ⟨(some 3), (.mov (.t 0)), none⟩,
  ⟨(some 4), (.bin .geq .num (.t 3) (.c (.c (.int .u32 65536)))), none⟩])
 (.seq (.kill [0, 2, 4] 0) (.cond (.t 4)
 (.seq (.region [
   ⟨(some 5), (.mov (.t 0)), none⟩,
   ⟨(some 6), (.bin .shr .num (.t 5) (.c (.c (.int .u64 16)))), none⟩,
   ⟨(some 0), (.mov (.t 6)), none⟩])
  (.seq (.kill [0] 0) (.region [
   ⟨(some 2), (.mov (.c (.c (.int .i64 16)))), none⟩])))
 (.skip))))
 (.seq (.kill [0, 2] 0) (.seq (.seq (.region [
  ⟨(some 7), (.mov (.t 0)), none⟩,
  ⟨(some 8), (.bin .geq .num (.t 7) (.c (.c (.int .u32 256)))), none⟩])
 (.seq (.kill [0, 2, 8] 0) (.cond (.t 8)
 (.seq (.region [
   ⟨(some 9), (.mov (.t 0)), none⟩,
   ⟨(some 10), (.bin .shr .num (.t 9) (.c (.c (.int .u64 8)))), none⟩,
   ⟨(some 0), (.mov (.t 10)), none⟩])
  (.seq (.kill [0, 2] 0) (.region [
   ⟨(some 11), (.mov (.t 2)), none⟩,
   ⟨(some 12), (.bin .add .num (.t 11) (.c (.c (.int .i64 8)))), none⟩,
   ⟨(some 2), (.mov (.t 12)), none⟩])))
 (.skip))))
 (.seq (.kill [0, 2] 0) (.seq (.region [
  ⟨(some 13), (.mov (.t 2)), none⟩,
  ⟨(some 14), (.mov (.t 0)), none⟩,
  ⟨(some 15), (.conv (.toInt .u8) (.t 14)), none⟩,
  ⟨(some 16), (.indexS (.c (.c (.str (bs [0, 1, 2, 2, 3, 3, 3, 3, 4, 4, 4, 4, 4, 4, 4, 4, 5, 5, 5, 5, 5, 5, 5, 5, 5, 5, 5, 5, 5, 5, 5, 5, 6, 6, 6, 6, 6, 6, 6, 6, 6, 6, 6, 6, 6, 6, 6, 6, 6, 6, 6, 6, 6, 6, 6, 6, 6, 6, 6, 6, 6, 6, 6, 6, 7, 7, 7, 7, 7, 7, 7, 7, 7, 7, 7, 7, 7, 7, 7, 7, 7, 7, 7, 7, 7, 7, 7, 7, 7, 7, 7, 7, 7, 7, 7, 7, 7, 7, 7, 7, 7, 7, 7, 7, 7, 7, 7, 7, 7, 7, 7, 7, 7, 7, 7, 7, 7, 7, 7, 7, 7, 7, 7, 7, 7, 7, 7, 7, 8, 8, 8, 8, 8, 8, 8, 8, 8, 8, 8, 8, 8, 8, 8, 8, 8, 8, 8, 8, 8, 8, 8, 8, 8, 8, 8, 8, 8, 8, 8, 8, 8, 8, 8, 8, 8, 8, 8, 8, 8, 8, 8, 8, 8, 8, 8, 8, 8, 8, 8, 8, 8, 8, 8, 8, 8, 8, 8, 8, 8, 8, 8, 8, 8, 8, 8, 8, 8, 8, 8, 8, 8, 8, 8, 8, 8, 8, 8, 8, 8, 8, 8, 8, 8, 8, 8, 8, 8, 8, 8, 8, 8, 8, 8, 8, 8, 8, 8, 8, 8, 8, 8, 8, 8, 8, 8, 8, 8, 8, 8, 8, 8, 8, 8, 8, 8, 8, 8, 8, 8, 8, 8, 8, 8, 8, 8, 8])))) (.t 15)), none⟩,
  ⟨(some 17), (.conv (.toInt .i64) (.t 16)), none⟩,
  ⟨(some 18), (.bin .add .num (.t 13) (.t 17)), none⟩,
  ⟨(some 2), (.mov (.t 18)), none⟩])
 (.ret)))))))⟩
/-- math/bits.Len64 -/
def n97 : NF := ⟨25, [2],
 .seq (.region [
  ⟨(some 2), (.mov (.c (.c (.int .i64 0)))), none⟩])
 (.seq (.kill [0, 2] 0) (.seq (.seq (.region [
  ⟨(some 3), (.mov (.t 0)), none⟩,
  ⟨(some 4), (.bin .geq .num (.t 3) (.c (.c (.int .u64 4294967296)))), none⟩])
 (.seq (.kill [0, 2, 4] 0) (.cond (.t 4)
 (.seq (.region [
   ⟨(some 5), (.mov (.t 0)), none⟩,
   ⟨(some 6), (.bin .shr .num (.t 5) (.c (.c (.int .u64 32)))), none⟩,
   ⟨(some 0), (.mov (.t 6)), none⟩])
  (.seq (.kill [0] 0) (.region [
   ⟨(some 2), (.mov (.c (.c (.int .i64 32)))), none⟩])))
 (.skip))))
 (.seq (.kill [0, 2] 0) (.seq (.seq (.region [
  ⟨(some 7), (.mov (.t 0)), none⟩,
  ⟨(some 8), (.bin .geq .num (.t 7) (.c (.c (.int .u64 65536)))), none⟩])
 (.seq (.kill [0, 2, 8] 0) (.cond (.t 8)
 (.seq (.region [
   ⟨(some 9), (.mov (.t 0)), none⟩,
   ⟨(some 10), (.bin .shr .num (.t 9) (.c (.c (.int .u64 16)))), none⟩,
   ⟨(some 0), (.mov (.t 10)), none⟩])
  (.seq (.kill [0, 2] 0) (.region [
   ⟨(some 11), (.mov (.t 2)), none⟩,
   ⟨(some 12), (.bin .add .num (.t 11) (.c (.c (.int .i64 16)))), none⟩,
   ⟨(some 2), (.mov (.t 12)), none⟩])))
 (.skip))))
 (.seq (.kill [0, 2] 0) (.seq (.seq (.region [
  ⟨(some 13), (.mov (.t 0)), none⟩,
  ⟨(some 14), (.bin .geq .num (.t 13) (.c (.c (.int .u64 256)))), none⟩])
 (.seq (.kill [0, 2, 14] 0) (.cond (.t 14)
 (.seq (.region [
   ⟨(some 15), (.mov (.t 0)), none⟩,
   ⟨(some 16), (.bin .shr .num (.t 15) (.c (.c (.int .u64 8)))), none⟩,
   ⟨(some 0), (.mov (.t 16)), none⟩])
  (.seq (.kill [0, 2] 0) (.region [
   ⟨(some 17), (.mov (.t 2)), none⟩,
   ⟨(some 18), (.bin .add .num (.t 17) (.c (.c (.int .i64 8)))), none⟩,
   ⟨(some 2), (.mov (.t 18)), none⟩])))
 (.skip))))
 (.seq (.kill [0, 2] 0) (.seq (.region [
  ⟨(some 19), (.mov (.t 2)), none⟩,
  ⟨(some 20), (.mov (.t 0)), none⟩,
  ⟨(some 21), (.conv (.toInt .u8) (.t 20)), none⟩,
  ⟨(some 22), (.indexS (.c (.c (.str (bs [0, 1, 2, 2, 3, 3, 3, 3, 4, 4, 4, 4, 4, 4, 4, 4, 5, 5, 5, 5, 5, 5, 5, 5, 5, 5, 5, 5, 5, 5, 5, 5, 6, 6, 6, 6, 6, 6, 6, 6, 6, 6, 6, 6, 6, 6, 6, 6, 6, 6, 6, 6, 6, 6, 6, 6, 6, 6, 6, 6, 6, 6, 6, 6, 7, 7, 7, 7, 7, 7, 7, 7, 7, 7, 7, 7, 7, 7, 7, 7, 7, 7, 7, 7, 7, 7, 7, 7, 7, 7, 7, 7, 7, 7, 7, 7, 7, 7, 7, 7, 7, 7, 7, 7, 7, 7, 7, 7, 7, 7, 7, 7, 7, 7, 7, 7, 7, 7, 7, 7, 7, 7, 7, 7, 7, 7, 7, 7, 8, 8, 8, 8, 8, 8, 8, 8, 8, 8, 8, 8, 8, 8, 8, 8, 8, 8, 8, 8, 8, 8, 8, 8, 8, 8, 8, 8, 8, 8, 8, 8, 8, 8, 8, 8, 8, 8, 8, 8, 8, 8, 8, 8, 8, 8, 8, 8, 8, 8, 8, 8, 8, 8, 8, 8, 8, 8, 8, 8, 8, 8, 8, 8, 8, 8, 8, 8, 8, 8, 8, 8, 8, 8, 8, 8, 8, 8, 8, 8, 8, 8, 8, 8, 8, 8, 8, 8, 8, 8, 8, 8, 8, 8, 8, 8, 8, 8, 8, 8, 8, 8, 8, 8, 8, 8, 8, 8, 8, 8, 8, 8, 8, 8, 8, 8, 8, 8, 8, 8, 8, 8, 8, 8, 8, 8, 8, 8])))) (.t 21)), none⟩,
  ⟨(some 23), (.conv (.toInt .i64) (.t 22)), none⟩,
  ⟨(some 24), (.bin .add .num (.t 19) (.t 23)), none⟩,
  ⟨(some 2), (.mov (.t 24)), none⟩])
 (.ret)))))))))⟩
/-- slices.IndexFunc[[]campanile/parents.parent,campanile/parents.parent] -/
def n98 : NF := ⟨19, [4],
 .seq (.region [
  ⟨(some 4), (.mov (.c (.c (.int .i64 0)))), none⟩])
 (.seq (.kill [0, 1] 0) (.seq (.seq (.region [
  ⟨(some 6), (.mov (.t 0)), none⟩,
  ⟨(some 7), (.len .sl (.t 6)), none⟩,
  ⟨(some 8), (.mov (.c (.c (.int .i64 0)))), none⟩])
 (.seq (.kill [0, 1, 7, 8] 0) (.block 0 (.loop (.seq (.kill [0, 1, 7, 8] 0) (.seq (.region [
   ⟨(some 9), (.bin .lss .num (.t 8) (.t 7)), none⟩])
  (.seq (.kill [0, 1, 7, 8, 9] 0) (.seq (.cond (.t 9)
  (.skip)
  (.exit 0))
  (.seq (.kill [0, 1, 7, 8] 0) (.seq (.block 1 (.seq (.region [
   ⟨(some 10), (.mov (.t 8)), none⟩,
   ⟨(some 5), (.mov (.t 10)), none⟩])
  (.seq (.kill [0, 1, 5, 7, 8] 0) (.seq (.region [
   ⟨(some 11), (.mov (.t 1)), none⟩,
   ⟨(some 12), (.mov (.t 0)), none⟩,
   ⟨(some 13), (.mov (.t 5)), none⟩,
   ⟨(some 14), (.iaddr 3 (.t 12) (.t 13)), none⟩,
   ⟨(some 15), (.load (some 3) (.t 14)), none⟩,
   ⟨(some 16), (.dyn (.t 11) [(.t 15)]), none⟩])
  (.seq (.kill [0, 1, 5, 7, 8, 16] 0) (.cond (.t 16)
  (.seq (.region [
    ⟨(some 17), (.mov (.t 5)), none⟩,
    ⟨(some 4), (.mov (.t 17)), none⟩])
   (.ret))
  (.skip)))))))
  (.seq (.kill [0, 1, 7, 8] 0) (.region [
   ⟨(some 18), (.bin .add .num (.t 8) (.c (.c (.int .i64 1)))), none⟩,
   ⟨(some 8), (.mov (.t 18)), none⟩]))))))))))))
 (.seq (.kill [] 0) (.seq (.region [
  ⟨(some 4), (.mov (.c (.c (.int .i64 (-1))))), none⟩])
 (.ret)))))⟩
/-- slices.insertionSortCmpFunc[campanile/parents.parent] -/
def n99 : NF := ⟨53, [],
 .seq (.region [
  ⟨(some 10), (.mov (.t 1)), none⟩,
  ⟨(some 11), (.bin .add .num (.t 10) (.c (.c (.int .i64 1)))), none⟩,
  ⟨(some 8), (.mov (.t 11)), none⟩])
 (.seq (.kill [0, 1, 2, 3, 8] 0) (.block 0 (.loop (.seq (.kill [0, 1, 2, 3, 8] 0) (.seq (.seq (.region [
   ⟨(some 12), (.mov (.t 8)), none⟩,
   ⟨(some 13), (.mov (.t 2)), none⟩,
   ⟨(some 14), (.bin .lss .num (.t 12) (.t 13)), none⟩])
  (.seq (.kill [0, 1, 2, 3, 8, 14] 0) (.cond (.t 14)
  (.skip)
  (.exit 0))))
  (.seq (.kill [0, 1, 2, 3, 8] 0) (.seq (.block 1 (.seq (.region [
   ⟨(some 17), (.mov (.t 8)), none⟩,
   ⟨(some 9), (.mov (.t 17)), none⟩])
  (.seq (.kill [0, 1, 2, 3, 8, 9] 0) (.block 2 (.loop (.seq (.kill [0, 1, 2, 3, 8, 9] 0) (.seq (.seq (.draw 0 [
    ⟨0, none, ⟨(some 18), (.mov (.t 9)), none⟩, []⟩,
    ⟨1, none, ⟨(some 19), (.mov (.t 1)), none⟩, []⟩,
    ⟨2, none, ⟨(some 20), (.bin .gtr .num (.t 18) (.t 19)), none⟩, []⟩,
    ⟨3, none, ⟨(some 21), (.mov (.t 20)), none⟩, []⟩,
    ⟨4, none, ⟨(some 22), (.mov (.t 3)), (some (21, true))⟩, []⟩,
    ⟨5, none, ⟨(some 23), (.mov (.t 0)), (some (21, true))⟩, []⟩,
    ⟨6, none, ⟨(some 24), (.mov (.t 9)), (some (21, true))⟩, []⟩,
    ⟨7, none, ⟨(some 25), (.iaddr 3 (.t 23) (.t 24)), (some (21, true))⟩, []⟩,
    ⟨8, none, ⟨(some 26), (.load (some 3) (.t 25)), (some (21, true))⟩, []⟩,
    ⟨9, none, ⟨(some 27), (.mov (.t 0)), (some (21, true))⟩, []⟩,
    ⟨10, none, ⟨(some 28), (.mov (.t 9)), (some (21, true))⟩, []⟩,
    ⟨11, none, ⟨(some 29), (.bin .sub .num (.t 28) (.c (.c (.int .i64 1)))), (some (21, true))⟩, []⟩,
    ⟨12, none, ⟨(some 30), (.iaddr 3 (.t 27) (.t 29)), (some (21, true))⟩, []⟩,
    ⟨13, none, ⟨(some 31), (.load (some 3) (.t 30)), (some (21, true))⟩, []⟩,
    ⟨14, none, ⟨(some 32), (.dyn (.t 22) [(.t 26), (.t 31)]), (some (21, true))⟩, []⟩,
    ⟨15, none, ⟨(some 33), (.bin .lss .num (.t 32) (.c (.c (.int .i64 0)))), (some (21, true))⟩, []⟩,
    ⟨16, none, ⟨(some 34), (.pick (.t 21) (.t 33) (.c (.c (.bool false)))), none⟩, []⟩])
   (.seq (.kill [0, 1, 2, 3, 8, 9, 34] 0) (.cond (.t 34)
   (.skip)
   (.exit 2))))
   (.seq (.kill [0, 1, 2, 3, 8, 9] 0) (.seq (.block 3 (.draw 0 [
    ⟨0, none, ⟨(some 37), (.mov (.t 0)), none⟩, []⟩,
    ⟨1, none, ⟨(some 38), (.mov (.t 9)), none⟩, []⟩,
    ⟨2, none, ⟨(some 39), (.mov (.t 0)), none⟩, []⟩,
    ⟨3, none, ⟨(some 40), (.mov (.t 9)), none⟩, []⟩,
    ⟨4, none, ⟨(some 41), (.bin .sub .num (.t 40) (.c (.c (.int .i64 1)))), none⟩, []⟩,
    ⟨5, none, ⟨(some 42), (.mov (.t 0)), none⟩, []⟩,
    ⟨6, none, ⟨(some 43), (.mov (.t 9)), none⟩, []⟩,
    ⟨7, none, ⟨(some 44), (.bin .sub .num (.t 43) (.c (.c (.int .i64 1)))), none⟩, []⟩,
    ⟨8, none, ⟨(some 45), (.iaddr 3 (.t 42) (.t 44)), none⟩, []⟩,
    ⟨9, none, ⟨(some 46), (.load (some 3) (.t 45)), none⟩, []⟩,
    ⟨10, none, ⟨(some 47), (.mov (.t 0)), none⟩, []⟩,
    ⟨11, none, ⟨(some 48), (.mov (.t 9)), none⟩, []⟩,
    ⟨12, none, ⟨(some 49), (.iaddr 3 (.t 47) (.t 48)), none⟩, []⟩,
    ⟨13, none, ⟨(some 50), (.load (some 3) (.t 49)), none⟩, []⟩,
    ⟨14, none, ⟨(some 51), (.iaddr 3 (.t 37) (.t 38)), none⟩, []⟩,
    ⟨15, none, ⟨none, (.store 3 (.t 51) (.t 46)), none⟩, []⟩,
    ⟨16, none, ⟨(some 52), (.iaddr 3 (.t 39) (.t 41)), none⟩, []⟩,
    ⟨17, none, ⟨none, (.store 3 (.t 52) (.t 50)), none⟩, []⟩]))
   (.seq (.kill [0, 1, 2, 3, 8, 9] 0) (.region [
    ⟨(some 35), (.mov (.t 9)), none⟩,
    ⟨(some 36), (.bin .sub .num (.t 35) (.c (.c (.int .i64 1)))), none⟩,
    ⟨(some 9), (.mov (.t 36)), none⟩])))))))))))
  (.seq (.kill [0, 1, 2, 3, 8] 0) (.region [
   ⟨(some 15), (.mov (.t 8)), none⟩,
   ⟨(some 16), (.bin .add .num (.t 15) (.c (.c (.int .i64 1)))), none⟩,
   ⟨(some 8), (.mov (.t 16)), none⟩])))))))))⟩
/-- slices.heapSortCmpFunc[campanile/parents.parent] -/
def n100 : NF := ⟨60, [],
 .seq (.region [
  ⟨(some 13), (.mov (.t 1)), none⟩,
  ⟨(some 8), (.mov (.t 13)), none⟩])
 (.seq (.kill [0, 1, 2, 3, 8] 0) (.seq (.region [
  ⟨(some 9), (.mov (.c (.c (.int .i64 0)))), none⟩])
 (.seq (.kill [0, 1, 2, 3, 8, 9] 0) (.seq (.region [
  ⟨(some 14), (.mov (.t 2)), none⟩,
  ⟨(some 15), (.mov (.t 1)), none⟩,
  ⟨(some 16), (.bin .sub .num (.t 14) (.t 15)), none⟩,
  ⟨(some 10), (.mov (.t 16)), none⟩])
 (.seq (.kill [0, 3, 8, 9, 10] 0) (.seq (.seq (.region [
  ⟨(some 17), (.mov (.t 10)), none⟩,
  ⟨(some 18), (.bin .sub .num (.t 17) (.c (.c (.int .i64 1)))), none⟩,
  ⟨(some 19), (.bin .quo .num (.t 18) (.c (.c (.int .i64 2)))), none⟩,
  ⟨(some 11), (.mov (.t 19)), none⟩])
 (.seq (.kill [0, 3, 8, 9, 10, 11] 0) (.block 0 (.loop (.seq (.kill [0, 3, 8, 9, 10, 11] 0) (.seq (.seq (.region [
   ⟨(some 20), (.mov (.t 11)), none⟩,
   ⟨(some 21), (.bin .geq .num (.t 20) (.c (.c (.int .i64 0)))), none⟩])
  (.seq (.kill [0, 3, 8, 9, 10, 11, 21] 0) (.cond (.t 21)
  (.skip)
  (.exit 0))))
  (.seq (.kill [0, 3, 8, 9, 10, 11] 0) (.seq (.block 1 (.region [
   ⟨(some 24), (.mov (.t 0)), none⟩,
   ⟨(some 25), (.mov (.t 11)), none⟩,
   ⟨(some 26), (.mov (.t 10)), none⟩,
   ⟨(some 27), (.mov (.t 8)), none⟩,
   ⟨(some 28), (.mov (.t 3)), none⟩,
   ⟨(some 29), (.call 112 [(.t 24), (.t 25), (.t 26), (.t 27), (.t 28)]), none⟩]))
  (.seq (.kill [0, 3, 8, 9, 10, 11] 0) (.region [
   ⟨(some 22), (.mov (.t 11)), none⟩,
   ⟨(some 23), (.bin .sub .num (.t 22) (.c (.c (.int .i64 1)))), none⟩,
   ⟨(some 11), (.mov (.t 23)), none⟩]))))))))))
 (.seq (.kill [0, 3, 8, 9, 10] 0) (.seq (.region [
  ⟨(some 30), (.mov (.t 10)), none⟩,
  ⟨(some 31), (.bin .sub .num (.t 30) (.c (.c (.int .i64 1)))), none⟩,
  ⟨(some 12), (.mov (.t 31)), none⟩])
 (.seq (.kill [0, 3, 8, 9, 12] 0) (.block 2 (.loop (.seq (.kill [0, 3, 8, 9, 12] 0) (.seq (.seq (.region [
   ⟨(some 32), (.mov (.t 12)), none⟩,
   ⟨(some 33), (.bin .geq .num (.t 32) (.c (.c (.int .i64 0)))), none⟩])
  (.seq (.kill [0, 3, 8, 9, 12, 33] 0) (.cond (.t 33)
  (.skip)
  (.exit 2))))
  (.seq (.kill [0, 3, 8, 9, 12] 0) (.seq (.block 3 (.seq (.draw 0 [
   ⟨0, none, ⟨(some 36), (.mov (.t 0)), none⟩, []⟩,
   ⟨1, none, ⟨(some 37), (.mov (.t 8)), none⟩, []⟩,
   ⟨2, none, ⟨(some 38), (.mov (.t 0)), none⟩, []⟩,
   ⟨3, none, ⟨(some 39), (.mov (.t 8)), none⟩, []⟩,
   ⟨4, none, ⟨(some 40), (.mov (.t 12)), none⟩, []⟩,
   ⟨5, none, ⟨(some 41), (.bin .add .num (.t 39) (.t 40)), none⟩, []⟩,
   ⟨6, none, ⟨(some 42), (.mov (.t 0)), none⟩, []⟩,
   ⟨7, none, ⟨(some 43), (.mov (.t 8)), none⟩, []⟩,
   ⟨8, none, ⟨(some 44), (.mov (.t 12)), none⟩, []⟩,
   ⟨9, none, ⟨(some 45), (.bin .add .num (.t 43) (.t 44)), none⟩, []⟩,
   ⟨10, none, ⟨(some 46), (.iaddr 3 (.t 42) (.t 45)), none⟩, []⟩,
   ⟨11, none, ⟨(some 47), (.load (some 3) (.t 46)), none⟩, []⟩,
   ⟨12, none, ⟨(some 48), (.mov (.t 0)), none⟩, []⟩,
   ⟨13, none, ⟨(some 49), (.mov (.t 8)), none⟩, []⟩,
   ⟨14, none, ⟨(some 50), (.iaddr 3 (.t 48) (.t 49)), none⟩, []⟩,
   ⟨15, none, ⟨(some 51), (.load (some 3) (.t 50)), none⟩, []⟩,
   ⟨16, none, ⟨(some 52), (.iaddr 3 (.t 36) (.t 37)), none⟩, []⟩,
   ⟨17, none, ⟨none, (.store 3 (.t 52) (.t 47)), none⟩, []⟩,
   ⟨18, none, ⟨(some 53), (.iaddr 3 (.t 38) (.t 41)), none⟩, []⟩,
   ⟨19, none, ⟨none, (.store 3 (.t 53) (.t 51)), none⟩, []⟩])
  (.seq (.kill [0, 3, 8, 9, 12] 0) (.region [
   ⟨(some 54), (.mov (.t 0)), none⟩,
   ⟨(some 55), (.mov (.t 9)), none⟩,
   ⟨(some 56), (.mov (.t 12)), none⟩,
   ⟨(some 57), (.mov (.t 8)), none⟩,
   ⟨(some 58), (.mov (.t 3)), none⟩,
   ⟨(some 59), (.call 112 [(.t 54), (.t 55), (.t 56), (.t 57), (.t 58)]), none⟩]))))
  (.seq (.kill [0, 3, 8, 9, 12] 0) (.region [
   ⟨(some 34), (.mov (.t 12)), none⟩,
   ⟨(some 35), (.bin .sub .num (.t 34) (.c (.c (.int .i64 1)))), none⟩,
   ⟨(some 12), (.mov (.t 35)), none⟩])))))))))))))))))⟩
/-- slices.breakPatternsCmpFunc[campanile/parents.parent] -/
def n101 : NF := ⟨67, [],
 .seq (.region [
  ⟨(some 13), (.mov (.t 2)), none⟩,
  ⟨(some 14), (.mov (.t 1)), none⟩,
  ⟨(some 15), (.bin .sub .num (.t 13) (.t 14)), none⟩,
  ⟨(some 8), (.mov (.t 15)), none⟩])
 (.seq (.kill [0, 1, 8] 0) (.seq (.region [
  ⟨(some 16), (.mov (.t 8)), none⟩,
  ⟨(some 17), (.bin .geq .num (.t 16) (.c (.c (.int .i64 8)))), none⟩])
 (.seq (.kill [0, 1, 8, 17] 0) (.cond (.t 17)
 (.seq (.region [
   ⟨(some 18), (.mov (.t 8)), none⟩,
   ⟨(some 19), (.conv (.toInt .u64) (.t 18)), none⟩,
   ⟨(some 9), (.box false 1 (.c (.c (.int .u64 0)))), none⟩,
   ⟨none, (.store 1 (.t 9) (.t 19)), none⟩])
  (.seq (.kill [0, 1, 8, 9] 0) (.seq (.region [
   ⟨(some 20), (.mov (.t 8)), none⟩,
   ⟨(some 21), (.call 108 [(.t 20)]), none⟩,
   ⟨(some 10), (.mov (.t 21)), none⟩])
  (.seq (.kill [0, 1, 8, 9, 10] 0) (.seq (.region [
   ⟨(some 22), (.mov (.t 1)), none⟩,
   ⟨(some 23), (.mov (.t 8)), none⟩,
   ⟨(some 24), (.bin .quo .num (.t 23) (.c (.c (.int .i64 4)))), none⟩,
   ⟨(some 25), (.bin .mul .num (.t 24) (.c (.c (.int .i64 2)))), none⟩,
   ⟨(some 26), (.bin .add .num (.t 22) (.t 25)), none⟩,
   ⟨(some 27), (.bin .sub .num (.t 26) (.c (.c (.int .i64 1)))), none⟩,
   ⟨(some 11), (.mov (.t 27)), none⟩])
  (.seq (.kill [0, 1, 8, 9, 10, 11] 0) (.block 0 (.loop (.seq (.kill [0, 1, 8, 9, 10, 11] 0) (.seq (.seq (.region [
    ⟨(some 28), (.mov (.t 11)), none⟩,
    ⟨(some 29), (.mov (.t 1)), none⟩,
    ⟨(some 30), (.mov (.t 8)), none⟩,
    ⟨(some 31), (.bin .quo .num (.t 30) (.c (.c (.int .i64 4)))), none⟩,
    ⟨(some 32), (.bin .mul .num (.t 31) (.c (.c (.int .i64 2)))), none⟩,
    ⟨(some 33), (.bin .add .num (.t 29) (.t 32)), none⟩,
    ⟨(some 34), (.bin .add .num (.t 33) (.c (.c (.int .i64 1)))), none⟩,
    ⟨(some 35), (.bin .leq .num (.t 28) (.t 34)), none⟩])
   (.seq (.kill [0, 1, 8, 9, 10, 11, 35] 0) (.cond (.t 35)
   (.skip)
   (.exit 0))))
   (.seq (.kill [0, 1, 8, 9, 10, 11] 0) (.seq (.block 1 (.seq (.region [
    ⟨(some 38), (.call 109 [(.t 9)]), none⟩,
    ⟨(some 39), (.mov (.t 10)), none⟩,
    ⟨(some 40), (.bin .sub .num (.t 39) (.c (.c (.int .u64 1)))), none⟩,
    ⟨(some 41), (.bin .and .num (.t 38) (.t 40)), none⟩,
    ⟨(some 42), (.conv (.toInt .i64) (.t 41)), none⟩,
    ⟨(some 12), (.mov (.t 42)), none⟩])
   (.seq (.kill [0, 1, 8, 9, 10, 11, 12] 0) (.seq (.seq (.region [
    ⟨(some 43), (.mov (.t 12)), none⟩,
    ⟨(some 44), (.mov (.t 8)), none⟩,
    ⟨(some 45), (.bin .geq .num (.t 43) (.t 44)), none⟩])
   (.seq (.kill [0, 1, 8, 9, 10, 11, 12, 45] 0) (.cond (.t 45)
   (.region [
     ⟨(some 46), (.mov (.t 12)), none⟩,
     ⟨(some 47), (.mov (.t 8)), none⟩,
     ⟨(some 48), (.bin .sub .num (.t 46) (.t 47)), none⟩,
     ⟨(some 12), (.mov (.t 48)), none⟩])
   (.skip))))
   (.seq (.kill [0, 1, 8, 9, 10, 11, 12] 0) (.draw 0 [
    ⟨0, none, ⟨(some 49), (.mov (.t 0)), none⟩, []⟩,
    ⟨1, none, ⟨(some 50), (.mov (.t 11)), none⟩, []⟩,
    ⟨2, none, ⟨(some 51), (.mov (.t 0)), none⟩, []⟩,
    ⟨3, none, ⟨(some 52), (.mov (.t 1)), none⟩, []⟩,
    ⟨4, none, ⟨(some 53), (.mov (.t 12)), none⟩, []⟩,
    ⟨5, none, ⟨(some 54), (.bin .add .num (.t 52) (.t 53)), none⟩, []⟩,
    ⟨6, none, ⟨(some 55), (.mov (.t 0)), none⟩, []⟩,
    ⟨7, none, ⟨(some 56), (.mov (.t 1)), none⟩, []⟩,
    ⟨8, none, ⟨(some 57), (.mov (.t 12)), none⟩, []⟩,
    ⟨9, none, ⟨(some 58), (.bin .add .num (.t 56) (.t 57)), none⟩, []⟩,
    ⟨10, none, ⟨(some 59), (.iaddr 3 (.t 55) (.t 58)), none⟩, []⟩,
    ⟨11, none, ⟨(some 60), (.load (some 3) (.t 59)), none⟩, []⟩,
    ⟨12, none, ⟨(some 61), (.mov (.t 0)), none⟩, []⟩,
    ⟨13, none, ⟨(some 62), (.mov (.t 11)), none⟩, []⟩,
    ⟨14, none, ⟨(some 63), (.iaddr 3 (.t 61) (.t 62)), none⟩, []⟩,
    ⟨15, none, ⟨(some 64), (.load (some 3) (.t 63)), none⟩, []⟩,
    ⟨16, none, ⟨(some 65), (.iaddr 3 (.t 49) (.t 50)), none⟩, []⟩,
    ⟨17, none, ⟨none, (.store 3 (.t 65) (.t 60)), none⟩, []⟩,
    ⟨18, none, ⟨(some 66), (.iaddr 3 (.t 51) (.t 54)), none⟩, []⟩,
    ⟨19, none, ⟨none, (.store 3 (.t 66) (.t 64)), none⟩, []⟩]))))))
   (.seq (.kill [0, 1, 8, 9, 10, 11] 0) (.region [
    ⟨(some 36), (.mov (.t 11)), none⟩,
    ⟨(some 37), (.bin .add .num (.t 36) (.c (.c (.int .i64 1)))), none⟩,
    ⟨(some 11), (.mov (.t 37)), none⟩]))))))))))))))
 (.skip)))))⟩
/-- slices.choosePivotCmpFunc[campanile/parents.parent] -/
def n102 : NF := ⟨63, [8, 9],
 .seq (.region [
  ⟨(some 8), (.mov (.c (.c (.int .i64 0)))), none⟩,
  ⟨(some 9), (.mov (.c (.c (.int .i64 0)))), none⟩])
 (.seq (.kill [0, 1, 2, 3] 0) (.seq (.region [
  ⟨(some 15), (.mov (.t 2)), none⟩,
  ⟨(some 16), (.mov (.t 1)), none⟩,
  ⟨(some 17), (.bin .sub .num (.t 15) (.t 16)), none⟩,
  ⟨(some 10), (.mov (.t 17)), none⟩])
 (.seq (.kill [0, 1, 3, 10] 0) (.seq (.region [
  ⟨(some 11), (.box false 1 (.c (.c (.int .i64 0)))), none⟩])
 (.seq (.kill [0, 1, 3, 10, 11] 0) (.seq (.region [
  ⟨(some 18), (.mov (.t 1)), none⟩,
  ⟨(some 19), (.mov (.t 10)), none⟩,
  ⟨(some 20), (.bin .quo .num (.t 19) (.c (.c (.int .i64 4)))), none⟩,
  ⟨(some 21), (.bin .mul .num (.t 20) (.c (.c (.int .i64 1)))), none⟩,
  ⟨(some 22), (.bin .add .num (.t 18) (.t 21)), none⟩,
  ⟨(some 12), (.mov (.t 22)), none⟩])
 (.seq (.kill [0, 1, 3, 10, 11, 12] 0) (.seq (.region [
  ⟨(some 23), (.mov (.t 1)), none⟩,
  ⟨(some 24), (.mov (.t 10)), none⟩,
  ⟨(some 25), (.bin .quo .num (.t 24) (.c (.c (.int .i64 4)))), none⟩,
  ⟨(some 26), (.bin .mul .num (.t 25) (.c (.c (.int .i64 2)))), none⟩,
  ⟨(some 27), (.bin .add .num (.t 23) (.t 26)), none⟩,
  ⟨(some 13), (.mov (.t 27)), none⟩])
 (.seq (.kill [0, 1, 3, 10, 11, 12, 13] 0) (.seq (.region [
  ⟨(some 28), (.mov (.t 1)), none⟩,
  ⟨(some 29), (.mov (.t 10)), none⟩,
  ⟨(some 30), (.bin .quo .num (.t 29) (.c (.c (.int .i64 4)))), none⟩,
  ⟨(some 31), (.bin .mul .num (.t 30) (.c (.c (.int .i64 3)))), none⟩,
  ⟨(some 32), (.bin .add .num (.t 28) (.t 31)), none⟩,
  ⟨(some 14), (.mov (.t 32)), none⟩])
 (.seq (.kill [0, 3, 10, 11, 12, 13, 14] 0) (.seq (.seq (.region [
  ⟨(some 33), (.mov (.t 10)), none⟩,
  ⟨(some 34), (.bin .geq .num (.t 33) (.c (.c (.int .i64 8)))), none⟩])
 (.seq (.kill [0, 3, 10, 11, 12, 13, 14, 34] 0) (.cond (.t 34)
 (.seq (.seq (.region [
   ⟨(some 35), (.mov (.t 10)), none⟩,
   ⟨(some 36), (.bin .geq .num (.t 35) (.c (.c (.int .i64 50)))), none⟩])
  (.seq (.kill [0, 3, 11, 12, 13, 14, 36] 0) (.cond (.t 36)
  (.seq (.region [
    ⟨(some 37), (.mov (.t 0)), none⟩,
    ⟨(some 38), (.mov (.t 12)), none⟩,
    ⟨(some 39), (.mov (.t 3)), none⟩,
    ⟨(some 40), (.call 113 [(.t 37), (.t 38), (.t 11), (.t 39)]), none⟩,
    ⟨(some 12), (.mov (.t 40)), none⟩])
   (.seq (.kill [0, 3, 11, 12, 13, 14] 0) (.seq (.region [
    ⟨(some 41), (.mov (.t 0)), none⟩,
    ⟨(some 42), (.mov (.t 13)), none⟩,
    ⟨(some 43), (.mov (.t 3)), none⟩,
    ⟨(some 44), (.call 113 [(.t 41), (.t 42), (.t 11), (.t 43)]), none⟩,
    ⟨(some 13), (.mov (.t 44)), none⟩])
   (.seq (.kill [0, 3, 11, 12, 13, 14] 0) (.region [
    ⟨(some 45), (.mov (.t 0)), none⟩,
    ⟨(some 46), (.mov (.t 14)), none⟩,
    ⟨(some 47), (.mov (.t 3)), none⟩,
    ⟨(some 48), (.call 113 [(.t 45), (.t 46), (.t 11), (.t 47)]), none⟩,
    ⟨(some 14), (.mov (.t 48)), none⟩])))))
  (.skip))))
  (.seq (.kill [0, 3, 11, 12, 13, 14] 0) (.region [
   ⟨(some 49), (.mov (.t 0)), none⟩,
   ⟨(some 50), (.mov (.t 12)), none⟩,
   ⟨(some 51), (.mov (.t 13)), none⟩,
   ⟨(some 52), (.mov (.t 14)), none⟩,
   ⟨(some 53), (.mov (.t 3)), none⟩,
   ⟨(some 54), (.call 114 [(.t 49), (.t 50), (.t 51), (.t 52), (.t 11), (.t 53)]), none⟩,
   ⟨(some 13), (.mov (.t 54)), none⟩])))
 (.skip))))
 (.seq (.kill [11, 13] 0) (.seq (.region [
  ⟨(some 55), (.load none (.t 11)), none⟩])
 (.seq (.kill [13, 55] 0) (.block 0 (.seq (.region [
  ⟨(some 58), (.bin .eql .num (.t 55) (.c (.c (.int .i64 0)))), none⟩,
  ⟨(some 57), (.mov (.t 58)), none⟩])
 (.seq (.kill [13, 55, 57] 0) (.cond (.t 57)
 (.seq (.region [
   ⟨(some 59), (.mov (.t 13)), none⟩,
   ⟨(some 8), (.mov (.t 59)), none⟩,
   ⟨(some 9), (.mov (.c (.c (.int .i64 1)))), none⟩])
  (.ret))
 (.seq (.region [
   ⟨(some 61), (.bin .eql .num (.t 55) (.c (.c (.int .i64 12)))), none⟩,
   ⟨(some 60), (.mov (.t 61)), none⟩])
  (.seq (.kill [13, 60] 0) (.cond (.t 60)
  (.seq (.region [
    ⟨(some 62), (.mov (.t 13)), none⟩,
    ⟨(some 8), (.mov (.t 62)), none⟩,
    ⟨(some 9), (.mov (.c (.c (.int .i64 2)))), none⟩])
   (.ret))
  (.seq (.region [
    ⟨(some 56), (.mov (.t 13)), none⟩,
    ⟨(some 8), (.mov (.t 56)), none⟩,
    ⟨(some 9), (.mov (.c (.c (.int .i64 0)))), none⟩])
   (.ret))))))))))))))))))))))))⟩
/-- slices.reverseRangeCmpFunc[campanile/parents.parent] -/
def n103 : NF := ⟨34, [],
 .seq (.region [
  ⟨(some 10), (.mov (.t 1)), none⟩,
  ⟨(some 8), (.mov (.t 10)), none⟩])
 (.seq (.kill [0, 2, 8] 0) (.seq (.region [
  ⟨(some 11), (.mov (.t 2)), none⟩,
  ⟨(some 12), (.bin .sub .num (.t 11) (.c (.c (.int .i64 1)))), none⟩,
  ⟨(some 9), (.mov (.t 12)), none⟩])
 (.seq (.kill [0, 8, 9] 0) (.block 0 (.loop (.seq (.kill [0, 8, 9] 0) (.seq (.seq (.region [
   ⟨(some 13), (.mov (.t 8)), none⟩,
   ⟨(some 14), (.mov (.t 9)), none⟩,
   ⟨(some 15), (.bin .lss .num (.t 13) (.t 14)), none⟩])
  (.seq (.kill [0, 8, 9, 15] 0) (.cond (.t 15)
  (.skip)
  (.exit 0))))
  (.seq (.kill [0, 8, 9] 0) (.block 1 (.seq (.draw 0 [
   ⟨0, none, ⟨(some 16), (.mov (.t 0)), none⟩, []⟩,
   ⟨1, none, ⟨(some 17), (.mov (.t 8)), none⟩, []⟩,
   ⟨2, none, ⟨(some 18), (.mov (.t 0)), none⟩, []⟩,
   ⟨3, none, ⟨(some 19), (.mov (.t 9)), none⟩, []⟩,
   ⟨4, none, ⟨(some 20), (.mov (.t 0)), none⟩, []⟩,
   ⟨5, none, ⟨(some 21), (.mov (.t 9)), none⟩, []⟩,
   ⟨6, none, ⟨(some 22), (.iaddr 3 (.t 20) (.t 21)), none⟩, []⟩,
   ⟨7, none, ⟨(some 23), (.load (some 3) (.t 22)), none⟩, []⟩,
   ⟨8, none, ⟨(some 24), (.mov (.t 0)), none⟩, []⟩,
   ⟨9, none, ⟨(some 25), (.mov (.t 8)), none⟩, []⟩,
   ⟨10, none, ⟨(some 26), (.iaddr 3 (.t 24) (.t 25)), none⟩, []⟩,
   ⟨11, none, ⟨(some 27), (.load (some 3) (.t 26)), none⟩, []⟩,
   ⟨12, none, ⟨(some 28), (.iaddr 3 (.t 16) (.t 17)), none⟩, []⟩,
   ⟨13, none, ⟨none, (.store 3 (.t 28) (.t 23)), none⟩, []⟩,
   ⟨14, none, ⟨(some 29), (.iaddr 3 (.t 18) (.t 19)), none⟩, []⟩,
   ⟨15, none, ⟨none, (.store 3 (.t 29) (.t 27)), none⟩, []⟩])
  (.seq (.kill [0, 8, 9] 0) (.seq (.region [
   ⟨(some 30), (.mov (.t 8)), none⟩,
   ⟨(some 31), (.bin .add .num (.t 30) (.c (.c (.int .i64 1)))), none⟩,
   ⟨(some 8), (.mov (.t 31)), none⟩])
  (.seq (.kill [0, 8, 9] 0) (.region [
   ⟨(some 32), (.mov (.t 9)), none⟩,
   ⟨(some 33), (.bin .sub .num (.t 32) (.c (.c (.int .i64 1)))), none⟩,
   ⟨(some 9), (.mov (.t 33)), none⟩]))))))))))))))⟩
/-- slices.partialInsertionSortCmpFunc[campanile/parents.parent] -/
def n104 : NF := ⟨141, [8],
 .seq (.region [
  ⟨(some 8), (.mov (.c (.c (.bool false)))), none⟩])
 (.seq (.kill [0, 1, 2, 3] 0) (.seq (.region [
  ⟨(some 13), (.mov (.t 1)), none⟩,
  ⟨(some 14), (.bin .add .num (.t 13) (.c (.c (.int .i64 1)))), none⟩,
  ⟨(some 9), (.mov (.t 14)), none⟩])
 (.seq (.kill [0, 1, 2, 3, 9] 0) (.seq (.seq (.region [
  ⟨(some 10), (.mov (.c (.c (.int .i64 0)))), none⟩])
 (.seq (.kill [0, 1, 2, 3, 9, 10] 0) (.block 0 (.loop (.seq (.kill [0, 1, 2, 3, 9, 10] 0) (.seq (.seq (.region [
   ⟨(some 15), (.mov (.t 10)), none⟩,
   ⟨(some 16), (.bin .lss .num (.t 15) (.c (.c (.int .i64 5)))), none⟩])
  (.seq (.kill [0, 1, 2, 3, 9, 10, 16] 0) (.cond (.t 16)
  (.skip)
  (.exit 0))))
  (.seq (.kill [0, 1, 2, 3, 9, 10] 0) (.seq (.block 1 (.seq (.block 2 (.loop (.seq (.kill [0, 1, 2, 3, 9, 10] 0) (.seq (.seq (.draw 0 [
    ⟨0, none, ⟨(some 19), (.mov (.t 9)), none⟩, []⟩,
    ⟨1, none, ⟨(some 20), (.mov (.t 2)), none⟩, []⟩,
    ⟨2, none, ⟨(some 21), (.bin .lss .num (.t 19) (.t 20)), none⟩, []⟩,
    ⟨3, none, ⟨(some 22), (.mov (.t 21)), none⟩, []⟩,
    ⟨4, none, ⟨(some 23), (.mov (.t 3)), (some (22, true))⟩, []⟩,
    ⟨5, none, ⟨(some 24), (.mov (.t 0)), (some (22, true))⟩, []⟩,
    ⟨6, none, ⟨(some 25), (.mov (.t 9)), (some (22, true))⟩, []⟩,
    ⟨7, none, ⟨(some 26), (.iaddr 3 (.t 24) (.t 25)), (some (22, true))⟩, []⟩,
    ⟨8, none, ⟨(some 27), (.load (some 3) (.t 26)), (some (22, true))⟩, []⟩,
    ⟨9, none, ⟨(some 28), (.mov (.t 0)), (some (22, true))⟩, []⟩,
    ⟨10, none, ⟨(some 29), (.mov (.t 9)), (some (22, true))⟩, []⟩,
    ⟨11, none, ⟨(some 30), (.bin .sub .num (.t 29) (.c (.c (.int .i64 1)))), (some (22, true))⟩, []⟩,
    ⟨12, none, ⟨(some 31), (.iaddr 3 (.t 28) (.t 30)), (some (22, true))⟩, []⟩,
    ⟨13, none, ⟨(some 32), (.load (some 3) (.t 31)), (some (22, true))⟩, []⟩,
    ⟨14, none, ⟨(some 33), (.dyn (.t 23) [(.t 27), (.t 32)]), (some (22, true))⟩, []⟩,
    ⟨15, none, ⟨(some 34), (.bin .lss .num (.t 33) (.c (.c (.int .i64 0)))), (some (22, true))⟩, []⟩,
    ⟨16, none, ⟨(some 35), (.un .not (.t 34)), (some (22, true))⟩, []⟩,
    ⟨17, none, ⟨(some 36), (.pick (.t 22) (.t 35) (.c (.c (.bool false)))), none⟩, []⟩])
   (.seq (.kill [0, 1, 2, 3, 9, 10, 36] 0) (.cond (.t 36)
   (.skip)
   (.exit 2))))
   (.seq (.kill [0, 1, 2, 3, 9, 10] 0) (.block 3 (.region [
    ⟨(some 37), (.mov (.t 9)), none⟩,
    ⟨(some 38), (.bin .add .num (.t 37) (.c (.c (.int .i64 1)))), none⟩,
    ⟨(some 9), (.mov (.t 38)), none⟩])))))))
  (.seq (.kill [0, 1, 2, 3, 9, 10] 0) (.seq (.seq (.region [
   ⟨(some 39), (.mov (.t 9)), none⟩,
   ⟨(some 40), (.mov (.t 2)), none⟩,
   ⟨(some 41), (.bin .eql .num (.t 39) (.t 40)), none⟩])
  (.seq (.kill [0, 1, 2, 3, 9, 10, 41] 0) (.cond (.t 41)
  (.seq (.region [
    ⟨(some 8), (.mov (.c (.c (.bool true)))), none⟩])
   (.ret))
  (.skip))))
  (.seq (.kill [0, 1, 2, 3, 9, 10] 0) (.seq (.seq (.region [
   ⟨(some 42), (.mov (.t 2)), none⟩,
   ⟨(some 43), (.mov (.t 1)), none⟩,
   ⟨(some 44), (.bin .sub .num (.t 42) (.t 43)), none⟩,
   ⟨(some 45), (.bin .lss .num (.t 44) (.c (.c (.int .i64 50)))), none⟩])
  (.seq (.kill [0, 1, 2, 3, 9, 10, 45] 0) (.cond (.t 45)
  (.seq (.region [
    ⟨(some 8), (.mov (.c (.c (.bool false)))), none⟩])
   (.ret))
  (.skip))))
  (.seq (.kill [0, 1, 2, 3, 9, 10] 0) (.seq (.draw 0 [
   ⟨0, none, ⟨(some 46), (.mov (.t 0)), none⟩, []⟩,
   ⟨1, none, ⟨(some 47), (.mov (.t 9)), none⟩, []⟩,
   ⟨2, none, ⟨(some 48), (.mov (.t 0)), none⟩, []⟩,
   ⟨3, none, ⟨(some 49), (.mov (.t 9)), none⟩, []⟩,
   ⟨4, none, ⟨(some 50), (.bin .sub .num (.t 49) (.c (.c (.int .i64 1)))), none⟩, []⟩,
   ⟨5, none, ⟨(some 51), (.mov (.t 0)), none⟩, []⟩,
   ⟨6, none, ⟨(some 52), (.mov (.t 9)), none⟩, []⟩,
   ⟨7, none, ⟨(some 53), (.bin .sub .num (.t 52) (.c (.c (.int .i64 1)))), none⟩, []⟩,
   ⟨8, none, ⟨(some 54), (.iaddr 3 (.t 51) (.t 53)), none⟩, []⟩,
   ⟨9, none, ⟨(some 55), (.load (some 3) (.t 54)), none⟩, []⟩,
   ⟨10, none, ⟨(some 56), (.mov (.t 0)), none⟩, []⟩,
   ⟨11, none, ⟨(some 57), (.mov (.t 9)), none⟩, []⟩,
   ⟨12, none, ⟨(some 58), (.iaddr 3 (.t 56) (.t 57)), none⟩, []⟩,
   ⟨13, none, ⟨(some 59), (.load (some 3) (.t 58)), none⟩, []⟩,
   ⟨14, none, ⟨(some 60), (.iaddr 3 (.t 46) (.t 47)), none⟩, []⟩,
   ⟨15, none, ⟨none, (.store 3 (.t 60) (.t 55)), none⟩, []⟩,
   ⟨16, none, ⟨(some 61), (.iaddr 3 (.t 48) (.t 50)), none⟩, []⟩,
   ⟨17, none, ⟨none, (.store 3 (.t 61) (.t 59)), none⟩, []⟩])
  (.seq (.kill [0, 1, 2, 3, 9, 10] 0) (.seq (.seq (.region [
   ⟨(some 62), (.mov (.t 9)), none⟩,
   ⟨(some 63), (.mov (.t 1)), none⟩,
   ⟨(some 64), (.bin .sub .num (.t 62) (.t 63)), none⟩,
   ⟨(some 65), (.bin .geq .num (.t 64) (.c (.c (.int .i64 2)))), none⟩])
  (.seq (.kill [0, 1, 2, 3, 9, 10, 65] 0) (.cond (.t 65)
  (.seq (.region [
    ⟨(some 66), (.mov (.t 9)), none⟩,
    ⟨(some 67), (.bin .sub .num (.t 66) (.c (.c (.int .i64 1)))), none⟩,
    ⟨(some 11), (.mov (.t 67)), none⟩])
   (.seq (.kill [0, 1, 2, 3, 9, 10, 11] 0) (.block 4 (.loop (.seq (.kill [0, 1, 2, 3, 9, 10, 11] 0) (.seq (.seq (.region [
     ⟨(some 68), (.mov (.t 11)), none⟩,
     ⟨(some 69), (.bin .geq .num (.t 68) (.c (.c (.int .i64 1)))), none⟩])
    (.seq (.kill [0, 1, 2, 3, 9, 10, 11, 69] 0) (.cond (.t 69)
    (.skip)
    (.exit 4))))
    (.seq (.kill [0, 1, 2, 3, 9, 10, 11] 0) (.seq (.block 5 (.seq (.seq (.draw 0 [
     ⟨0, none, ⟨(some 72), (.mov (.t 3)), none⟩, []⟩,
     ⟨1, none, ⟨(some 73), (.mov (.t 0)), none⟩, []⟩,
     ⟨2, none, ⟨(some 74), (.mov (.t 11)), none⟩, []⟩,
     ⟨3, none, ⟨(some 75), (.iaddr 3 (.t 73) (.t 74)), none⟩, []⟩,
     ⟨4, none, ⟨(some 76), (.load (some 3) (.t 75)), none⟩, []⟩,
     ⟨5, none, ⟨(some 77), (.mov (.t 0)), none⟩, []⟩,
     ⟨6, none, ⟨(some 78), (.mov (.t 11)), none⟩, []⟩,
     ⟨7, none, ⟨(some 79), (.bin .sub .num (.t 78) (.c (.c (.int .i64 1)))), none⟩, []⟩,
     ⟨8, none, ⟨(some 80), (.iaddr 3 (.t 77) (.t 79)), none⟩, []⟩,
     ⟨9, none, ⟨(some 81), (.load (some 3) (.t 80)), none⟩, []⟩,
     ⟨10, none, ⟨(some 82), (.dyn (.t 72) [(.t 76), (.t 81)]), none⟩, []⟩,
     ⟨11, none, ⟨(some 83), (.bin .lss .num (.t 82) (.c (.c (.int .i64 0)))), none⟩, []⟩,
     ⟨12, none, ⟨(some 84), (.un .not (.t 83)), none⟩, []⟩])
    (.seq (.kill [0, 1, 2, 3, 9, 10, 11, 84] 0) (.cond (.t 84)
    (.exit 4)
    (.skip))))
    (.seq (.kill [0, 1, 2, 3, 9, 10, 11] 0) (.draw 0 [
     ⟨0, none, ⟨(some 85), (.mov (.t 0)), none⟩, []⟩,
     ⟨1, none, ⟨(some 86), (.mov (.t 11)), none⟩, []⟩,
     ⟨2, none, ⟨(some 87), (.mov (.t 0)), none⟩, []⟩,
     ⟨3, none, ⟨(some 88), (.mov (.t 11)), none⟩, []⟩,
     ⟨4, none, ⟨(some 89), (.bin .sub .num (.t 88) (.c (.c (.int .i64 1)))), none⟩, []⟩,
     ⟨5, none, ⟨(some 90), (.mov (.t 0)), none⟩, []⟩,
     ⟨6, none, ⟨(some 91), (.mov (.t 11)), none⟩, []⟩,
     ⟨7, none, ⟨(some 92), (.bin .sub .num (.t 91) (.c (.c (.int .i64 1)))), none⟩, []⟩,
     ⟨8, none, ⟨(some 93), (.iaddr 3 (.t 90) (.t 92)), none⟩, []⟩,
     ⟨9, none, ⟨(some 94), (.load (some 3) (.t 93)), none⟩, []⟩,
     ⟨10, none, ⟨(some 95), (.mov (.t 0)), none⟩, []⟩,
     ⟨11, none, ⟨(some 96), (.mov (.t 11)), none⟩, []⟩,
     ⟨12, none, ⟨(some 97), (.iaddr 3 (.t 95) (.t 96)), none⟩, []⟩,
     ⟨13, none, ⟨(some 98), (.load (some 3) (.t 97)), none⟩, []⟩,
     ⟨14, none, ⟨(some 99), (.iaddr 3 (.t 85) (.t 86)), none⟩, []⟩,
     ⟨15, none, ⟨none, (.store 3 (.t 99) (.t 94)), none⟩, []⟩,
     ⟨16, none, ⟨(some 100), (.iaddr 3 (.t 87) (.t 89)), none⟩, []⟩,
     ⟨17, none, ⟨none, (.store 3 (.t 100) (.t 98)), none⟩, []⟩]))))
    (.seq (.kill [0, 1, 2, 3, 9, 10, 11] 0) (.region [
     ⟨(some 70), (.mov (.t 11)), none⟩,
     ⟨(some 71), (.bin .sub .num (.t 70) (.c (.c (.int .i64 1)))), none⟩,
     ⟨(some 11), (.mov (.t 71)), none⟩]))))))))))
  (.skip))))
  (.seq (.kill [0, 1, 2, 3, 9, 10] 0) (.seq (.region [
   ⟨(some 101), (.mov (.t 2)), none⟩,
   ⟨(some 102), (.mov (.t 9)), none⟩,
   ⟨(some 103), (.bin .sub .num (.t 101) (.t 102)), none⟩,
   ⟨(some 104), (.bin .geq .num (.t 103) (.c (.c (.int .i64 2)))), none⟩])
  (.seq (.kill [0, 1, 2, 3, 9, 10, 104] 0) (.cond (.t 104)
  (.seq (.region [
    ⟨(some 105), (.mov (.t 9)), none⟩,
    ⟨(some 106), (.bin .add .num (.t 105) (.c (.c (.int .i64 1)))), none⟩,
    ⟨(some 12), (.mov (.t 106)), none⟩])
   (.seq (.kill [0, 1, 2, 3, 9, 10, 12] 0) (.block 6 (.loop (.seq (.kill [0, 1, 2, 3, 9, 10, 12] 0) (.seq (.seq (.region [
     ⟨(some 107), (.mov (.t 12)), none⟩,
     ⟨(some 108), (.mov (.t 2)), none⟩,
     ⟨(some 109), (.bin .lss .num (.t 107) (.t 108)), none⟩])
    (.seq (.kill [0, 1, 2, 3, 9, 10, 12, 109] 0) (.cond (.t 109)
    (.skip)
    (.exit 6))))
    (.seq (.kill [0, 1, 2, 3, 9, 10, 12] 0) (.seq (.block 7 (.seq (.seq (.draw 0 [
     ⟨0, none, ⟨(some 112), (.mov (.t 3)), none⟩, []⟩,
     ⟨1, none, ⟨(some 113), (.mov (.t 0)), none⟩, []⟩,
     ⟨2, none, ⟨(some 114), (.mov (.t 12)), none⟩, []⟩,
     ⟨3, none, ⟨(some 115), (.iaddr 3 (.t 113) (.t 114)), none⟩, []⟩,
     ⟨4, none, ⟨(some 116), (.load (some 3) (.t 115)), none⟩, []⟩,
     ⟨5, none, ⟨(some 117), (.mov (.t 0)), none⟩, []⟩,
     ⟨6, none, ⟨(some 118), (.mov (.t 12)), none⟩, []⟩,
     ⟨7, none, ⟨(some 119), (.bin .sub .num (.t 118) (.c (.c (.int .i64 1)))), none⟩, []⟩,
     ⟨8, none, ⟨(some 120), (.iaddr 3 (.t 117) (.t 119)), none⟩, []⟩,
     ⟨9, none, ⟨(some 121), (.load (some 3) (.t 120)), none⟩, []⟩,
     ⟨10, none, ⟨(some 122), (.dyn (.t 112) [(.t 116), (.t 121)]), none⟩, []⟩,
     ⟨11, none, ⟨(some 123), (.bin .lss .num (.t 122) (.c (.c (.int .i64 0)))), none⟩, []⟩,
     ⟨12, none, ⟨(some 124), (.un .not (.t 123)), none⟩, []⟩])
    (.seq (.kill [0, 1, 2, 3, 9, 10, 12, 124] 0) (.cond (.t 124)
    (.exit 6)
    (.skip))))
    (.seq (.kill [0, 1, 2, 3, 9, 10, 12] 0) (.draw 0 [
     ⟨0, none, ⟨(some 125), (.mov (.t 0)), none⟩, []⟩,
     ⟨1, none, ⟨(some 126), (.mov (.t 12)), none⟩, []⟩,
     ⟨2, none, ⟨(some 127), (.mov (.t 0)), none⟩, []⟩,
     ⟨3, none, ⟨(some 128), (.mov (.t 12)), none⟩, []⟩,
     ⟨4, none, ⟨(some 129), (.bin .sub .num (.t 128) (.c (.c (.int .i64 1)))), none⟩, []⟩,
     ⟨5, none, ⟨(some 130), (.mov (.t 0)), none⟩, []⟩,
     ⟨6, none, ⟨(some 131), (.mov (.t 12)), none⟩, []⟩,
     ⟨7, none, ⟨(some 132), (.bin .sub .num (.t 131) (.c (.c (.int .i64 1)))), none⟩, []⟩,
     ⟨8, none, ⟨(some 133), (.iaddr 3 (.t 130) (.t 132)), none⟩, []⟩,
     ⟨9, none, ⟨(some 134), (.load (some 3) (.t 133)), none⟩, []⟩,
     ⟨10, none, ⟨(some 135), (.mov (.t 0)), none⟩, []⟩,
     ⟨11, none, ⟨(some 136), (.mov (.t 12)), none⟩, []⟩,
     ⟨12, none, ⟨(some 137), (.iaddr 3 (.t 135) (.t 136)), none⟩, []⟩,
     ⟨13, none, ⟨(some 138), (.load (some 3) (.t 137)), none⟩, []⟩,
     ⟨14, none, ⟨(some 139), (.iaddr 3 (.t 125) (.t 126)), none⟩, []⟩,
     ⟨15, none, ⟨none, (.store 3 (.t 139) (.t 134)), none⟩, []⟩,
     ⟨16, none, ⟨(some 140), (.iaddr 3 (.t 127) (.t 129)), none⟩, []⟩,
     ⟨17, none, ⟨none, (.store 3 (.t 140) (.t 138)), none⟩, []⟩]))))
    (.seq (.kill [0, 1, 2, 3, 9, 10, 12] 0) (.region [
     ⟨(some 110), (.mov (.t 12)), none⟩,
     ⟨(some 111), (.bin .add .num (.t 110) (.c (.c (.int .i64 1)))), none⟩,
     ⟨(some 12), (.mov (.t 111)), none⟩]))))))))))
  (.skip)))))))))))))))
  (.seq (.kill [0, 1, 2, 3, 9, 10] 0) (.region [
   ⟨(some 17), (.mov (.t 10)), none⟩,
   ⟨(some 18), (.bin .add .num (.t 17) (.c (.c (.int .i64 1)))), none⟩,
   ⟨(some 10), (.mov (.t 18)), none⟩]))))))))))
 (.seq (.kill [] 0) (.seq (.region [
  ⟨(some 8), (.mov (.c (.c (.bool false)))), none⟩])
 (.ret)))))))⟩
/-- slices.partitionEqualCmpFunc[campanile/parents.parent] -/
def n105 : NF := ⟨90, [10],
 .seq (.region [
  ⟨(some 10), (.mov (.c (.c (.int .i64 0)))), none⟩])
 (.seq (.kill [0, 1, 2, 3, 4] 0) (.seq (.draw 0 [
  ⟨0, none, ⟨(some 13), (.mov (.t 0)), none⟩, []⟩,
  ⟨1, none, ⟨(some 14), (.mov (.t 1)), none⟩, []⟩,
  ⟨2, none, ⟨(some 15), (.mov (.t 0)), none⟩, []⟩,
  ⟨3, none, ⟨(some 16), (.mov (.t 3)), none⟩, []⟩,
  ⟨4, none, ⟨(some 17), (.mov (.t 0)), none⟩, []⟩,
  ⟨5, none, ⟨(some 18), (.mov (.t 3)), none⟩, []⟩,
  ⟨6, none, ⟨(some 19), (.iaddr 3 (.t 17) (.t 18)), none⟩, []⟩,
  ⟨7, none, ⟨(some 20), (.load (some 3) (.t 19)), none⟩, []⟩,
  ⟨8, none, ⟨(some 21), (.mov (.t 0)), none⟩, []⟩,
  ⟨9, none, ⟨(some 22), (.mov (.t 1)), none⟩, []⟩,
  ⟨10, none, ⟨(some 23), (.iaddr 3 (.t 21) (.t 22)), none⟩, []⟩,
  ⟨11, none, ⟨(some 24), (.load (some 3) (.t 23)), none⟩, []⟩,
  ⟨12, none, ⟨(some 25), (.iaddr 3 (.t 13) (.t 14)), none⟩, []⟩,
  ⟨13, none, ⟨none, (.store 3 (.t 25) (.t 20)), none⟩, []⟩,
  ⟨14, none, ⟨(some 26), (.iaddr 3 (.t 15) (.t 16)), none⟩, []⟩,
  ⟨15, none, ⟨none, (.store 3 (.t 26) (.t 24)), none⟩, []⟩])
 (.seq (.kill [0, 1, 2, 4] 0) (.seq (.region [
  ⟨(some 27), (.mov (.t 1)), none⟩,
  ⟨(some 28), (.bin .add .num (.t 27) (.c (.c (.int .i64 1)))), none⟩,
  ⟨(some 29), (.mov (.t 2)), none⟩,
  ⟨(some 30), (.bin .sub .num (.t 29) (.c (.c (.int .i64 1)))), none⟩,
  ⟨(some 11), (.mov (.t 28)), none⟩,
  ⟨(some 12), (.mov (.t 30)), none⟩])
 (.seq (.kill [0, 1, 4, 11, 12] 0) (.seq (.block 0 (.loop (.seq (.kill [0, 1, 4, 11, 12] 0) (.block 1 (.seq (.block 2 (.loop (.seq (.kill [0, 1, 4, 11, 12] 0) (.seq (.seq (.draw 0 [
    ⟨0, none, ⟨(some 31), (.mov (.t 11)), none⟩, []⟩,
    ⟨1, none, ⟨(some 32), (.mov (.t 12)), none⟩, []⟩,
    ⟨2, none, ⟨(some 33), (.bin .leq .num (.t 31) (.t 32)), none⟩, []⟩,
    ⟨3, none, ⟨(some 34), (.mov (.t 33)), none⟩, []⟩,
    ⟨4, none, ⟨(some 35), (.mov (.t 4)), (some (34, true))⟩, []⟩,
    ⟨5, none, ⟨(some 36), (.mov (.t 0)), (some (34, true))⟩, []⟩,
    ⟨6, none, ⟨(some 37), (.mov (.t 1)), (some (34, true))⟩, []⟩,
    ⟨7, none, ⟨(some 38), (.iaddr 3 (.t 36) (.t 37)), (some (34, true))⟩, []⟩,
    ⟨8, none, ⟨(some 39), (.load (some 3) (.t 38)), (some (34, true))⟩, []⟩,
    ⟨9, none, ⟨(some 40), (.mov (.t 0)), (some (34, true))⟩, []⟩,
    ⟨10, none, ⟨(some 41), (.mov (.t 11)), (some (34, true))⟩, []⟩,
    ⟨11, none, ⟨(some 42), (.iaddr 3 (.t 40) (.t 41)), (some (34, true))⟩, []⟩,
    ⟨12, none, ⟨(some 43), (.load (some 3) (.t 42)), (some (34, true))⟩, []⟩,
    ⟨13, none, ⟨(some 44), (.dyn (.t 35) [(.t 39), (.t 43)]), (some (34, true))⟩, []⟩,
    ⟨14, none, ⟨(some 45), (.bin .lss .num (.t 44) (.c (.c (.int .i64 0)))), (some (34, true))⟩, []⟩,
    ⟨15, none, ⟨(some 46), (.un .not (.t 45)), (some (34, true))⟩, []⟩,
    ⟨16, none, ⟨(some 47), (.pick (.t 34) (.t 46) (.c (.c (.bool false)))), none⟩, []⟩])
   (.seq (.kill [0, 1, 4, 11, 12, 47] 0) (.cond (.t 47)
   (.skip)
   (.exit 2))))
   (.seq (.kill [0, 1, 4, 11, 12] 0) (.block 3 (.region [
    ⟨(some 48), (.mov (.t 11)), none⟩,
    ⟨(some 49), (.bin .add .num (.t 48) (.c (.c (.int .i64 1)))), none⟩,
    ⟨(some 11), (.mov (.t 49)), none⟩])))))))
  (.seq (.kill [0, 1, 4, 11, 12] 0) (.seq (.block 4 (.loop (.seq (.kill [0, 1, 4, 11, 12] 0) (.seq (.seq (.draw 0 [
    ⟨0, none, ⟨(some 50), (.mov (.t 11)), none⟩, []⟩,
    ⟨1, none, ⟨(some 51), (.mov (.t 12)), none⟩, []⟩,
    ⟨2, none, ⟨(some 52), (.bin .leq .num (.t 50) (.t 51)), none⟩, []⟩,
    ⟨3, none, ⟨(some 53), (.mov (.t 52)), none⟩, []⟩,
    ⟨4, none, ⟨(some 54), (.mov (.t 4)), (some (53, true))⟩, []⟩,
    ⟨5, none, ⟨(some 55), (.mov (.t 0)), (some (53, true))⟩, []⟩,
    ⟨6, none, ⟨(some 56), (.mov (.t 1)), (some (53, true))⟩, []⟩,
    ⟨7, none, ⟨(some 57), (.iaddr 3 (.t 55) (.t 56)), (some (53, true))⟩, []⟩,
    ⟨8, none, ⟨(some 58), (.load (some 3) (.t 57)), (some (53, true))⟩, []⟩,
    ⟨9, none, ⟨(some 59), (.mov (.t 0)), (some (53, true))⟩, []⟩,
    ⟨10, none, ⟨(some 60), (.mov (.t 12)), (some (53, true))⟩, []⟩,
    ⟨11, none, ⟨(some 61), (.iaddr 3 (.t 59) (.t 60)), (some (53, true))⟩, []⟩,
    ⟨12, none, ⟨(some 62), (.load (some 3) (.t 61)), (some (53, true))⟩, []⟩,
    ⟨13, none, ⟨(some 63), (.dyn (.t 54) [(.t 58), (.t 62)]), (some (53, true))⟩, []⟩,
    ⟨14, none, ⟨(some 64), (.bin .lss .num (.t 63) (.c (.c (.int .i64 0)))), (some (53, true))⟩, []⟩,
    ⟨15, none, ⟨(some 65), (.pick (.t 53) (.t 64) (.c (.c (.bool false)))), none⟩, []⟩])
   (.seq (.kill [0, 1, 4, 11, 12, 65] 0) (.cond (.t 65)
   (.skip)
   (.exit 4))))
   (.seq (.kill [0, 1, 4, 11, 12] 0) (.block 5 (.region [
    ⟨(some 66), (.mov (.t 12)), none⟩,
    ⟨(some 67), (.bin .sub .num (.t 66) (.c (.c (.int .i64 1)))), none⟩,
    ⟨(some 12), (.mov (.t 67)), none⟩])))))))
  (.seq (.kill [0, 1, 4, 11, 12] 0) (.seq (.seq (.region [
   ⟨(some 68), (.mov (.t 11)), none⟩,
   ⟨(some 69), (.mov (.t 12)), none⟩,
   ⟨(some 70), (.bin .gtr .num (.t 68) (.t 69)), none⟩])
  (.seq (.kill [0, 1, 4, 11, 12, 70] 0) (.cond (.t 70)
  (.exit 0)
  (.skip))))
  (.seq (.kill [0, 1, 4, 11, 12] 0) (.seq (.draw 0 [
   ⟨0, none, ⟨(some 71), (.mov (.t 0)), none⟩, []⟩,
   ⟨1, none, ⟨(some 72), (.mov (.t 11)), none⟩, []⟩,
   ⟨2, none, ⟨(some 73), (.mov (.t 0)), none⟩, []⟩,
   ⟨3, none, ⟨(some 74), (.mov (.t 12)), none⟩, []⟩,
   ⟨4, none, ⟨(some 75), (.mov (.t 0)), none⟩, []⟩,
   ⟨5, none, ⟨(some 76), (.mov (.t 12)), none⟩, []⟩,
   ⟨6, none, ⟨(some 77), (.iaddr 3 (.t 75) (.t 76)), none⟩, []⟩,
   ⟨7, none, ⟨(some 78), (.load (some 3) (.t 77)), none⟩, []⟩,
   ⟨8, none, ⟨(some 79), (.mov (.t 0)), none⟩, []⟩,
   ⟨9, none, ⟨(some 80), (.mov (.t 11)), none⟩, []⟩,
   ⟨10, none, ⟨(some 81), (.iaddr 3 (.t 79) (.t 80)), none⟩, []⟩,
   ⟨11, none, ⟨(some 82), (.load (some 3) (.t 81)), none⟩, []⟩,
   ⟨12, none, ⟨(some 83), (.iaddr 3 (.t 71) (.t 72)), none⟩, []⟩,
   ⟨13, none, ⟨none, (.store 3 (.t 83) (.t 78)), none⟩, []⟩,
   ⟨14, none, ⟨(some 84), (.iaddr 3 (.t 73) (.t 74)), none⟩, []⟩,
   ⟨15, none, ⟨none, (.store 3 (.t 84) (.t 82)), none⟩, []⟩])
  (.seq (.kill [0, 1, 4, 11, 12] 0) (.seq (.region [
   ⟨(some 85), (.mov (.t 11)), none⟩,
   ⟨(some 86), (.bin .add .num (.t 85) (.c (.c (.int .i64 1)))), none⟩,
   ⟨(some 11), (.mov (.t 86)), none⟩])
  (.seq (.kill [0, 1, 4, 11, 12] 0) (.region [
   ⟨(some 87), (.mov (.t 12)), none⟩,
   ⟨(some 88), (.bin .sub .num (.t 87) (.c (.c (.int .i64 1)))), none⟩,
   ⟨(some 12), (.mov (.t 88)), none⟩])))))))))))))))
 (.seq (.kill [11] 0) (.seq (.region [
  ⟨(some 89), (.mov (.t 11)), none⟩,
  ⟨(some 10), (.mov (.t 89)), none⟩])
 (.ret)))))))))⟩
/-- slices.partitionCmpFunc[campanile/parents.parent] -/
def n106 : NF := ⟨178, [10, 11],
 .seq (.region [
  ⟨(some 10), (.mov (.c (.c (.int .i64 0)))), none⟩,
  ⟨(some 11), (.mov (.c (.c (.bool false)))), none⟩])
 (.seq (.kill [0, 1, 2, 3, 4] 0) (.seq (.draw 0 [
  ⟨0, none, ⟨(some 14), (.mov (.t 0)), none⟩, []⟩,
  ⟨1, none, ⟨(some 15), (.mov (.t 1)), none⟩, []⟩,
  ⟨2, none, ⟨(some 16), (.mov (.t 0)), none⟩, []⟩,
  ⟨3, none, ⟨(some 17), (.mov (.t 3)), none⟩, []⟩,
  ⟨4, none, ⟨(some 18), (.mov (.t 0)), none⟩, []⟩,
  ⟨5, none, ⟨(some 19), (.mov (.t 3)), none⟩, []⟩,
  ⟨6, none, ⟨(some 20), (.iaddr 3 (.t 18) (.t 19)), none⟩, []⟩,
  ⟨7, none, ⟨(some 21), (.load (some 3) (.t 20)), none⟩, []⟩,
  ⟨8, none, ⟨(some 22), (.mov (.t 0)), none⟩, []⟩,
  ⟨9, none, ⟨(some 23), (.mov (.t 1)), none⟩, []⟩,
  ⟨10, none, ⟨(some 24), (.iaddr 3 (.t 22) (.t 23)), none⟩, []⟩,
  ⟨11, none, ⟨(some 25), (.load (some 3) (.t 24)), none⟩, []⟩,
  ⟨12, none, ⟨(some 26), (.iaddr 3 (.t 14) (.t 15)), none⟩, []⟩,
  ⟨13, none, ⟨none, (.store 3 (.t 26) (.t 21)), none⟩, []⟩,
  ⟨14, none, ⟨(some 27), (.iaddr 3 (.t 16) (.t 17)), none⟩, []⟩,
  ⟨15, none, ⟨none, (.store 3 (.t 27) (.t 25)), none⟩, []⟩])
 (.seq (.kill [0, 1, 2, 4] 0) (.seq (.region [
  ⟨(some 28), (.mov (.t 1)), none⟩,
  ⟨(some 29), (.bin .add .num (.t 28) (.c (.c (.int .i64 1)))), none⟩,
  ⟨(some 30), (.mov (.t 2)), none⟩,
  ⟨(some 31), (.bin .sub .num (.t 30) (.c (.c (.int .i64 1)))), none⟩,
  ⟨(some 12), (.mov (.t 29)), none⟩,
  ⟨(some 13), (.mov (.t 31)), none⟩])
 (.seq (.kill [0, 1, 4, 12, 13] 0) (.seq (.block 0 (.loop (.seq (.kill [0, 1, 4, 12, 13] 0) (.seq (.seq (.draw 0 [
   ⟨0, none, ⟨(some 32), (.mov (.t 12)), none⟩, []⟩,
   ⟨1, none, ⟨(some 33), (.mov (.t 13)), none⟩, []⟩,
   ⟨2, none, ⟨(some 34), (.bin .leq .num (.t 32) (.t 33)), none⟩, []⟩,
   ⟨3, none, ⟨(some 35), (.mov (.t 34)), none⟩, []⟩,
   ⟨4, none, ⟨(some 36), (.mov (.t 4)), (some (35, true))⟩, []⟩,
   ⟨5, none, ⟨(some 37), (.mov (.t 0)), (some (35, true))⟩, []⟩,
   ⟨6, none, ⟨(some 38), (.mov (.t 12)), (some (35, true))⟩, []⟩,
   ⟨7, none, ⟨(some 39), (.iaddr 3 (.t 37) (.t 38)), (some (35, true))⟩, []⟩,
   ⟨8, none, ⟨(some 40), (.load (some 3) (.t 39)), (some (35, true))⟩, []⟩,
   ⟨9, none, ⟨(some 41), (.mov (.t 0)), (some (35, true))⟩, []⟩,
   ⟨10, none, ⟨(some 42), (.mov (.t 1)), (some (35, true))⟩, []⟩,
   ⟨11, none, ⟨(some 43), (.iaddr 3 (.t 41) (.t 42)), (some (35, true))⟩, []⟩,
   ⟨12, none, ⟨(some 44), (.load (some 3) (.t 43)), (some (35, true))⟩, []⟩,
   ⟨13, none, ⟨(some 45), (.dyn (.t 36) [(.t 40), (.t 44)]), (some (35, true))⟩, []⟩,
   ⟨14, none, ⟨(some 46), (.bin .lss .num (.t 45) (.c (.c (.int .i64 0)))), (some (35, true))⟩, []⟩,
   ⟨15, none, ⟨(some 47), (.pick (.t 35) (.t 46) (.c (.c (.bool false)))), none⟩, []⟩])
  (.seq (.kill [0, 1, 4, 12, 13, 47] 0) (.cond (.t 47)
  (.skip)
  (.exit 0))))
  (.seq (.kill [0, 1, 4, 12, 13] 0) (.block 1 (.region [
   ⟨(some 48), (.mov (.t 12)), none⟩,
   ⟨(some 49), (.bin .add .num (.t 48) (.c (.c (.int .i64 1)))), none⟩,
   ⟨(some 12), (.mov (.t 49)), none⟩])))))))
 (.seq (.kill [0, 1, 4, 12, 13] 0) (.seq (.block 2 (.loop (.seq (.kill [0, 1, 4, 12, 13] 0) (.seq (.seq (.draw 0 [
   ⟨0, none, ⟨(some 50), (.mov (.t 12)), none⟩, []⟩,
   ⟨1, none, ⟨(some 51), (.mov (.t 13)), none⟩, []⟩,
   ⟨2, none, ⟨(some 52), (.bin .leq .num (.t 50) (.t 51)), none⟩, []⟩,
   ⟨3, none, ⟨(some 53), (.mov (.t 52)), none⟩, []⟩,
   ⟨4, none, ⟨(some 54), (.mov (.t 4)), (some (53, true))⟩, []⟩,
   ⟨5, none, ⟨(some 55), (.mov (.t 0)), (some (53, true))⟩, []⟩,
   ⟨6, none, ⟨(some 56), (.mov (.t 13)), (some (53, true))⟩, []⟩,
   ⟨7, none, ⟨(some 57), (.iaddr 3 (.t 55) (.t 56)), (some (53, true))⟩, []⟩,
   ⟨8, none, ⟨(some 58), (.load (some 3) (.t 57)), (some (53, true))⟩, []⟩,
   ⟨9, none, ⟨(some 59), (.mov (.t 0)), (some (53, true))⟩, []⟩,
   ⟨10, none, ⟨(some 60), (.mov (.t 1)), (some (53, true))⟩, []⟩,
   ⟨11, none, ⟨(some 61), (.iaddr 3 (.t 59) (.t 60)), (some (53, true))⟩, []⟩,
   ⟨12, none, ⟨(some 62), (.load (some 3) (.t 61)), (some (53, true))⟩, []⟩,
   ⟨13, none, ⟨(some 63), (.dyn (.t 54) [(.t 58), (.t 62)]), (some (53, true))⟩, []⟩,
   ⟨14, none, ⟨(some 64), (.bin .lss .num (.t 63) (.c (.c (.int .i64 0)))), (some (53, true))⟩, []⟩,
   ⟨15, none, ⟨(some 65), (.un .not (.t 64)), (some (53, true))⟩, []⟩,
   ⟨16, none, ⟨(some 66), (.pick (.t 53) (.t 65) (.c (.c (.bool false)))), none⟩, []⟩])
  (.seq (.kill [0, 1, 4, 12, 13, 66] 0) (.cond (.t 66)
  (.skip)
  (.exit 2))))
  (.seq (.kill [0, 1, 4, 12, 13] 0) (.block 3 (.region [
   ⟨(some 67), (.mov (.t 13)), none⟩,
   ⟨(some 68), (.bin .sub .num (.t 67) (.c (.c (.int .i64 1)))), none⟩,
   ⟨(some 13), (.mov (.t 68)), none⟩])))))))
 (.seq (.kill [0, 1, 4, 12, 13] 0) (.seq (.seq (.region [
  ⟨(some 69), (.mov (.t 12)), none⟩,
  ⟨(some 70), (.mov (.t 13)), none⟩,
  ⟨(some 71), (.bin .gtr .num (.t 69) (.t 70)), none⟩])
 (.seq (.kill [0, 1, 4, 12, 13, 71] 0) (.cond (.t 71)
 (.seq (.draw 0 [
   ⟨0, none, ⟨(some 72), (.mov (.t 0)), none⟩, []⟩,
   ⟨1, none, ⟨(some 73), (.mov (.t 13)), none⟩, []⟩,
   ⟨2, none, ⟨(some 74), (.mov (.t 0)), none⟩, []⟩,
   ⟨3, none, ⟨(some 75), (.mov (.t 1)), none⟩, []⟩,
   ⟨4, none, ⟨(some 76), (.mov (.t 0)), none⟩, []⟩,
   ⟨5, none, ⟨(some 77), (.mov (.t 1)), none⟩, []⟩,
   ⟨6, none, ⟨(some 78), (.iaddr 3 (.t 76) (.t 77)), none⟩, []⟩,
   ⟨7, none, ⟨(some 79), (.load (some 3) (.t 78)), none⟩, []⟩,
   ⟨8, none, ⟨(some 80), (.mov (.t 0)), none⟩, []⟩,
   ⟨9, none, ⟨(some 81), (.mov (.t 13)), none⟩, []⟩,
   ⟨10, none, ⟨(some 82), (.iaddr 3 (.t 80) (.t 81)), none⟩, []⟩,
   ⟨11, none, ⟨(some 83), (.load (some 3) (.t 82)), none⟩, []⟩,
   ⟨12, none, ⟨(some 84), (.iaddr 3 (.t 72) (.t 73)), none⟩, []⟩,
   ⟨13, none, ⟨none, (.store 3 (.t 84) (.t 79)), none⟩, []⟩,
   ⟨14, none, ⟨(some 85), (.iaddr 3 (.t 74) (.t 75)), none⟩, []⟩,
   ⟨15, none, ⟨none, (.store 3 (.t 85) (.t 83)), none⟩, []⟩])
  (.seq (.kill [13] 0) (.seq (.region [
   ⟨(some 86), (.mov (.t 13)), none⟩,
   ⟨(some 10), (.mov (.t 86)), none⟩,
   ⟨(some 11), (.mov (.c (.c (.bool true)))), none⟩])
  (.ret))))
 (.skip))))
 (.seq (.kill [0, 1, 4, 12, 13] 0) (.seq (.draw 0 [
  ⟨0, none, ⟨(some 87), (.mov (.t 0)), none⟩, []⟩,
  ⟨1, none, ⟨(some 88), (.mov (.t 12)), none⟩, []⟩,
  ⟨2, none, ⟨(some 89), (.mov (.t 0)), none⟩, []⟩,
  ⟨3, none, ⟨(some 90), (.mov (.t 13)), none⟩, []⟩,
  ⟨4, none, ⟨(some 91), (.mov (.t 0)), none⟩, []⟩,
  ⟨5, none, ⟨(some 92), (.mov (.t 13)), none⟩, []⟩,
  ⟨6, none, ⟨(some 93), (.iaddr 3 (.t 91) (.t 92)), none⟩, []⟩,
  ⟨7, none, ⟨(some 94), (.load (some 3) (.t 93)), none⟩, []⟩,
  ⟨8, none, ⟨(some 95), (.mov (.t 0)), none⟩, []⟩,
  ⟨9, none, ⟨(some 96), (.mov (.t 12)), none⟩, []⟩,
  ⟨10, none, ⟨(some 97), (.iaddr 3 (.t 95) (.t 96)), none⟩, []⟩,
  ⟨11, none, ⟨(some 98), (.load (some 3) (.t 97)), none⟩, []⟩,
  ⟨12, none, ⟨(some 99), (.iaddr 3 (.t 87) (.t 88)), none⟩, []⟩,
  ⟨13, none, ⟨none, (.store 3 (.t 99) (.t 94)), none⟩, []⟩,
  ⟨14, none, ⟨(some 100), (.iaddr 3 (.t 89) (.t 90)), none⟩, []⟩,
  ⟨15, none, ⟨none, (.store 3 (.t 100) (.t 98)), none⟩, []⟩])
 (.seq (.kill [0, 1, 4, 12, 13] 0) (.seq (.region [
  ⟨(some 101), (.mov (.t 12)), none⟩,
  ⟨(some 102), (.bin .add .num (.t 101) (.c (.c (.int .i64 1)))), none⟩,
  ⟨(some 12), (.mov (.t 102)), none⟩])
 (.seq (.kill [0, 1, 4, 12, 13] 0) (.seq (.region [
  ⟨(some 103), (.mov (.t 13)), none⟩,
  ⟨(some 104), (.bin .sub .num (.t 103) (.c (.c (.int .i64 1)))), none⟩,
  ⟨(some 13), (.mov (.t 104)), none⟩])
 (.seq (.kill [0, 1, 4, 12, 13] 0) (.seq (.block 4 (.loop (.seq (.kill [0, 1, 4, 12, 13] 0) (.block 5 (.seq (.block 6 (.loop (.seq (.kill [0, 1, 4, 12, 13] 0) (.seq (.seq (.draw 0 [
    ⟨0, none, ⟨(some 105), (.mov (.t 12)), none⟩, []⟩,
    ⟨1, none, ⟨(some 106), (.mov (.t 13)), none⟩, []⟩,
    ⟨2, none, ⟨(some 107), (.bin .leq .num (.t 105) (.t 106)), none⟩, []⟩,
    ⟨3, none, ⟨(some 108), (.mov (.t 107)), none⟩, []⟩,
    ⟨4, none, ⟨(some 109), (.mov (.t 4)), (some (108, true))⟩, []⟩,
    ⟨5, none, ⟨(some 110), (.mov (.t 0)), (some (108, true))⟩, []⟩,
    ⟨6, none, ⟨(some 111), (.mov (.t 12)), (some (108, true))⟩, []⟩,
    ⟨7, none, ⟨(some 112), (.iaddr 3 (.t 110) (.t 111)), (some (108, true))⟩, []⟩,
    ⟨8, none, ⟨(some 113), (.load (some 3) (.t 112)), (some (108, true))⟩, []⟩,
    ⟨9, none, ⟨(some 114), (.mov (.t 0)), (some (108, true))⟩, []⟩,
    ⟨10, none, ⟨(some 115), (.mov (.t 1)), (some (108, true))⟩, []⟩,
    ⟨11, none, ⟨(some 116), (.iaddr 3 (.t 114) (.t 115)), (some (108, true))⟩, []⟩,
    ⟨12, none, ⟨(some 117), (.load (some 3) (.t 116)), (some (108, true))⟩, []⟩,
    ⟨13, none, ⟨(some 118), (.dyn (.t 109) [(.t 113), (.t 117)]), (some (108, true))⟩, []⟩,
    ⟨14, none, ⟨(some 119), (.bin .lss .num (.t 118) (.c (.c (.int .i64 0)))), (some (108, true))⟩, []⟩,
    ⟨15, none, ⟨(some 120), (.pick (.t 108) (.t 119) (.c (.c (.bool false)))), none⟩, []⟩])
   (.seq (.kill [0, 1, 4, 12, 13, 120] 0) (.cond (.t 120)
   (.skip)
   (.exit 6))))
   (.seq (.kill [0, 1, 4, 12, 13] 0) (.block 7 (.region [
    ⟨(some 121), (.mov (.t 12)), none⟩,
    ⟨(some 122), (.bin .add .num (.t 121) (.c (.c (.int .i64 1)))), none⟩,
    ⟨(some 12), (.mov (.t 122)), none⟩])))))))
  (.seq (.kill [0, 1, 4, 12, 13] 0) (.seq (.block 8 (.loop (.seq (.kill [0, 1, 4, 12, 13] 0) (.seq (.seq (.draw 0 [
    ⟨0, none, ⟨(some 123), (.mov (.t 12)), none⟩, []⟩,
    ⟨1, none, ⟨(some 124), (.mov (.t 13)), none⟩, []⟩,
    ⟨2, none, ⟨(some 125), (.bin .leq .num (.t 123) (.t 124)), none⟩, []⟩,
    ⟨3, none, ⟨(some 126), (.mov (.t 125)), none⟩, []⟩,
    ⟨4, none, ⟨(some 127), (.mov (.t 4)), (some (126, true))⟩, []⟩,
    ⟨5, none, ⟨(some 128), (.mov (.t 0)), (some (126, true))⟩, []⟩,
    ⟨6, none, ⟨(some 129), (.mov (.t 13)), (some (126, true))⟩, []⟩,
    ⟨7, none, ⟨(some 130), (.iaddr 3 (.t 128) (.t 129)), (some (126, true))⟩, []⟩,
    ⟨8, none, ⟨(some 131), (.load (some 3) (.t 130)), (some (126, true))⟩, []⟩,
    ⟨9, none, ⟨(some 132), (.mov (.t 0)), (some (126, true))⟩, []⟩,
    ⟨10, none, ⟨(some 133), (.mov (.t 1)), (some (126, true))⟩, []⟩,
    ⟨11, none, ⟨(some 134), (.iaddr 3 (.t 132) (.t 133)), (some (126, true))⟩, []⟩,
    ⟨12, none, ⟨(some 135), (.load (some 3) (.t 134)), (some (126, true))⟩, []⟩,
    ⟨13, none, ⟨(some 136), (.dyn (.t 127) [(.t 131), (.t 135)]), (some (126, true))⟩, []⟩,
    ⟨14, none, ⟨(some 137), (.bin .lss .num (.t 136) (.c (.c (.int .i64 0)))), (some (126, true))⟩, []⟩,
    ⟨15, none, ⟨(some 138), (.un .not (.t 137)), (some (126, true))⟩, []⟩,
    ⟨16, none, ⟨(some 139), (.pick (.t 126) (.t 138) (.c (.c (.bool false)))), none⟩, []⟩])
   (.seq (.kill [0, 1, 4, 12, 13, 139] 0) (.cond (.t 139)
   (.skip)
   (.exit 8))))
   (.seq (.kill [0, 1, 4, 12, 13] 0) (.block 9 (.region [
    ⟨(some 140), (.mov (.t 13)), none⟩,
    ⟨(some 141), (.bin .sub .num (.t 140) (.c (.c (.int .i64 1)))), none⟩,
    ⟨(some 13), (.mov (.t 141)), none⟩])))))))
  (.seq (.kill [0, 1, 4, 12, 13] 0) (.seq (.seq (.region [
   ⟨(some 142), (.mov (.t 12)), none⟩,
   ⟨(some 143), (.mov (.t 13)), none⟩,
   ⟨(some 144), (.bin .gtr .num (.t 142) (.t 143)), none⟩])
  (.seq (.kill [0, 1, 4, 12, 13, 144] 0) (.cond (.t 144)
  (.exit 4)
  (.skip))))
  (.seq (.kill [0, 1, 4, 12, 13] 0) (.seq (.draw 0 [
   ⟨0, none, ⟨(some 145), (.mov (.t 0)), none⟩, []⟩,
   ⟨1, none, ⟨(some 146), (.mov (.t 12)), none⟩, []⟩,
   ⟨2, none, ⟨(some 147), (.mov (.t 0)), none⟩, []⟩,
   ⟨3, none, ⟨(some 148), (.mov (.t 13)), none⟩, []⟩,
   ⟨4, none, ⟨(some 149), (.mov (.t 0)), none⟩, []⟩,
   ⟨5, none, ⟨(some 150), (.mov (.t 13)), none⟩, []⟩,
   ⟨6, none, ⟨(some 151), (.iaddr 3 (.t 149) (.t 150)), none⟩, []⟩,
   ⟨7, none, ⟨(some 152), (.load (some 3) (.t 151)), none⟩, []⟩,
   ⟨8, none, ⟨(some 153), (.mov (.t 0)), none⟩, []⟩,
   ⟨9, none, ⟨(some 154), (.mov (.t 12)), none⟩, []⟩,
   ⟨10, none, ⟨(some 155), (.iaddr 3 (.t 153) (.t 154)), none⟩, []⟩,
   ⟨11, none, ⟨(some 156), (.load (some 3) (.t 155)), none⟩, []⟩,
   ⟨12, none, ⟨(some 157), (.iaddr 3 (.t 145) (.t 146)), none⟩, []⟩,
   ⟨13, none, ⟨none, (.store 3 (.t 157) (.t 152)), none⟩, []⟩,
   ⟨14, none, ⟨(some 158), (.iaddr 3 (.t 147) (.t 148)), none⟩, []⟩,
   ⟨15, none, ⟨none, (.store 3 (.t 158) (.t 156)), none⟩, []⟩])
  (.seq (.kill [0, 1, 4, 12, 13] 0) (.seq (.region [
   ⟨(some 159), (.mov (.t 12)), none⟩,
   ⟨(some 160), (.bin .add .num (.t 159) (.c (.c (.int .i64 1)))), none⟩,
   ⟨(some 12), (.mov (.t 160)), none⟩])
  (.seq (.kill [0, 1, 4, 12, 13] 0) (.region [
   ⟨(some 161), (.mov (.t 13)), none⟩,
   ⟨(some 162), (.bin .sub .num (.t 161) (.c (.c (.int .i64 1)))), none⟩,
   ⟨(some 13), (.mov (.t 162)), none⟩])))))))))))))))
 (.seq (.kill [0, 1, 13] 0) (.seq (.draw 0 [
  ⟨0, none, ⟨(some 163), (.mov (.t 0)), none⟩, []⟩,
  ⟨1, none, ⟨(some 164), (.mov (.t 13)), none⟩, []⟩,
  ⟨2, none, ⟨(some 165), (.mov (.t 0)), none⟩, []⟩,
  ⟨3, none, ⟨(some 166), (.mov (.t 1)), none⟩, []⟩,
  ⟨4, none, ⟨(some 167), (.mov (.t 0)), none⟩, []⟩,
  ⟨5, none, ⟨(some 168), (.mov (.t 1)), none⟩, []⟩,
  ⟨6, none, ⟨(some 169), (.iaddr 3 (.t 167) (.t 168)), none⟩, []⟩,
  ⟨7, none, ⟨(some 170), (.load (some 3) (.t 169)), none⟩, []⟩,
  ⟨8, none, ⟨(some 171), (.mov (.t 0)), none⟩, []⟩,
  ⟨9, none, ⟨(some 172), (.mov (.t 13)), none⟩, []⟩,
  ⟨10, none, ⟨(some 173), (.iaddr 3 (.t 171) (.t 172)), none⟩, []⟩,
  ⟨11, none, ⟨(some 174), (.load (some 3) (.t 173)), none⟩, []⟩,
  ⟨12, none, ⟨(some 175), (.iaddr 3 (.t 163) (.t 164)), none⟩, []⟩,
  ⟨13, none, ⟨none, (.store 3 (.t 175) (.t 170)), none⟩, []⟩,
  ⟨14, none, ⟨(some 176), (.iaddr 3 (.t 165) (.t 166)), none⟩, []⟩,
  ⟨15, none, ⟨none, (.store 3 (.t 176) (.t 174)), none⟩, []⟩])
 (.seq (.kill [13] 0) (.seq (.region [
  ⟨(some 177), (.mov (.t 13)), none⟩,
  ⟨(some 10), (.mov (.t 177)), none⟩,
  ⟨(some 11), (.mov (.c (.c (.bool false)))), none⟩])
 (.ret)))))))))))))))))))))))⟩
/-- cmp.isNaN[int] -/
def n47 : NF := ⟨6, [2],
 .seq (.region [
  ⟨(some 2), (.mov (.c (.c (.bool false)))), none⟩])
 (.seq (.kill [0] 0) (.seq (.region [
  ⟨(some 3), (.mov (.t 0)), none⟩,
  ⟨(some 4), (.mov (.t 0)), none⟩,
  ⟨(some 5), (.bin .neq .num (.t 3) (.t 4)), none⟩,
  ⟨(some 2), (.mov (.t 5)), none⟩])
 (.ret)))⟩
/-- slices.siftDownOrdered[int] -/
def n107 : NF := ⟨76, [],
 .seq (.region [
  ⟨(some 10), (.mov (.t 1)), none⟩,
  ⟨(some 8), (.mov (.t 10)), none⟩])
 (.seq (.kill [0, 2, 3, 8] 0) (.block 0 (.loop (.seq (.kill [0, 2, 3, 8] 0) (.block 1 (.seq (.region [
   ⟨(some 11), (.mov (.t 8)), none⟩,
   ⟨(some 12), (.bin .mul .num (.c (.c (.int .i64 2))) (.t 11)), none⟩,
   ⟨(some 13), (.bin .add .num (.t 12) (.c (.c (.int .i64 1)))), none⟩,
   ⟨(some 9), (.mov (.t 13)), none⟩])
  (.seq (.kill [0, 2, 3, 8, 9] 0) (.seq (.seq (.region [
   ⟨(some 14), (.mov (.t 9)), none⟩,
   ⟨(some 15), (.mov (.t 2)), none⟩,
   ⟨(some 16), (.bin .geq .num (.t 14) (.t 15)), none⟩])
  (.seq (.kill [0, 2, 3, 8, 9, 16] 0) (.cond (.t 16)
  (.exit 0)
  (.skip))))
  (.seq (.kill [0, 2, 3, 8, 9] 0) (.seq (.seq (.draw 0 [
   ⟨0, none, ⟨(some 17), (.mov (.t 9)), none⟩, []⟩,
   ⟨1, none, ⟨(some 18), (.bin .add .num (.t 17) (.c (.c (.int .i64 1)))), none⟩, []⟩,
   ⟨2, none, ⟨(some 19), (.mov (.t 2)), none⟩, []⟩,
   ⟨3, none, ⟨(some 20), (.bin .lss .num (.t 18) (.t 19)), none⟩, []⟩,
   ⟨4, none, ⟨(some 21), (.mov (.t 20)), none⟩, []⟩,
   ⟨5, none, ⟨(some 22), (.mov (.t 0)), (some (21, true))⟩, []⟩,
   ⟨6, none, ⟨(some 23), (.mov (.t 3)), (some (21, true))⟩, []⟩,
   ⟨7, none, ⟨(some 24), (.mov (.t 9)), (some (21, true))⟩, []⟩,
   ⟨8, none, ⟨(some 25), (.bin .add .num (.t 23) (.t 24)), (some (21, true))⟩, []⟩,
   ⟨9, none, ⟨(some 26), (.iaddr 1 (.t 22) (.t 25)), (some (21, true))⟩, []⟩,
   ⟨10, none, ⟨(some 27), (.load none (.t 26)), (some (21, true))⟩, []⟩,
   ⟨11, none, ⟨(some 28), (.mov (.t 0)), (some (21, true))⟩, []⟩,
   ⟨12, none, ⟨(some 29), (.mov (.t 3)), (some (21, true))⟩, []⟩,
   ⟨13, none, ⟨(some 30), (.mov (.t 9)), (some (21, true))⟩, []⟩,
   ⟨14, none, ⟨(some 31), (.bin .add .num (.t 29) (.t 30)), (some (21, true))⟩, []⟩,
   ⟨15, none, ⟨(some 32), (.bin .add .num (.t 31) (.c (.c (.int .i64 1)))), (some (21, true))⟩, []⟩,
   ⟨16, none, ⟨(some 33), (.iaddr 1 (.t 28) (.t 32)), (some (21, true))⟩, []⟩,
   ⟨17, none, ⟨(some 34), (.load none (.t 33)), (some (21, true))⟩, []⟩,
   ⟨18, none, ⟨(some 35), (.call 93 [(.t 27), (.t 34)]), (some (21, true))⟩, []⟩,
   ⟨19, none, ⟨(some 36), (.pick (.t 21) (.t 35) (.c (.c (.bool false)))), none⟩, []⟩])
  (.seq (.kill [0, 2, 3, 8, 9, 36] 0) (.cond (.t 36)
  (.region [
    ⟨(some 37), (.mov (.t 9)), none⟩,
    ⟨(some 38), (.bin .add .num (.t 37) (.c (.c (.int .i64 1)))), none⟩,
    ⟨(some 9), (.mov (.t 38)), none⟩])
  (.skip))))
  (.seq (.kill [0, 2, 3, 8, 9] 0) (.seq (.seq (.draw 0 [
   ⟨0, none, ⟨(some 39), (.mov (.t 0)), none⟩, []⟩,
   ⟨1, none, ⟨(some 40), (.mov (.t 3)), none⟩, []⟩,
   ⟨2, none, ⟨(some 41), (.mov (.t 8)), none⟩, []⟩,
   ⟨3, none, ⟨(some 42), (.bin .add .num (.t 40) (.t 41)), none⟩, []⟩,
   ⟨4, none, ⟨(some 43), (.iaddr 1 (.t 39) (.t 42)), none⟩, []⟩,
   ⟨5, none, ⟨(some 44), (.load none (.t 43)), none⟩, []⟩,
   ⟨6, none, ⟨(some 45), (.mov (.t 0)), none⟩, []⟩,
   ⟨7, none, ⟨(some 46), (.mov (.t 3)), none⟩, []⟩,
   ⟨8, none, ⟨(some 47), (.mov (.t 9)), none⟩, []⟩,
   ⟨9, none, ⟨(some 48), (.bin .add .num (.t 46) (.t 47)), none⟩, []⟩,
   ⟨10, none, ⟨(some 49), (.iaddr 1 (.t 45) (.t 48)), none⟩, []⟩,
   ⟨11, none, ⟨(some 50), (.load none (.t 49)), none⟩, []⟩,
   ⟨12, none, ⟨(some 51), (.call 93 [(.t 44), (.t 50)]), none⟩, []⟩,
   ⟨13, none, ⟨(some 52), (.un .not (.t 51)), none⟩, []⟩])
  (.seq (.kill [0, 2, 3, 8, 9, 52] 0) (.cond (.t 52)
  (.ret)
  (.skip))))
  (.seq (.kill [0, 2, 3, 8, 9] 0) (.seq (.draw 0 [
   ⟨0, none, ⟨(some 53), (.mov (.t 0)), none⟩, []⟩,
   ⟨1, none, ⟨(some 54), (.mov (.t 3)), none⟩, []⟩,
   ⟨2, none, ⟨(some 55), (.mov (.t 8)), none⟩, []⟩,
   ⟨3, none, ⟨(some 56), (.bin .add .num (.t 54) (.t 55)), none⟩, []⟩,
   ⟨4, none, ⟨(some 57), (.mov (.t 0)), none⟩, []⟩,
   ⟨5, none, ⟨(some 58), (.mov (.t 3)), none⟩, []⟩,
   ⟨6, none, ⟨(some 59), (.mov (.t 9)), none⟩, []⟩,
   ⟨7, none, ⟨(some 60), (.bin .add .num (.t 58) (.t 59)), none⟩, []⟩,
   ⟨8, none, ⟨(some 61), (.mov (.t 0)), none⟩, []⟩,
   ⟨9, none, ⟨(some 62), (.mov (.t 3)), none⟩, []⟩,
   ⟨10, none, ⟨(some 63), (.mov (.t 9)), none⟩, []⟩,
   ⟨11, none, ⟨(some 64), (.bin .add .num (.t 62) (.t 63)), none⟩, []⟩,
   ⟨12, none, ⟨(some 65), (.iaddr 1 (.t 61) (.t 64)), none⟩, []⟩,
   ⟨13, none, ⟨(some 66), (.load none (.t 65)), none⟩, []⟩,
   ⟨14, none, ⟨(some 67), (.mov (.t 0)), none⟩, []⟩,
   ⟨15, none, ⟨(some 68), (.mov (.t 3)), none⟩, []⟩,
   ⟨16, none, ⟨(some 69), (.mov (.t 8)), none⟩, []⟩,
   ⟨17, none, ⟨(some 70), (.bin .add .num (.t 68) (.t 69)), none⟩, []⟩,
   ⟨18, none, ⟨(some 71), (.iaddr 1 (.t 67) (.t 70)), none⟩, []⟩,
   ⟨19, none, ⟨(some 72), (.load none (.t 71)), none⟩, []⟩,
   ⟨20, none, ⟨(some 73), (.iaddr 1 (.t 53) (.t 56)), none⟩, []⟩,
   ⟨21, none, ⟨none, (.store 1 (.t 73) (.t 66)), none⟩, []⟩,
   ⟨22, none, ⟨(some 74), (.iaddr 1 (.t 57) (.t 60)), none⟩, []⟩,
   ⟨23, none, ⟨none, (.store 1 (.t 74) (.t 72)), none⟩, []⟩])
  (.seq (.kill [0, 2, 3, 9] 0) (.region [
   ⟨(some 75), (.mov (.t 9)), none⟩,
   ⟨(some 8), (.mov (.t 75)), none⟩]))))))))))))))))⟩
/-- slices.nextPowerOfTwo -/
def n108 : NF := ⟨7, [2],
 .seq (.region [
  ⟨(some 2), (.mov (.c (.c (.int .u64 0)))), none⟩])
 (.seq (.kill [0] 0) (.seq (.region [
  ⟨(some 3), (.mov (.t 0)), none⟩,
  ⟨(some 4), (.conv (.toInt .u64) (.t 3)), none⟩,
  ⟨(some 5), (.call 82 [(.t 4)]), none⟩,
  ⟨(some 6), (.bin .shl .num (.c (.c (.int .u64 1))) (.t 5)), none⟩,
  ⟨(some 2), (.mov (.t 6)), none⟩])
 (.ret)))⟩
/-- (*slices.xorshift).Next -/
def n109 : NF := ⟨33, [2],
 .seq (.region [
  ⟨(some 2), (.mov (.c (.c (.int .u64 0)))), none⟩])
 (.seq (.kill [0] 0) (.seq (.draw 0 [
  ⟨0, none, ⟨(some 3), (.mov (.t 0)), none⟩, []⟩,
  ⟨1, none, ⟨(some 4), (.nilck (.t 3)), none⟩, []⟩,
  ⟨2, none, ⟨(some 5), (.load none (.t 4)), none⟩, []⟩,
  ⟨3, none, ⟨(some 6), (.mov (.t 0)), none⟩, []⟩,
  ⟨4, none, ⟨(some 7), (.nilck (.t 6)), none⟩, []⟩,
  ⟨5, none, ⟨(some 8), (.load none (.t 7)), none⟩, []⟩,
  ⟨6, none, ⟨(some 9), (.bin .shl .num (.t 8) (.c (.c (.int .u64 13)))), none⟩, []⟩,
  ⟨7, none, ⟨(some 10), (.bin .xor .num (.t 5) (.t 9)), none⟩, []⟩,
  ⟨8, none, ⟨(some 11), (.nilck (.t 3)), none⟩, []⟩,
  ⟨9, none, ⟨none, (.store 1 (.t 11) (.t 10)), none⟩, []⟩])
 (.seq (.kill [0] 0) (.seq (.draw 0 [
  ⟨0, none, ⟨(some 12), (.mov (.t 0)), none⟩, []⟩,
  ⟨1, none, ⟨(some 13), (.nilck (.t 12)), none⟩, []⟩,
  ⟨2, none, ⟨(some 14), (.load none (.t 13)), none⟩, []⟩,
  ⟨3, none, ⟨(some 15), (.mov (.t 0)), none⟩, []⟩,
  ⟨4, none, ⟨(some 16), (.nilck (.t 15)), none⟩, []⟩,
  ⟨5, none, ⟨(some 17), (.load none (.t 16)), none⟩, []⟩,
  ⟨6, none, ⟨(some 18), (.bin .shr .num (.t 17) (.c (.c (.int .u64 7)))), none⟩, []⟩,
  ⟨7, none, ⟨(some 19), (.bin .xor .num (.t 14) (.t 18)), none⟩, []⟩,
  ⟨8, none, ⟨(some 20), (.nilck (.t 12)), none⟩, []⟩,
  ⟨9, none, ⟨none, (.store 1 (.t 20) (.t 19)), none⟩, []⟩])
 (.seq (.kill [0] 0) (.seq (.draw 0 [
  ⟨0, none, ⟨(some 21), (.mov (.t 0)), none⟩, []⟩,
  ⟨1, none, ⟨(some 22), (.nilck (.t 21)), none⟩, []⟩,
  ⟨2, none, ⟨(some 23), (.load none (.t 22)), none⟩, []⟩,
  ⟨3, none, ⟨(some 24), (.mov (.t 0)), none⟩, []⟩,
  ⟨4, none, ⟨(some 25), (.nilck (.t 24)), none⟩, []⟩,
  ⟨5, none, ⟨(some 26), (.load none (.t 25)), none⟩, []⟩,
  ⟨6, none, ⟨(some 27), (.bin .shl .num (.t 26) (.c (.c (.int .u64 17)))), none⟩, []⟩,
  ⟨7, none, ⟨(some 28), (.bin .xor .num (.t 23) (.t 27)), none⟩, []⟩,
  ⟨8, none, ⟨(some 29), (.nilck (.t 21)), none⟩, []⟩,
  ⟨9, none, ⟨none, (.store 1 (.t 29) (.t 28)), none⟩, []⟩])
 (.seq (.kill [0] 0) (.seq (.region [
  ⟨(some 30), (.mov (.t 0)), none⟩,
  ⟨(some 31), (.nilck (.t 30)), none⟩,
  ⟨(some 32), (.load none (.t 31)), none⟩,
  ⟨(some 2), (.mov (.t 32)), none⟩])
 (.ret)))))))))⟩
/-- slices.medianAdjacentOrdered[int] -/
def n110 : NF := ⟨15, [6],
 .seq (.region [
  ⟨(some 6), (.mov (.c (.c (.int .i64 0)))), none⟩])
 (.seq (.kill [0, 1, 2] 0) (.seq (.region [
  ⟨(some 7), (.mov (.t 0)), none⟩,
  ⟨(some 8), (.mov (.t 1)), none⟩,
  ⟨(some 9), (.bin .sub .num (.t 8) (.c (.c (.int .i64 1)))), none⟩,
  ⟨(some 10), (.mov (.t 1)), none⟩,
  ⟨(some 11), (.mov (.t 1)), none⟩,
  ⟨(some 12), (.bin .add .num (.t 11) (.c (.c (.int .i64 1)))), none⟩,
  ⟨(some 13), (.mov (.t 2)), none⟩,
  ⟨(some 14), (.call 111 [(.t 7), (.t 9), (.t 10), (.t 12), (.t 13)]), none⟩,
  ⟨(some 6), (.mov (.t 14)), none⟩])
 (.ret)))⟩
/-- slices.medianOrdered[int] -/
def n111 : NF := ⟨36, [10],
 .seq (.region [
  ⟨(some 10), (.mov (.c (.c (.int .i64 0)))), none⟩])
 (.seq (.kill [0, 1, 2, 3, 4] 0) (.seq (.region [
  ⟨(some 12), (.mov (.t 0)), none⟩,
  ⟨(some 13), (.mov (.t 1)), none⟩,
  ⟨(some 14), (.mov (.t 2)), none⟩,
  ⟨(some 15), (.mov (.t 4)), none⟩,
  ⟨(some 16), (.call 115 [(.t 12), (.t 13), (.t 14), (.t 15)]), none⟩,
  ⟨(some 11), (.mov (.t 16)), none⟩,
  ⟨(some 17), (.ext (.t 11) 0), none⟩,
  ⟨(some 18), (.ext (.t 11) 1), none⟩,
  ⟨(some 1), (.mov (.t 17)), none⟩,
  ⟨(some 2), (.mov (.t 18)), none⟩])
 (.seq (.kill [0, 1, 2, 3, 4] 0) (.seq (.region [
  ⟨(some 20), (.mov (.t 0)), none⟩,
  ⟨(some 21), (.mov (.t 2)), none⟩,
  ⟨(some 22), (.mov (.t 3)), none⟩,
  ⟨(some 23), (.mov (.t 4)), none⟩,
  ⟨(some 24), (.call 115 [(.t 20), (.t 21), (.t 22), (.t 23)]), none⟩,
  ⟨(some 19), (.mov (.t 24)), none⟩,
  ⟨(some 25), (.ext (.t 19) 0), none⟩,
  ⟨(some 26), (.ext (.t 19) 1), none⟩,
  ⟨(some 2), (.mov (.t 25)), none⟩,
  ⟨(some 3), (.mov (.t 26)), none⟩])
 (.seq (.kill [0, 1, 2, 4] 0) (.seq (.region [
  ⟨(some 28), (.mov (.t 0)), none⟩,
  ⟨(some 29), (.mov (.t 1)), none⟩,
  ⟨(some 30), (.mov (.t 2)), none⟩,
  ⟨(some 31), (.mov (.t 4)), none⟩,
  ⟨(some 32), (.call 115 [(.t 28), (.t 29), (.t 30), (.t 31)]), none⟩,
  ⟨(some 27), (.mov (.t 32)), none⟩,
  ⟨(some 33), (.ext (.t 27) 0), none⟩,
  ⟨(some 34), (.ext (.t 27) 1), none⟩,
  ⟨(some 1), (.mov (.t 33)), none⟩,
  ⟨(some 2), (.mov (.t 34)), none⟩])
 (.seq (.kill [2] 0) (.seq (.region [
  ⟨(some 35), (.mov (.t 2)), none⟩,
  ⟨(some 10), (.mov (.t 35)), none⟩])
 (.ret)))))))))⟩
/-- slices.siftDownCmpFunc[campanile/parents.parent] -/
def n112 : NF := ⟨82, [],
 .seq (.region [
  ⟨(some 12), (.mov (.t 1)), none⟩,
  ⟨(some 10), (.mov (.t 12)), none⟩])
 (.seq (.kill [0, 2, 3, 4, 10] 0) (.block 0 (.loop (.seq (.kill [0, 2, 3, 4, 10] 0) (.block 1 (.seq (.region [
   ⟨(some 13), (.mov (.t 10)), none⟩,
   ⟨(some 14), (.bin .mul .num (.c (.c (.int .i64 2))) (.t 13)), none⟩,
   ⟨(some 15), (.bin .add .num (.t 14) (.c (.c (.int .i64 1)))), none⟩,
   ⟨(some 11), (.mov (.t 15)), none⟩])
  (.seq (.kill [0, 2, 3, 4, 10, 11] 0) (.seq (.seq (.region [
   ⟨(some 16), (.mov (.t 11)), none⟩,
   ⟨(some 17), (.mov (.t 2)), none⟩,
   ⟨(some 18), (.bin .geq .num (.t 16) (.t 17)), none⟩])
  (.seq (.kill [0, 2, 3, 4, 10, 11, 18] 0) (.cond (.t 18)
  (.exit 0)
  (.skip))))
  (.seq (.kill [0, 2, 3, 4, 10, 11] 0) (.seq (.seq (.draw 0 [
   ⟨0, none, ⟨(some 19), (.mov (.t 11)), none⟩, []⟩,
   ⟨1, none, ⟨(some 20), (.bin .add .num (.t 19) (.c (.c (.int .i64 1)))), none⟩, []⟩,
   ⟨2, none, ⟨(some 21), (.mov (.t 2)), none⟩, []⟩,
   ⟨3, none, ⟨(some 22), (.bin .lss .num (.t 20) (.t 21)), none⟩, []⟩,
   ⟨4, none, ⟨(some 23), (.mov (.t 22)), none⟩, []⟩,
   ⟨5, none, ⟨(some 24), (.mov (.t 4)), (some (23, true))⟩, []⟩,
   ⟨6, none, ⟨(some 25), (.mov (.t 0)), (some (23, true))⟩, []⟩,
   ⟨7, none, ⟨(some 26), (.mov (.t 3)), (some (23, true))⟩, []⟩,
   ⟨8, none, ⟨(some 27), (.mov (.t 11)), (some (23, true))⟩, []⟩,
   ⟨9, none, ⟨(some 28), (.bin .add .num (.t 26) (.t 27)), (some (23, true))⟩, []⟩,
   ⟨10, none, ⟨(some 29), (.iaddr 3 (.t 25) (.t 28)), (some (23, true))⟩, []⟩,
   ⟨11, none, ⟨(some 30), (.load (some 3) (.t 29)), (some (23, true))⟩, []⟩,
   ⟨12, none, ⟨(some 31), (.mov (.t 0)), (some (23, true))⟩, []⟩,
   ⟨13, none, ⟨(some 32), (.mov (.t 3)), (some (23, true))⟩, []⟩,
   ⟨14, none, ⟨(some 33), (.mov (.t 11)), (some (23, true))⟩, []⟩,
   ⟨15, none, ⟨(some 34), (.bin .add .num (.t 32) (.t 33)), (some (23, true))⟩, []⟩,
   ⟨16, none, ⟨(some 35), (.bin .add .num (.t 34) (.c (.c (.int .i64 1)))), (some (23, true))⟩, []⟩,
   ⟨17, none, ⟨(some 36), (.iaddr 3 (.t 31) (.t 35)), (some (23, true))⟩, []⟩,
   ⟨18, none, ⟨(some 37), (.load (some 3) (.t 36)), (some (23, true))⟩, []⟩,
   ⟨19, none, ⟨(some 38), (.dyn (.t 24) [(.t 30), (.t 37)]), (some (23, true))⟩, []⟩,
   ⟨20, none, ⟨(some 39), (.bin .lss .num (.t 38) (.c (.c (.int .i64 0)))), (some (23, true))⟩, []⟩,
   ⟨21, none, ⟨(some 40), (.pick (.t 23) (.t 39) (.c (.c (.bool false)))), none⟩, []⟩])
  (.seq (.kill [0, 2, 3, 4, 10, 11, 40] 0) (.cond (.t 40)
  (.region [
    ⟨(some 41), (.mov (.t 11)), none⟩,
    ⟨(some 42), (.bin .add .num (.t 41) (.c (.c (.int .i64 1)))), none⟩,
    ⟨(some 11), (.mov (.t 42)), none⟩])
  (.skip))))
  (.seq (.kill [0, 2, 3, 4, 10, 11] 0) (.seq (.seq (.draw 0 [
   ⟨0, none, ⟨(some 43), (.mov (.t 4)), none⟩, []⟩,
   ⟨1, none, ⟨(some 44), (.mov (.t 0)), none⟩, []⟩,
   ⟨2, none, ⟨(some 45), (.mov (.t 3)), none⟩, []⟩,
   ⟨3, none, ⟨(some 46), (.mov (.t 10)), none⟩, []⟩,
   ⟨4, none, ⟨(some 47), (.bin .add .num (.t 45) (.t 46)), none⟩, []⟩,
   ⟨5, none, ⟨(some 48), (.iaddr 3 (.t 44) (.t 47)), none⟩, []⟩,
   ⟨6, none, ⟨(some 49), (.load (some 3) (.t 48)), none⟩, []⟩,
   ⟨7, none, ⟨(some 50), (.mov (.t 0)), none⟩, []⟩,
   ⟨8, none, ⟨(some 51), (.mov (.t 3)), none⟩, []⟩,
   ⟨9, none, ⟨(some 52), (.mov (.t 11)), none⟩, []⟩,
   ⟨10, none, ⟨(some 53), (.bin .add .num (.t 51) (.t 52)), none⟩, []⟩,
   ⟨11, none, ⟨(some 54), (.iaddr 3 (.t 50) (.t 53)), none⟩, []⟩,
   ⟨12, none, ⟨(some 55), (.load (some 3) (.t 54)), none⟩, []⟩,
   ⟨13, none, ⟨(some 56), (.dyn (.t 43) [(.t 49), (.t 55)]), none⟩, []⟩,
   ⟨14, none, ⟨(some 57), (.bin .lss .num (.t 56) (.c (.c (.int .i64 0)))), none⟩, []⟩,
   ⟨15, none, ⟨(some 58), (.un .not (.t 57)), none⟩, []⟩])
  (.seq (.kill [0, 2, 3, 4, 10, 11, 58] 0) (.cond (.t 58)
  (.ret)
  (.skip))))
  (.seq (.kill [0, 2, 3, 4, 10, 11] 0) (.seq (.draw 0 [
   ⟨0, none, ⟨(some 59), (.mov (.t 0)), none⟩, []⟩,
   ⟨1, none, ⟨(some 60), (.mov (.t 3)), none⟩, []⟩,
   ⟨2, none, ⟨(some 61), (.mov (.t 10)), none⟩, []⟩,
   ⟨3, none, ⟨(some 62), (.bin .add .num (.t 60) (.t 61)), none⟩, []⟩,
   ⟨4, none, ⟨(some 63), (.mov (.t 0)), none⟩, []⟩,
   ⟨5, none, ⟨(some 64), (.mov (.t 3)), none⟩, []⟩,
   ⟨6, none, ⟨(some 65), (.mov (.t 11)), none⟩, []⟩,
   ⟨7, none, ⟨(some 66), (.bin .add .num (.t 64) (.t 65)), none⟩, []⟩,
   ⟨8, none, ⟨(some 67), (.mov (.t 0)), none⟩, []⟩,
   ⟨9, none, ⟨(some 68), (.mov (.t 3)), none⟩, []⟩,
   ⟨10, none, ⟨(some 69), (.mov (.t 11)), none⟩, []⟩,
   ⟨11, none, ⟨(some 70), (.bin .add .num (.t 68) (.t 69)), none⟩, []⟩,
   ⟨12, none, ⟨(some 71), (.iaddr 3 (.t 67) (.t 70)), none⟩, []⟩,
   ⟨13, none, ⟨(some 72), (.load (some 3) (.t 71)), none⟩, []⟩,
   ⟨14, none, ⟨(some 73), (.mov (.t 0)), none⟩, []⟩,
   ⟨15, none, ⟨(some 74), (.mov (.t 3)), none⟩, []⟩,
   ⟨16, none, ⟨(some 75), (.mov (.t 10)), none⟩, []⟩,
   ⟨17, none, ⟨(some 76), (.bin .add .num (.t 74) (.t 75)), none⟩, []⟩,
   ⟨18, none, ⟨(some 77), (.iaddr 3 (.t 73) (.t 76)), none⟩, []⟩,
   ⟨19, none, ⟨(some 78), (.load (some 3) (.t 77)), none⟩, []⟩,
   ⟨20, none, ⟨(some 79), (.iaddr 3 (.t 59) (.t 62)), none⟩, []⟩,
   ⟨21, none, ⟨none, (.store 3 (.t 79) (.t 72)), none⟩, []⟩,
   ⟨22, none, ⟨(some 80), (.iaddr 3 (.t 63) (.t 66)), none⟩, []⟩,
   ⟨23, none, ⟨none, (.store 3 (.t 80) (.t 78)), none⟩, []⟩])
  (.seq (.kill [0, 2, 3, 4, 11] 0) (.region [
   ⟨(some 81), (.mov (.t 11)), none⟩,
   ⟨(some 10), (.mov (.t 81)), none⟩]))))))))))))))))⟩
/-- slices.medianAdjacentCmpFunc[campanile/parents.parent] -/
def n113 : NF := ⟨18, [8],
 .seq (.region [
  ⟨(some 8), (.mov (.c (.c (.int .i64 0)))), none⟩])
 (.seq (.kill [0, 1, 2, 3] 0) (.seq (.region [
  ⟨(some 9), (.mov (.t 0)), none⟩,
  ⟨(some 10), (.mov (.t 1)), none⟩,
  ⟨(some 11), (.bin .sub .num (.t 10) (.c (.c (.int .i64 1)))), none⟩,
  ⟨(some 12), (.mov (.t 1)), none⟩,
  ⟨(some 13), (.mov (.t 1)), none⟩,
  ⟨(some 14), (.bin .add .num (.t 13) (.c (.c (.int .i64 1)))), none⟩,
  ⟨(some 15), (.mov (.t 2)), none⟩,
  ⟨(some 16), (.mov (.t 3)), none⟩,
  ⟨(some 17), (.call 114 [(.t 9), (.t 11), (.t 12), (.t 14), (.t 15), (.t 16)]), none⟩,
  ⟨(some 8), (.mov (.t 17)), none⟩])
 (.ret)))⟩
/-- slices.medianCmpFunc[campanile/parents.parent] -/
def n114 : NF := ⟨41, [12],
 .seq (.region [
  ⟨(some 12), (.mov (.c (.c (.int .i64 0)))), none⟩])
 (.seq (.kill [0, 1, 2, 3, 4, 5] 0) (.seq (.region [
  ⟨(some 14), (.mov (.t 0)), none⟩,
  ⟨(some 15), (.mov (.t 1)), none⟩,
  ⟨(some 16), (.mov (.t 2)), none⟩,
  ⟨(some 17), (.mov (.t 4)), none⟩,
  ⟨(some 18), (.mov (.t 5)), none⟩,
  ⟨(some 19), (.call 116 [(.t 14), (.t 15), (.t 16), (.t 17), (.t 18)]), none⟩,
  ⟨(some 13), (.mov (.t 19)), none⟩,
  ⟨(some 20), (.ext (.t 13) 0), none⟩,
  ⟨(some 21), (.ext (.t 13) 1), none⟩,
  ⟨(some 1), (.mov (.t 20)), none⟩,
  ⟨(some 2), (.mov (.t 21)), none⟩])
 (.seq (.kill [0, 1, 2, 3, 4, 5] 0) (.seq (.region [
  ⟨(some 23), (.mov (.t 0)), none⟩,
  ⟨(some 24), (.mov (.t 2)), none⟩,
  ⟨(some 25), (.mov (.t 3)), none⟩,
  ⟨(some 26), (.mov (.t 4)), none⟩,
  ⟨(some 27), (.mov (.t 5)), none⟩,
  ⟨(some 28), (.call 116 [(.t 23), (.t 24), (.t 25), (.t 26), (.t 27)]), none⟩,
  ⟨(some 22), (.mov (.t 28)), none⟩,
  ⟨(some 29), (.ext (.t 22) 0), none⟩,
  ⟨(some 30), (.ext (.t 22) 1), none⟩,
  ⟨(some 2), (.mov (.t 29)), none⟩,
  ⟨(some 3), (.mov (.t 30)), none⟩])
 (.seq (.kill [0, 1, 2, 4, 5] 0) (.seq (.region [
  ⟨(some 32), (.mov (.t 0)), none⟩,
  ⟨(some 33), (.mov (.t 1)), none⟩,
  ⟨(some 34), (.mov (.t 2)), none⟩,
  ⟨(some 35), (.mov (.t 4)), none⟩,
  ⟨(some 36), (.mov (.t 5)), none⟩,
  ⟨(some 37), (.call 116 [(.t 32), (.t 33), (.t 34), (.t 35), (.t 36)]), none⟩,
  ⟨(some 31), (.mov (.t 37)), none⟩,
  ⟨(some 38), (.ext (.t 31) 0), none⟩,
  ⟨(some 39), (.ext (.t 31) 1), none⟩,
  ⟨(some 1), (.mov (.t 38)), none⟩,
  ⟨(some 2), (.mov (.t 39)), none⟩])
 (.seq (.kill [2] 0) (.seq (.region [
  ⟨(some 40), (.mov (.t 2)), none⟩,
  ⟨(some 12), (.mov (.t 40)), none⟩])
 (.ret)))))))))⟩
/-- slices.order2Ordered[int] -/
def n115 : NF := ⟨28, [8, 9],
 .seq (.region [
  ⟨(some 8), (.mov (.c (.c (.int .i64 0)))), none⟩,
  ⟨(some 9), (.mov (.c (.c (.int .i64 0)))), none⟩])
 (.seq (.kill [0, 1, 2, 3] 0) (.seq (.seq (.draw 0 [
  ⟨0, none, ⟨(some 10), (.mov (.t 0)), none⟩, []⟩,
  ⟨1, none, ⟨(some 11), (.mov (.t 2)), none⟩, []⟩,
  ⟨2, none, ⟨(some 12), (.iaddr 1 (.t 10) (.t 11)), none⟩, []⟩,
  ⟨3, none, ⟨(some 13), (.load none (.t 12)), none⟩, []⟩,
  ⟨4, none, ⟨(some 14), (.mov (.t 0)), none⟩, []⟩,
  ⟨5, none, ⟨(some 15), (.mov (.t 1)), none⟩, []⟩,
  ⟨6, none, ⟨(some 16), (.iaddr 1 (.t 14) (.t 15)), none⟩, []⟩,
  ⟨7, none, ⟨(some 17), (.load none (.t 16)), none⟩, []⟩,
  ⟨8, none, ⟨(some 18), (.call 93 [(.t 13), (.t 17)]), none⟩, []⟩])
 (.seq (.kill [1, 2, 3, 18] 0) (.cond (.t 18)
 (.seq (.region [
   ⟨(some 19), (.mov (.t 3)), none⟩,
   ⟨(some 20), (.nilck (.t 19)), none⟩,
   ⟨(some 21), (.load none (.t 20)), none⟩,
   ⟨(some 22), (.bin .add .num (.t 21) (.c (.c (.int .i64 1)))), none⟩,
   ⟨(some 23), (.nilck (.t 19)), none⟩,
   ⟨none, (.store 1 (.t 23) (.t 22)), none⟩])
  (.seq (.kill [1, 2] 0) (.seq (.region [
   ⟨(some 24), (.mov (.t 2)), none⟩,
   ⟨(some 25), (.mov (.t 1)), none⟩,
   ⟨(some 8), (.mov (.t 24)), none⟩,
   ⟨(some 9), (.mov (.t 25)), none⟩])
  (.ret))))
 (.skip))))
 (.seq (.kill [1, 2] 0) (.seq (.region [
  ⟨(some 26), (.mov (.t 1)), none⟩,
  ⟨(some 27), (.mov (.t 2)), none⟩,
  ⟨(some 8), (.mov (.t 26)), none⟩,
  ⟨(some 9), (.mov (.t 27)), none⟩])
 (.ret)))))⟩
/-- slices.order2CmpFunc[campanile/parents.parent] -/
def n116 : NF := ⟨32, [10, 11],
 .seq (.region [
  ⟨(some 10), (.mov (.c (.c (.int .i64 0)))), none⟩,
  ⟨(some 11), (.mov (.c (.c (.int .i64 0)))), none⟩])
 (.seq (.kill [0, 1, 2, 3, 4] 0) (.seq (.seq (.draw 0 [
  ⟨0, none, ⟨(some 12), (.mov (.t 4)), none⟩, []⟩,
  ⟨1, none, ⟨(some 13), (.mov (.t 0)), none⟩, []⟩,
  ⟨2, none, ⟨(some 14), (.mov (.t 2)), none⟩, []⟩,
  ⟨3, none, ⟨(some 15), (.iaddr 3 (.t 13) (.t 14)), none⟩, []⟩,
  ⟨4, none, ⟨(some 16), (.load (some 3) (.t 15)), none⟩, []⟩,
  ⟨5, none, ⟨(some 17), (.mov (.t 0)), none⟩, []⟩,
  ⟨6, none, ⟨(some 18), (.mov (.t 1)), none⟩, []⟩,
  ⟨7, none, ⟨(some 19), (.iaddr 3 (.t 17) (.t 18)), none⟩, []⟩,
  ⟨8, none, ⟨(some 20), (.load (some 3) (.t 19)), none⟩, []⟩,
  ⟨9, none, ⟨(some 21), (.dyn (.t 12) [(.t 16), (.t 20)]), none⟩, []⟩,
  ⟨10, none, ⟨(some 22), (.bin .lss .num (.t 21) (.c (.c (.int .i64 0)))), none⟩, []⟩])
 (.seq (.kill [1, 2, 3, 22] 0) (.cond (.t 22)
 (.seq (.region [
   ⟨(some 23), (.mov (.t 3)), none⟩,
   ⟨(some 24), (.nilck (.t 23)), none⟩,
   ⟨(some 25), (.load none (.t 24)), none⟩,
   ⟨(some 26), (.bin .add .num (.t 25) (.c (.c (.int .i64 1)))), none⟩,
   ⟨(some 27), (.nilck (.t 23)), none⟩,
   ⟨none, (.store 1 (.t 27) (.t 26)), none⟩])
  (.seq (.kill [1, 2] 0) (.seq (.region [
   ⟨(some 28), (.mov (.t 2)), none⟩,
   ⟨(some 29), (.mov (.t 1)), none⟩,
   ⟨(some 10), (.mov (.t 28)), none⟩,
   ⟨(some 11), (.mov (.t 29)), none⟩])
  (.ret))))
 (.skip))))
 (.seq (.kill [1, 2] 0) (.seq (.region [
  ⟨(some 30), (.mov (.t 1)), none⟩,
  ⟨(some 31), (.mov (.t 2)), none⟩,
  ⟨(some 10), (.mov (.t 30)), none⟩,
  ⟨(some 11), (.mov (.t 31)), none⟩])
 (.ret)))))⟩
def N : Nat → Option NF
  | 13 => some n13
  | 44 => some n44
  | 46 => some n46
  | 47 => some n47
  | 52 => some n52
  | 53 => some n53
  | 54 => some n54
  | 55 => some n55
  | 56 => some n56
  | 57 => some n57
  | 58 => some n58
  | 59 => some n59
  | 60 => some n60
  | 61 => some n61
  | 62 => some n62
  | 63 => some n63
  | 64 => some n64
  | 65 => some n65
  | 66 => some n66
  | 67 => some n67
  | 68 => some n68
  | 69 => some n69
  | 70 => some n70
  | 71 => some n71
  | 72 => some n72
  | 73 => some n73
  | 74 => some n74
  | 75 => some n75
  | 76 => some n76
  | 77 => some n77
  | 78 => some n78
  | 79 => some n79
  | 80 => some n80
  | 81 => some n81
  | 82 => some n82
  | 83 => some n83
  | 84 => some n84
  | 85 => some n85
  | 86 => some n86
  | 87 => some n87
  | 88 => some n88
  | 89 => some n89
  | 90 => some n90
  | 91 => some n91
  | 92 => some n92
  | 93 => some n93
  | 94 => some n94
  | 95 => some n95
  | 96 => some n96
  | 97 => some n97
  | 98 => some n98
  | 99 => some n99
  | 100 => some n100
  | 101 => some n101
  | 102 => some n102
  | 103 => some n103
  | 104 => some n104
  | 105 => some n105
  | 106 => some n106
  | 107 => some n107
  | 108 => some n108
  | 109 => some n109
  | 110 => some n110
  | 111 => some n111
  | 112 => some n112
  | 113 => some n113
  | 114 => some n114
  | 115 => some n115
  | 116 => some n116
  | _ => none
end Camp
