/- Functions of the program, as the machine runs them. Printed by a program of mine (ncode.py). The seat's program is what the machine runs. Printed by a program of mine (seatgen.py). -/
import Derived.Test.YtnfonckiekjgdaaEngF
import Derived.Test.YtnfonckiekjgdaaProg

set_option linter.unnecessarySimpa false
set_option linter.unusedVariables false
set_option linter.unusedSimpArgs false
set_option linter.unusedSectionVars false
/-! CnAll -/
namespace Camp
open Go
def bs (l : List UInt8) : ByteArray := ⟨⟨l⟩⟩
/-- campanile/campanilelaw22.AllocBoth -/
def n117 : NF := ⟨83, [8],
 .seq (.region [
  ⟨(some 4), (.box true 5 (.t 0)), none⟩,
  ⟨(some 5), (.box true 5 (.t 1)), none⟩,
  ⟨(some 8), (.mov (.c (.c (.bool false)))), none⟩])
 (.seq (.kill [2, 3, 4, 5] 2) (.seq (.seq (.draw 0 [
  ⟨0, none, ⟨(some 10), (.load (some 5) (.t 4)), none⟩, []⟩,
  ⟨1, none, ⟨(some 11), (.load (some 5) (.t 5)), none⟩, []⟩,
  ⟨2, none, ⟨(some 12), (.mov (.t 2)), none⟩, []⟩,
  ⟨3, none, ⟨(some 13), (.mov (.t 3)), none⟩, []⟩,
  ⟨5, none, ⟨(some 15), (.load (some 5) (.t 5)), none⟩, []⟩,
  ⟨6, none, ⟨(some 16), (.load (some 5) (.t 4)), none⟩, []⟩,
  ⟨7, none, ⟨(some 17), (.mov (.t 3)), none⟩, []⟩,
  ⟨8, none, ⟨(some 18), (.mov (.t 2)), none⟩, []⟩,
  ⟨4, none, ⟨(some 14), (.call 118 [(.t 10), (.t 11), (.t 12), (.t 13)]), none⟩, [(5, ⟨(some 15), (.load (some 5) (.t 5)), none⟩), (6, ⟨(some 16), (.load (some 5) (.t 4)), none⟩)]⟩,
  ⟨9, none, ⟨(some 19), (.call 118 [(.t 15), (.t 16), (.t 17), (.t 18)]), none⟩, []⟩,
  ⟨10, none, ⟨(some 20), (.bin .neq .bool (.t 14) (.t 19)), none⟩, []⟩])
 (.seq (.kill [2, 3, 4, 20] 1) (.cond (.t 20)
 (.seq (.region [
   ⟨(some 8), (.mov (.c (.c (.bool false)))), none⟩])
  (.ret))
 (.skip))))
 (.seq (.kill [2, 3, 4] 1) (.seq (.region [
  ⟨(some 21), (.load (some 5) (.t 4)), none⟩,
  ⟨(some 9), (.box true 5 (.c (.agg [(.int .i64 0), (.int .i64 0), (.int .i64 0), (.int .i64 0), (.int .i64 0)]))), none⟩,
  ⟨none, (.store 5 (.t 9) (.t 21)), none⟩])
 (.seq (.kill [2, 3, 4, 9] 2) (.seq (.region [
  ⟨(some 22), (.faddr 1 (.t 4)), none⟩,
  ⟨(some 23), (.load none (.t 22)), none⟩,
  ⟨(some 24), (.bin .add .num (.t 23) (.c (.c (.int .i64 1)))), none⟩,
  ⟨(some 25), (.bin .rem .num (.t 24) (.c (.c (.int .i64 200)))), none⟩,
  ⟨(some 26), (.faddr 1 (.t 9)), none⟩,
  ⟨none, (.store 1 (.t 26) (.t 25)), none⟩])
 (.seq (.kill [2, 3, 4, 9] 2) (.seq (.seq (.draw 0 [
  ⟨0, none, ⟨(some 27), (.faddr 1 (.t 4)), none⟩, []⟩,
  ⟨1, none, ⟨(some 28), (.load none (.t 27)), none⟩, []⟩,
  ⟨2, none, ⟨(some 29), (.bin .lss .num (.t 28) (.c (.c (.int .i64 0)))), none⟩, []⟩,
  ⟨3, none, ⟨(some 30), (.mov (.t 29)), none⟩, []⟩,
  ⟨4, none, ⟨(some 31), (.faddr 1 (.t 4)), (some (30, false))⟩, []⟩,
  ⟨5, none, ⟨(some 32), (.load none (.t 31)), (some (30, false))⟩, []⟩,
  ⟨6, none, ⟨(some 33), (.bin .gtr .num (.t 32) (.c (.c (.int .i64 199)))), (some (30, false))⟩, []⟩,
  ⟨7, none, ⟨(some 34), (.pick (.t 30) (.c (.c (.bool true))) (.t 33)), none⟩, []⟩,
  ⟨8, none, ⟨(some 35), (.mov (.t 34)), none⟩, []⟩,
  ⟨9, none, ⟨(some 36), (.load (some 5) (.t 4)), (some (35, false))⟩, []⟩,
  ⟨10, none, ⟨(some 37), (.load (some 5) (.t 9)), (some (35, false))⟩, []⟩,
  ⟨11, none, ⟨(some 38), (.mov (.t 2)), (some (35, false))⟩, []⟩,
  ⟨12, none, ⟨(some 39), (.mov (.t 2)), (some (35, false))⟩, []⟩,
  ⟨14, none, ⟨(some 41), (.load (some 5) (.t 4)), (some (35, false))⟩, []⟩,
  ⟨15, none, ⟨(some 42), (.load (some 5) (.t 9)), (some (35, false))⟩, []⟩,
  ⟨16, none, ⟨(some 43), (.mov (.t 2)), (some (35, false))⟩, []⟩,
  ⟨17, none, ⟨(some 44), (.mov (.t 3)), (some (35, false))⟩, []⟩,
  ⟨13, none, ⟨(some 40), (.call 118 [(.t 36), (.t 37), (.t 38), (.t 39)]), (some (35, false))⟩, [(14, ⟨(some 41), (.load (some 5) (.t 4)), (some (35, false))⟩), (15, ⟨(some 42), (.load (some 5) (.t 9)), (some (35, false))⟩)]⟩,
  ⟨18, none, ⟨(some 45), (.call 118 [(.t 41), (.t 42), (.t 43), (.t 44)]), (some (35, false))⟩, []⟩,
  ⟨19, none, ⟨(some 46), (.bin .neq .bool (.t 40) (.t 45)), (some (35, false))⟩, []⟩,
  ⟨20, none, ⟨(some 47), (.mov (.t 46)), (some (35, false))⟩, []⟩,
  ⟨21, none, ⟨(some 48), (.mov (.t 2)), (some (47, true))⟩, []⟩,
  ⟨22, none, ⟨(some 49), (.bin .geq .num (.t 48) (.c (.c (.int .i64 0)))), (some (47, true))⟩, []⟩,
  ⟨23, none, ⟨(some 50), (.pick (.t 47) (.t 49) (.c (.c (.bool false)))), (some (35, false))⟩, []⟩,
  ⟨24, none, ⟨(some 51), (.mov (.t 50)), (some (35, false))⟩, []⟩,
  ⟨25, none, ⟨(some 52), (.mov (.t 2)), (some (51, true))⟩, []⟩,
  ⟨26, none, ⟨(some 53), (.bin .lss .num (.t 52) (.c (.c (.int .i64 16)))), (some (51, true))⟩, []⟩,
  ⟨27, none, ⟨(some 54), (.pick (.t 51) (.t 53) (.c (.c (.bool false)))), (some (35, false))⟩, []⟩,
  ⟨28, none, ⟨(some 55), (.mov (.t 54)), (some (35, false))⟩, []⟩,
  ⟨29, none, ⟨(some 56), (.mov (.t 3)), (some (55, true))⟩, []⟩,
  ⟨30, none, ⟨(some 57), (.bin .geq .num (.t 56) (.c (.c (.int .i64 0)))), (some (55, true))⟩, []⟩,
  ⟨31, none, ⟨(some 58), (.pick (.t 55) (.t 57) (.c (.c (.bool false)))), (some (35, false))⟩, []⟩,
  ⟨32, none, ⟨(some 59), (.mov (.t 58)), (some (35, false))⟩, []⟩,
  ⟨33, none, ⟨(some 60), (.mov (.t 3)), (some (59, true))⟩, []⟩,
  ⟨34, none, ⟨(some 61), (.bin .lss .num (.t 60) (.c (.c (.int .i64 16)))), (some (59, true))⟩, []⟩,
  ⟨35, none, ⟨(some 62), (.pick (.t 59) (.t 61) (.c (.c (.bool false)))), (some (35, false))⟩, []⟩,
  ⟨36, none, ⟨(some 63), (.pick (.t 35) (.c (.c (.bool true))) (.t 62)), none⟩, []⟩])
 (.seq (.kill [2, 4, 63] 1) (.cond (.t 63)
 (.seq (.region [
   ⟨(some 64), (.faddr 1 (.t 4)), none⟩,
   ⟨(some 65), (.load none (.t 64)), none⟩,
   ⟨(some 66), (.bin .lss .num (.t 65) (.c (.c (.int .i64 0)))), none⟩,
   ⟨(some 67), (.mov (.t 66)), none⟩,
   ⟨(some 68), (.faddr 1 (.t 4)), (some (67, false))⟩,
   ⟨(some 69), (.load none (.t 68)), (some (67, false))⟩,
   ⟨(some 70), (.bin .gtr .num (.t 69) (.c (.c (.int .i64 199)))), (some (67, false))⟩,
   ⟨(some 71), (.pick (.t 67) (.c (.c (.bool true))) (.t 70)), none⟩,
   ⟨(some 72), (.mov (.t 71)), none⟩,
   ⟨(some 73), (.call 119 []), (some (72, true))⟩,
   ⟨(some 74), (.pick (.t 72) (.t 73) (.c (.c (.bool false)))), none⟩,
   ⟨(some 8), (.mov (.t 74)), none⟩])
  (.ret))
 (.skip))))
 (.seq (.kill [2, 4] 1) (.seq (.region [
  ⟨(some 75), (.load (some 5) (.t 4)), none⟩,
  ⟨(some 76), (.load (some 5) (.t 4)), none⟩,
  ⟨(some 77), (.mov (.t 2)), none⟩,
  ⟨(some 78), (.mov (.t 2)), none⟩,
  ⟨(some 79), (.call 118 [(.t 75), (.t 76), (.t 77), (.t 78)]), none⟩,
  ⟨(some 80), (.mov (.t 79)), none⟩,
  ⟨(some 81), (.call 119 []), (some (80, true))⟩,
  ⟨(some 82), (.pick (.t 80) (.t 81) (.c (.c (.bool false)))), none⟩,
  ⟨(some 8), (.mov (.t 82)), none⟩])
 (.ret)))))))))))⟩
/-- campanile/campanilelaw22.awake -/
def n119 : NF := ⟨23, [0],
 .seq (.region [
  ⟨(some 0), (.mov (.c (.c (.bool false)))), none⟩])
 (.seq (.kill [] 0) (.seq (.region [
  ⟨(some 3), (.build [(.int .i64 0), (.int .i64 0), (.int .i64 0), (.int .i64 0), (.int .i64 0)] [(1, (1, (.c (.c (.int .i64 1))))), (3, (1, (.c (.c (.int .i64 1))))), (4, (1, (.c (.c (.int .i64 2)))))]), none⟩,
  ⟨(some 1), (.box true 5 (.c (.agg [(.int .i64 0), (.int .i64 0), (.int .i64 0), (.int .i64 0), (.int .i64 0)]))), none⟩,
  ⟨none, (.store 5 (.t 1) (.t 3)), none⟩])
 (.seq (.kill [1] 1) (.seq (.region [
  ⟨(some 4), (.build [(.int .i64 0), (.int .i64 0), (.int .i64 0), (.int .i64 0), (.int .i64 0)] [(1, (1, (.c (.c (.int .i64 1))))), (3, (1, (.c (.c (.int .i64 2))))), (4, (1, (.c (.c (.int .i64 1)))))]), none⟩,
  ⟨(some 2), (.box true 5 (.c (.agg [(.int .i64 0), (.int .i64 0), (.int .i64 0), (.int .i64 0), (.int .i64 0)]))), none⟩,
  ⟨none, (.store 5 (.t 2) (.t 4)), none⟩])
 (.seq (.kill [1, 2] 2) (.seq (.region [
  ⟨(some 5), (.load (some 5) (.t 1)), none⟩,
  ⟨(some 6), (.load (some 5) (.t 2)), none⟩,
  ⟨(some 7), (.call 118 [(.t 5), (.t 6), (.c (.c (.int .i64 1))), (.c (.c (.int .i64 2)))]), none⟩,
  ⟨(some 8), (.un .not (.t 7)), none⟩,
  ⟨(some 9), (.mov (.t 8)), none⟩,
  ⟨(some 10), (.load (some 5) (.t 1)), (some (9, true))⟩,
  ⟨(some 11), (.load (some 5) (.t 1)), (some (9, true))⟩,
  ⟨(some 12), (.call 118 [(.t 10), (.t 11), (.c (.c (.int .i64 1))), (.c (.c (.int .i64 3)))]), (some (9, true))⟩,
  ⟨(some 13), (.pick (.t 9) (.t 12) (.c (.c (.bool false)))), none⟩,
  ⟨(some 14), (.mov (.t 13)), none⟩,
  ⟨(some 15), .mkmap, (some (14, true))⟩,
  ⟨(some 16), (.load (some 5) (.t 1)), (some (14, true))⟩,
  ⟨(some 17), (.bslice false 5 1 [(.int .i64 0), (.int .i64 0), (.int .i64 0), (.int .i64 0), (.int .i64 0)] [(0, (5, (.t 16)))]), (some (14, true))⟩,
  ⟨none, (.mupd (.int .i64) (.t 15) (.c (.c (.int .i64 1))) (.t 17)), (some (14, true))⟩,
  ⟨(some 18), (.load (some 5) (.t 2)), (some (14, true))⟩,
  ⟨(some 19), (.bslice false 5 1 [(.int .i64 0), (.int .i64 0), (.int .i64 0), (.int .i64 0), (.int .i64 0)] [(0, (5, (.t 18)))]), (some (14, true))⟩,
  ⟨none, (.mupd (.int .i64) (.t 15) (.c (.c (.int .i64 2))) (.t 19)), (some (14, true))⟩,
  ⟨(some 20), (.mov (.t 15)), (some (14, true))⟩,
  ⟨(some 21), (.call 120 [(.t 20)]), (some (14, true))⟩,
  ⟨(some 22), (.pick (.t 14) (.t 21) (.c (.c (.bool false)))), none⟩,
  ⟨(some 0), (.mov (.t 22)), none⟩])
 (.ret)))))))⟩
/-- campanile/alloc.Clash -/
def n118 : NF := ⟨80, [8],
 .seq (.region [
  ⟨(some 4), (.box true 5 (.t 0)), none⟩,
  ⟨(some 5), (.box true 5 (.t 1)), none⟩,
  ⟨(some 8), (.mov (.c (.c (.bool false)))), none⟩])
 (.seq (.kill [2, 3, 4, 5] 2) (.seq (.block 0 (.seq (.region [
  ⟨(some 10), (.load (some 5) (.t 4)), none⟩,
  ⟨(some 11), (.call 121 [(.t 10)]), none⟩,
  ⟨(some 12), (.un .not (.t 11)), none⟩,
  ⟨(some 13), (.mov (.t 12)), none⟩,
  ⟨(some 14), (.load (some 5) (.t 5)), (some (13, false))⟩,
  ⟨(some 15), (.call 121 [(.t 14)]), (some (13, false))⟩,
  ⟨(some 16), (.un .not (.t 15)), (some (13, false))⟩,
  ⟨(some 17), (.pick (.t 13) (.c (.c (.bool true))) (.t 16)), none⟩,
  ⟨(some 18), (.mov (.t 17)), none⟩,
  ⟨(some 19), (.mov (.t 2)), (some (18, false))⟩,
  ⟨(some 20), (.call 122 [(.t 19)]), (some (18, false))⟩,
  ⟨(some 21), (.un .not (.t 20)), (some (18, false))⟩,
  ⟨(some 22), (.pick (.t 18) (.c (.c (.bool true))) (.t 21)), none⟩,
  ⟨(some 23), (.mov (.t 22)), none⟩,
  ⟨(some 24), (.mov (.t 3)), (some (23, false))⟩,
  ⟨(some 25), (.call 122 [(.t 24)]), (some (23, false))⟩,
  ⟨(some 26), (.un .not (.t 25)), (some (23, false))⟩,
  ⟨(some 27), (.pick (.t 23) (.c (.c (.bool true))) (.t 26)), none⟩,
  ⟨(some 9), (.mov (.t 27)), none⟩])
 (.seq (.kill [2, 3, 4, 5, 9] 2) (.cond (.t 9)
 (.seq (.region [
   ⟨(some 8), (.mov (.c (.c (.bool true)))), none⟩])
  (.ret))
 (.seq (.region [
   ⟨(some 29), (.faddr 0 (.t 4)), none⟩,
   ⟨(some 30), (.load none (.t 29)), none⟩,
   ⟨(some 31), (.faddr 0 (.t 5)), none⟩,
   ⟨(some 32), (.load none (.t 31)), none⟩,
   ⟨(some 33), (.bin .neq .num (.t 30) (.t 32)), none⟩,
   ⟨(some 34), (.mov (.t 33)), none⟩,
   ⟨(some 35), (.faddr 1 (.t 4)), (some (34, false))⟩,
   ⟨(some 36), (.load none (.t 35)), (some (34, false))⟩,
   ⟨(some 37), (.faddr 1 (.t 5)), (some (34, false))⟩,
   ⟨(some 38), (.load none (.t 37)), (some (34, false))⟩,
   ⟨(some 39), (.bin .neq .num (.t 36) (.t 38)), (some (34, false))⟩,
   ⟨(some 40), (.pick (.t 34) (.c (.c (.bool true))) (.t 39)), none⟩,
   ⟨(some 28), (.mov (.t 40)), none⟩])
  (.seq (.kill [2, 3, 4, 5, 28] 2) (.cond (.t 28)
  (.seq (.region [
    ⟨(some 8), (.mov (.c (.c (.bool false)))), none⟩])
   (.ret))
  (.seq (.region [
    ⟨(some 42), (.mov (.t 2)), none⟩,
    ⟨(some 43), (.mov (.t 3)), none⟩,
    ⟨(some 44), (.bin .eql .num (.t 42) (.t 43)), none⟩,
    ⟨(some 41), (.mov (.t 44)), none⟩])
   (.seq (.kill [2, 3, 4, 5, 41] 2) (.cond (.t 41)
   (.seq (.region [
     ⟨(some 8), (.mov (.c (.c (.bool true)))), none⟩])
    (.ret))
   (.seq (.region [
     ⟨(some 46), (.load (some 5) (.t 4)), none⟩,
     ⟨(some 47), (.load (some 5) (.t 5)), none⟩,
     ⟨(some 48), (.mov (.t 2)), none⟩,
     ⟨(some 49), (.mov (.t 3)), none⟩,
     ⟨(some 50), (.call 123 [(.t 46), (.t 47), (.t 48), (.t 49)]), none⟩,
     ⟨(some 45), (.mov (.t 50)), none⟩])
    (.seq (.kill [2, 3, 4, 5, 45] 2) (.cond (.t 45)
    (.seq (.region [
      ⟨(some 8), (.mov (.c (.c (.bool false)))), none⟩])
     (.ret))
    (.skip))))))))))))))
 (.seq (.kill [2, 3, 4, 5] 2) (.seq (.region [
  ⟨(some 51), (.faddr 2 (.t 4)), none⟩,
  ⟨(some 52), (.load none (.t 51)), none⟩,
  ⟨(some 53), (.faddr 2 (.t 5)), none⟩,
  ⟨(some 54), (.load none (.t 53)), none⟩,
  ⟨(some 55), (.bin .eql .num (.t 52) (.t 54)), none⟩,
  ⟨(some 56), (.mov (.t 55)), none⟩,
  ⟨(some 57), (.mov (.t 2)), (some (56, false))⟩,
  ⟨(some 58), (.faddr 4 (.t 5)), (some (56, false))⟩,
  ⟨(some 59), (.load none (.t 58)), (some (56, false))⟩,
  ⟨(some 60), (.bin .eql .num (.t 57) (.t 59)), (some (56, false))⟩,
  ⟨(some 61), (.pick (.t 56) (.c (.c (.bool true))) (.t 60)), none⟩,
  ⟨(some 62), (.mov (.t 61)), none⟩,
  ⟨(some 63), (.mov (.t 3)), (some (62, false))⟩,
  ⟨(some 64), (.faddr 4 (.t 4)), (some (62, false))⟩,
  ⟨(some 65), (.load none (.t 64)), (some (62, false))⟩,
  ⟨(some 66), (.bin .eql .num (.t 63) (.t 65)), (some (62, false))⟩,
  ⟨(some 67), (.pick (.t 62) (.c (.c (.bool true))) (.t 66)), none⟩,
  ⟨(some 68), (.mov (.t 67)), none⟩,
  ⟨(some 69), (.faddr 4 (.t 4)), (some (68, false))⟩,
  ⟨(some 70), (.load none (.t 69)), (some (68, false))⟩,
  ⟨(some 71), (.faddr 4 (.t 5)), (some (68, false))⟩,
  ⟨(some 72), (.load none (.t 71)), (some (68, false))⟩,
  ⟨(some 73), (.bin .eql .num (.t 70) (.t 72)), (some (68, false))⟩,
  ⟨(some 74), (.mov (.t 73)), (some (68, false))⟩,
  ⟨(some 75), (.faddr 4 (.t 4)), (some (74, true))⟩,
  ⟨(some 76), (.load none (.t 75)), (some (74, true))⟩,
  ⟨(some 77), (.bin .neq .num (.t 76) (.c (.c (.int .i64 64)))), (some (74, true))⟩,
  ⟨(some 78), (.pick (.t 74) (.t 77) (.c (.c (.bool false)))), (some (68, false))⟩,
  ⟨(some 79), (.pick (.t 68) (.c (.c (.bool true))) (.t 78)), none⟩,
  ⟨(some 8), (.mov (.t 79)), none⟩])
 (.ret)))))⟩
/-- campanile/alloc.Clean -/
def n120 : NF := ⟨48, [2],
 .seq (.region [
  ⟨(some 2), (.mov (.c (.c (.bool false)))), none⟩])
 (.seq (.kill [0] 0) (.seq (.region [
  ⟨(some 3), (.mov (.c (.c .nils))), none⟩])
 (.seq (.kill [0, 3] 0) (.seq (.seq (.region [
  ⟨(some 8), (.mov (.t 0)), none⟩,
  ⟨(some 9), (.range .map (.t 8)), none⟩])
 (.seq (.kill [3, 9] 0) (.block 0 (.loop (.seq (.kill [3, 9] 0) (.seq (.region [
   ⟨(some 10), (.next false (.t 9)), none⟩,
   ⟨(some 11), (.ext (.t 10) 0), none⟩])
  (.seq (.kill [3, 9, 11] 0) (.seq (.cond (.t 11)
  (.skip)
  (.exit 0))
  (.seq (.kill [3, 9] 0) (.block 1 (.seq (.region [
   ⟨(some 12), (.entry (.t 9)), none⟩,
   ⟨(some 13), (.ext (.t 12) 0), none⟩,
   ⟨(some 14), (.ext (.t 12) 1), none⟩,
   ⟨(some 4), (.mov (.t 13)), none⟩,
   ⟨(some 5), (.mov (.t 14)), none⟩])
  (.seq (.kill [3, 4, 5, 9] 0) (.seq (.region [
   ⟨(some 15), (.mov (.t 5)), none⟩,
   ⟨(some 16), (.len .sl (.t 15)), none⟩,
   ⟨(some 17), (.mov (.c (.c (.int .i64 0)))), none⟩])
  (.seq (.kill [3, 4, 9, 15, 16, 17] 0) (.block 2 (.loop (.seq (.kill [3, 4, 9, 15, 16, 17] 0) (.seq (.region [
    ⟨(some 18), (.bin .lss .num (.t 17) (.t 16)), none⟩])
   (.seq (.kill [3, 4, 9, 15, 16, 17, 18] 0) (.seq (.cond (.t 18)
   (.skip)
   (.exit 2))
   (.seq (.kill [3, 4, 9, 15, 16, 17] 0) (.seq (.block 3 (.seq (.region [
    ⟨(some 19), (.iaddr 5 (.t 15) (.t 17)), none⟩,
    ⟨(some 20), (.load (some 5) (.t 19)), none⟩,
    ⟨(some 7), (.box true 5 (.c (.agg [(.int .i64 0), (.int .i64 0), (.int .i64 0), (.int .i64 0), (.int .i64 0)]))), none⟩,
    ⟨none, (.store 5 (.t 7) (.t 20)), none⟩])
   (.seq (.kill [3, 4, 7, 9, 15, 16, 17] 1) (.seq (.seq (.region [
    ⟨(some 21), (.mov (.t 4)), none⟩,
    ⟨(some 22), (.call 122 [(.t 21)]), none⟩,
    ⟨(some 23), (.un .not (.t 22)), none⟩,
    ⟨(some 24), (.mov (.t 23)), none⟩,
    ⟨(some 25), (.load (some 5) (.t 7)), (some (24, false))⟩,
    ⟨(some 26), (.call 121 [(.t 25)]), (some (24, false))⟩,
    ⟨(some 27), (.un .not (.t 26)), (some (24, false))⟩,
    ⟨(some 28), (.pick (.t 24) (.c (.c (.bool true))) (.t 27)), none⟩,
    ⟨(some 29), (.mov (.t 28)), none⟩,
    ⟨(some 30), (.faddr 3 (.t 7)), (some (29, false))⟩,
    ⟨(some 31), (.load none (.t 30)), (some (29, false))⟩,
    ⟨(some 32), (.bin .and .num (.t 31) (.c (.c (.int .i64 4)))), (some (29, false))⟩,
    ⟨(some 33), (.bin .neq .num (.t 32) (.c (.c (.int .i64 0)))), (some (29, false))⟩,
    ⟨(some 34), (.pick (.t 29) (.c (.c (.bool true))) (.t 33)), none⟩,
    ⟨(some 35), (.mov (.t 34)), none⟩,
    ⟨(some 36), (.mov (.t 3)), (some (35, false))⟩,
    ⟨(some 37), (.mov (.t 4)), (some (35, false))⟩,
    ⟨(some 38), (.load (some 5) (.t 7)), (some (35, false))⟩,
    ⟨(some 39), (.call 126 [(.t 36), (.t 37), (.t 38)]), (some (35, false))⟩,
    ⟨(some 40), (.pick (.t 35) (.c (.c (.bool true))) (.t 39)), none⟩])
   (.seq (.kill [3, 4, 7, 9, 15, 16, 17, 40] 1) (.cond (.t 40)
   (.seq (.region [
     ⟨(some 2), (.mov (.c (.c (.bool false)))), none⟩])
    (.ret))
   (.skip))))
   (.seq (.kill [3, 4, 7, 9, 15, 16, 17] 1) (.region [
    ⟨(some 41), (.mov (.t 3)), none⟩,
    ⟨(some 42), (.mov (.t 4)), none⟩,
    ⟨(some 43), (.load (some 5) (.t 7)), none⟩,
    ⟨(some 44), (.build [(.int .i64 0), (.int .i64 0), (.int .i64 0), (.int .i64 0), (.int .i64 0), (.int .i64 0)] [(0, (1, (.t 42))), (1, (5, (.t 43)))]), none⟩,
    ⟨(some 45), (.bslice true 6 1 [(.int .i64 0), (.int .i64 0), (.int .i64 0), (.int .i64 0), (.int .i64 0), (.int .i64 0)] [(0, (6, (.t 44)))]), none⟩,
    ⟨(some 46), (.app 6 48 (.t 41) (.t 45)), none⟩,
    ⟨(some 3), (.mov (.t 46)), none⟩]))))))
   (.seq (.kill [3, 4, 9, 15, 16, 17] 0) (.region [
    ⟨(some 47), (.bin .add .num (.t 17) (.c (.c (.int .i64 1)))), none⟩,
    ⟨(some 17), (.mov (.t 47)), none⟩]))))))))))))))))))))))))
 (.seq (.kill [] 0) (.seq (.region [
  ⟨(some 2), (.mov (.c (.c (.bool true)))), none⟩])
 (.ret)))))))⟩
/-- campanile/cell.May -/
def n121 : NF := ⟨54, [2],
 .seq (.region [
  ⟨(some 1), (.box true 5 (.t 0)), none⟩,
  ⟨(some 2), (.mov (.c (.c (.bool false)))), none⟩])
 (.seq (.kill [1] 1) (.seq (.region [
  ⟨(some 5), (.faddr 3 (.t 1)), none⟩,
  ⟨(some 6), (.load none (.t 5)), none⟩,
  ⟨(some 7), (.bin .and .num (.t 6) (.c (.c (.int .i64 3)))), none⟩,
  ⟨(some 8), (.bin .neq .num (.t 7) (.c (.c (.int .i64 0)))), none⟩,
  ⟨(some 3), (.mov (.t 8)), none⟩])
 (.seq (.kill [1, 3] 1) (.seq (.region [
  ⟨(some 9), (.faddr 3 (.t 1)), none⟩,
  ⟨(some 10), (.load none (.t 9)), none⟩,
  ⟨(some 11), (.bin .and .num (.t 10) (.c (.c (.int .i64 4)))), none⟩,
  ⟨(some 12), (.bin .neq .num (.t 11) (.c (.c (.int .i64 0)))), none⟩,
  ⟨(some 13), (.mov (.t 12)), none⟩,
  ⟨(some 14), (.faddr 3 (.t 1)), (some (13, true))⟩,
  ⟨(some 15), (.load none (.t 14)), (some (13, true))⟩,
  ⟨(some 16), (.bin .and .num (.t 15) (.c (.c (.int .i64 1)))), (some (13, true))⟩,
  ⟨(some 17), (.bin .eql .num (.t 16) (.c (.c (.int .i64 0)))), (some (13, true))⟩,
  ⟨(some 18), (.pick (.t 13) (.t 17) (.c (.c (.bool false)))), none⟩,
  ⟨(some 4), (.mov (.t 18)), none⟩])
 (.seq (.kill [1, 3, 4] 1) (.seq (.region [
  ⟨(some 19), (.faddr 0 (.t 1)), none⟩,
  ⟨(some 20), (.load none (.t 19)), none⟩,
  ⟨(some 21), (.call 124 [(.t 20), (.c (.c (.int .i64 0))), (.c (.c (.int .i64 3)))]), none⟩,
  ⟨(some 22), (.mov (.t 21)), none⟩,
  ⟨(some 23), (.faddr 1 (.t 1)), (some (22, true))⟩,
  ⟨(some 24), (.load none (.t 23)), (some (22, true))⟩,
  ⟨(some 25), (.call 124 [(.t 24), (.c (.c (.int .i64 0))), (.c (.c (.int .i64 199)))]), (some (22, true))⟩,
  ⟨(some 26), (.pick (.t 22) (.t 25) (.c (.c (.bool false)))), none⟩,
  ⟨(some 27), (.mov (.t 26)), none⟩,
  ⟨(some 28), (.faddr 2 (.t 1)), (some (27, true))⟩,
  ⟨(some 29), (.load none (.t 28)), (some (27, true))⟩,
  ⟨(some 30), (.call 124 [(.t 29), (.c (.c (.int .i64 0))), (.c (.c (.int .i64 15)))]), (some (27, true))⟩,
  ⟨(some 31), (.pick (.t 27) (.t 30) (.c (.c (.bool false)))), none⟩,
  ⟨(some 32), (.mov (.t 31)), none⟩,
  ⟨(some 33), (.faddr 3 (.t 1)), (some (32, true))⟩,
  ⟨(some 34), (.load none (.t 33)), (some (32, true))⟩,
  ⟨(some 35), (.call 124 [(.t 34), (.c (.c (.int .i64 1))), (.c (.c (.int .i64 15)))]), (some (32, true))⟩,
  ⟨(some 36), (.pick (.t 32) (.t 35) (.c (.c (.bool false)))), none⟩,
  ⟨(some 37), (.mov (.t 36)), none⟩,
  ⟨(some 38), (.mov (.t 3)), (some (37, true))⟩,
  ⟨(some 39), (.pick (.t 37) (.t 38) (.c (.c (.bool false)))), none⟩,
  ⟨(some 40), (.mov (.t 39)), none⟩,
  ⟨(some 41), (.mov (.t 4)), (some (40, true))⟩,
  ⟨(some 42), (.un .not (.t 41)), (some (40, true))⟩,
  ⟨(some 43), (.pick (.t 40) (.t 42) (.c (.c (.bool false)))), none⟩,
  ⟨(some 44), (.mov (.t 43)), none⟩,
  ⟨(some 45), (.faddr 4 (.t 1)), (some (44, true))⟩,
  ⟨(some 46), (.load none (.t 45)), (some (44, true))⟩,
  ⟨(some 47), (.call 124 [(.t 46), (.c (.c (.int .i64 0))), (.c (.c (.int .i64 15)))]), (some (44, true))⟩,
  ⟨(some 48), (.mov (.t 47)), (some (44, true))⟩,
  ⟨(some 49), (.faddr 4 (.t 1)), (some (48, false))⟩,
  ⟨(some 50), (.load none (.t 49)), (some (48, false))⟩,
  ⟨(some 51), (.bin .eql .num (.t 50) (.c (.c (.int .i64 64)))), (some (48, false))⟩,
  ⟨(some 52), (.pick (.t 48) (.c (.c (.bool true))) (.t 51)), (some (44, true))⟩,
  ⟨(some 53), (.pick (.t 44) (.t 52) (.c (.c (.bool false)))), none⟩,
  ⟨(some 2), (.mov (.t 53)), none⟩])
 (.ret)))))))⟩
/-- campanile/alloc.node -/
def n122 : NF := ⟨9, [2],
 .seq (.region [
  ⟨(some 2), (.mov (.c (.c (.bool false)))), none⟩])
 (.seq (.kill [0] 0) (.seq (.region [
  ⟨(some 3), (.mov (.t 0)), none⟩,
  ⟨(some 4), (.bin .geq .num (.t 3) (.c (.c (.int .i64 0)))), none⟩,
  ⟨(some 5), (.mov (.t 4)), none⟩,
  ⟨(some 6), (.mov (.t 0)), (some (5, true))⟩,
  ⟨(some 7), (.bin .lss .num (.t 6) (.c (.c (.int .i64 16)))), (some (5, true))⟩,
  ⟨(some 8), (.pick (.t 5) (.t 7) (.c (.c (.bool false)))), none⟩,
  ⟨(some 2), (.mov (.t 8)), none⟩])
 (.ret)))⟩
/-- campanile/alloc.link -/
def n123 : NF := ⟨44, [8],
 .seq (.region [
  ⟨(some 4), (.box true 5 (.t 0)), none⟩,
  ⟨(some 5), (.box true 5 (.t 1)), none⟩,
  ⟨(some 8), (.mov (.c (.c (.bool false)))), none⟩])
 (.seq (.kill [2, 3, 4, 5] 2) (.seq (.region [
  ⟨(some 10), (.load (some 5) (.t 4)), none⟩,
  ⟨(some 11), (.call 125 [(.t 10), (.c (.c (.int .i64 1)))]), none⟩,
  ⟨(some 12), (.mov (.t 11)), none⟩,
  ⟨(some 13), (.load (some 5) (.t 5)), (some (12, true))⟩,
  ⟨(some 14), (.call 125 [(.t 13), (.c (.c (.int .i64 2)))]), (some (12, true))⟩,
  ⟨(some 15), (.pick (.t 12) (.t 14) (.c (.c (.bool false)))), none⟩,
  ⟨(some 16), (.mov (.t 15)), none⟩,
  ⟨(some 17), (.load (some 5) (.t 4)), (some (16, false))⟩,
  ⟨(some 18), (.call 125 [(.t 17), (.c (.c (.int .i64 2)))]), (some (16, false))⟩,
  ⟨(some 19), (.mov (.t 18)), (some (16, false))⟩,
  ⟨(some 20), (.load (some 5) (.t 5)), (some (19, true))⟩,
  ⟨(some 21), (.call 125 [(.t 20), (.c (.c (.int .i64 1)))]), (some (19, true))⟩,
  ⟨(some 22), (.pick (.t 19) (.t 21) (.c (.c (.bool false)))), (some (16, false))⟩,
  ⟨(some 23), (.pick (.t 16) (.c (.c (.bool true))) (.t 22)), none⟩,
  ⟨(some 9), (.mov (.t 23)), none⟩])
 (.seq (.kill [2, 3, 4, 5, 9] 2) (.seq (.region [
  ⟨(some 24), (.faddr 4 (.t 4)), none⟩,
  ⟨(some 25), (.load none (.t 24)), none⟩,
  ⟨(some 26), (.mov (.t 3)), none⟩,
  ⟨(some 27), (.bin .eql .num (.t 25) (.t 26)), none⟩,
  ⟨(some 28), (.mov (.t 27)), none⟩,
  ⟨(some 29), (.faddr 4 (.t 5)), (some (28, true))⟩,
  ⟨(some 30), (.load none (.t 29)), (some (28, true))⟩,
  ⟨(some 31), (.mov (.t 2)), (some (28, true))⟩,
  ⟨(some 32), (.bin .eql .num (.t 30) (.t 31)), (some (28, true))⟩,
  ⟨(some 33), (.pick (.t 28) (.t 32) (.c (.c (.bool false)))), none⟩,
  ⟨(some 34), (.mov (.t 33)), none⟩,
  ⟨(some 35), (.faddr 2 (.t 4)), (some (34, true))⟩,
  ⟨(some 36), (.load none (.t 35)), (some (34, true))⟩,
  ⟨(some 37), (.faddr 2 (.t 5)), (some (34, true))⟩,
  ⟨(some 38), (.load none (.t 37)), (some (34, true))⟩,
  ⟨(some 39), (.bin .eql .num (.t 36) (.t 38)), (some (34, true))⟩,
  ⟨(some 40), (.pick (.t 34) (.t 39) (.c (.c (.bool false)))), none⟩,
  ⟨(some 41), (.mov (.t 40)), none⟩,
  ⟨(some 42), (.mov (.t 9)), (some (41, true))⟩,
  ⟨(some 43), (.pick (.t 41) (.t 42) (.c (.c (.bool false)))), none⟩,
  ⟨(some 8), (.mov (.t 43)), none⟩])
 (.ret)))))⟩
/-- campanile/alloc.clashes -/
def n126 : NF := ⟨10, [6],
 .seq (.region [
  ⟨(some 4), (.box false 1 (.t 1)), none⟩,
  ⟨(some 5), (.box false 5 (.t 2)), none⟩,
  ⟨(some 6), (.mov (.c (.c (.bool false)))), none⟩])
 (.seq (.kill [0, 4, 5] 0) (.seq (.region [
  ⟨(some 7), (.mov (.t 0)), none⟩,
  ⟨(some 8), (.mkfn 127 [(.t 5), (.t 4)]), none⟩,
  ⟨(some 9), (.call 128 [(.t 7), (.t 8)]), none⟩,
  ⟨(some 6), (.mov (.t 9)), none⟩])
 (.ret)))⟩
/-- campanile/cell.in -/
def n124 : NF := ⟨15, [6],
 .seq (.region [
  ⟨(some 6), (.mov (.c (.c (.bool false)))), none⟩])
 (.seq (.kill [0, 1, 2] 0) (.seq (.region [
  ⟨(some 7), (.mov (.t 0)), none⟩,
  ⟨(some 8), (.mov (.t 1)), none⟩,
  ⟨(some 9), (.bin .geq .num (.t 7) (.t 8)), none⟩,
  ⟨(some 10), (.mov (.t 9)), none⟩,
  ⟨(some 11), (.mov (.t 0)), (some (10, true))⟩,
  ⟨(some 12), (.mov (.t 2)), (some (10, true))⟩,
  ⟨(some 13), (.bin .leq .num (.t 11) (.t 12)), (some (10, true))⟩,
  ⟨(some 14), (.pick (.t 10) (.t 13) (.c (.c (.bool false)))), none⟩,
  ⟨(some 6), (.mov (.t 14)), none⟩])
 (.ret)))⟩
/-- campanile/alloc.alone -/
def n125 : NF := ⟨10, [4],
 .seq (.region [
  ⟨(some 2), (.box true 5 (.t 0)), none⟩,
  ⟨(some 4), (.mov (.c (.c (.bool false)))), none⟩])
 (.seq (.kill [1, 2] 1) (.seq (.region [
  ⟨(some 5), (.faddr 3 (.t 2)), none⟩,
  ⟨(some 6), (.load none (.t 5)), none⟩,
  ⟨(some 7), (.bin .and .num (.t 6) (.c (.c (.int .i64 3)))), none⟩,
  ⟨(some 8), (.mov (.t 1)), none⟩,
  ⟨(some 9), (.bin .eql .num (.t 7) (.t 8)), none⟩,
  ⟨(some 4), (.mov (.t 9)), none⟩])
 (.ret)))⟩
/-- slices.ContainsFunc[[]campanile/alloc.held,campanile/alloc.held] -/
def n128 : NF := ⟨9, [4],
 .seq (.region [
  ⟨(some 4), (.mov (.c (.c (.bool false)))), none⟩])
 (.seq (.kill [0, 1] 0) (.seq (.region [
  ⟨(some 5), (.mov (.t 0)), none⟩,
  ⟨(some 6), (.mov (.t 1)), none⟩,
  ⟨(some 7), (.call 129 [(.t 5), (.t 6)]), none⟩,
  ⟨(some 8), (.bin .geq .num (.t 7) (.c (.c (.int .i64 0)))), none⟩,
  ⟨(some 4), (.mov (.t 8)), none⟩])
 (.ret)))⟩
/-- campanile/alloc.clashes$1 -/
def n127 : NF := ⟨12, [4],
 .seq (.region [
  ⟨(some 3), (.box true 6 (.t 0)), none⟩,
  ⟨(some 4), (.mov (.c (.c (.bool false)))), none⟩])
 (.seq (.kill [1, 2, 3] 1) (.seq (.region [
  ⟨(some 5), (.faddr 1 (.t 3)), none⟩,
  ⟨(some 6), (.load (some 5) (.t 5)), none⟩,
  ⟨(some 7), (.load (some 5) (.t 1)), none⟩,
  ⟨(some 8), (.faddr 0 (.t 3)), none⟩,
  ⟨(some 9), (.load none (.t 8)), none⟩,
  ⟨(some 10), (.load none (.t 2)), none⟩,
  ⟨(some 11), (.call 118 [(.t 6), (.t 7), (.t 9), (.t 10)]), none⟩,
  ⟨(some 4), (.mov (.t 11)), none⟩])
 (.ret)))⟩
/-- slices.IndexFunc[[]campanile/alloc.held,campanile/alloc.held] -/
def n129 : NF := ⟨19, [4],
 .seq (.region [
  ⟨(some 4), (.mov (.c (.c (.int .i64 0)))), none⟩])
 (.seq (.kill [0, 1] 0) (.seq (.seq (.region [
  ⟨(some 6), (.mov (.t 0)), none⟩,
  ⟨(some 7), (.len .sl (.t 6)), none⟩,
  ⟨(some 8), (.mov (.c (.c (.int .i64 0)))), none⟩])
 (.seq (.kill [0, 1, 7, 8] 0) (.block 0 (.loop (.seq (.kill [0, 1, 7, 8] 0) (.seq (.region [
   ⟨(some 9), (.bin .lss .num (.t 8) (.t 7)), none⟩])
  (.seq (.kill [0, 1, 7, 8, 9] 0) (.seq (.cond (.t 9)
  (.skip)
  (.exit 0))
  (.seq (.kill [0, 1, 7, 8] 0) (.seq (.block 1 (.seq (.region [
   ⟨(some 10), (.mov (.t 8)), none⟩,
   ⟨(some 5), (.mov (.t 10)), none⟩])
  (.seq (.kill [0, 1, 5, 7, 8] 0) (.seq (.region [
   ⟨(some 11), (.mov (.t 1)), none⟩,
   ⟨(some 12), (.mov (.t 0)), none⟩,
   ⟨(some 13), (.mov (.t 5)), none⟩,
   ⟨(some 14), (.iaddr 6 (.t 12) (.t 13)), none⟩,
   ⟨(some 15), (.load (some 6) (.t 14)), none⟩,
   ⟨(some 16), (.dyn (.t 11) [(.t 15)]), none⟩])
  (.seq (.kill [0, 1, 5, 7, 8, 16] 0) (.cond (.t 16)
  (.seq (.region [
    ⟨(some 17), (.mov (.t 5)), none⟩,
    ⟨(some 4), (.mov (.t 17)), none⟩])
   (.ret))
  (.skip)))))))
  (.seq (.kill [0, 1, 7, 8] 0) (.region [
   ⟨(some 18), (.bin .add .num (.t 8) (.c (.c (.int .i64 1)))), none⟩,
   ⟨(some 8), (.mov (.t 18)), none⟩]))))))))))))
 (.seq (.kill [] 0) (.seq (.region [
  ⟨(some 4), (.mov (.c (.c (.int .i64 (-1))))), none⟩])
 (.ret)))))⟩
def N : Nat → Option NF
  | 117 => some n117
  | 118 => some n118
  | 119 => some n119
  | 120 => some n120
  | 121 => some n121
  | 122 => some n122
  | 123 => some n123
  | 124 => some n124
  | 125 => some n125
  | 126 => some n126
  | 127 => some n127
  | 128 => some n128
  | 129 => some n129
  | _ => none
end Camp

/-! CsAll -/
namespace Camp.S
open Go Go.Proofs
def tbl : List Nat := [1000000, 1000000, 1000000, 1000000, 117, 1000000, 119, 1000000, 118, 1000000, 120, 1000000, 1000000, 121, 122, 123, 1000000, 1000000, 126, 124, 125, 128, 127, 129, 1000000, 1000000, 1000000, 1000000, 1000000, 1000000, 1000000, 1000000, 1000000, 1000000, 1000000, 1000000, 1000000, 1000000, 1000000, 1000000]
abbrev rn : FuncId → Nat := rnOf tbl
theorem c117 : CFn Try.prog rn (DJ Try.prog rn) Try.f4 n117 := cfn_ok [4, 5, 9] (by kernel_rfl) (by kernel_rfl) (by kernel_rfl) (by kernel_rfl)
theorem c119 : CFn Try.prog rn (DJ Try.prog rn) Try.f6 n119 := cfn_ok [1, 2] (by kernel_rfl) (by kernel_rfl) (by kernel_rfl) (by kernel_rfl)
theorem c118 : CFn Try.prog rn (DJ Try.prog rn) Try.f8 n118 := cfn_ok [4, 5] (by kernel_rfl) (by kernel_rfl) (by kernel_rfl) (by kernel_rfl)
theorem c120 : CFn Try.prog rn (DJ Try.prog rn) Try.f10 n120 := cfn_ok [7, 45] (by kernel_rfl) (by kernel_rfl) (by kernel_rfl) (by kernel_rfl)
theorem c121 : CFn Try.prog rn (DJ Try.prog rn) Try.f13 n121 := cfn_ok [1] (by kernel_rfl) (by kernel_rfl) (by kernel_rfl) (by kernel_rfl)
theorem c122 : CFn Try.prog rn (DJ Try.prog rn) Try.f14 n122 := cfn_ok [] (by kernel_rfl) (by kernel_rfl) (by kernel_rfl) (by kernel_rfl)
theorem c123 : CFn Try.prog rn (DJ Try.prog rn) Try.f15 n123 := cfn_ok [4, 5] (by kernel_rfl) (by kernel_rfl) (by kernel_rfl) (by kernel_rfl)
theorem c126 : CFn Try.prog rn (DJ Try.prog rn) Try.f18 n126 := cfn_ok [] (by kernel_rfl) (by kernel_rfl) (by kernel_rfl) (by kernel_rfl)
theorem c124 : CFn Try.prog rn (DJ Try.prog rn) Try.f19 n124 := cfn_ok [] (by kernel_rfl) (by kernel_rfl) (by kernel_rfl) (by kernel_rfl)
theorem c125 : CFn Try.prog rn (DJ Try.prog rn) Try.f20 n125 := cfn_ok [2] (by kernel_rfl) (by kernel_rfl) (by kernel_rfl) (by kernel_rfl)
theorem c128 : CFn Try.prog rn (DJ Try.prog rn) Try.f21 n128 := cfn_ok [] (by kernel_rfl) (by kernel_rfl) (by kernel_rfl) (by kernel_rfl)
theorem c127 : CFn Try.prog rn (DJ Try.prog rn) Try.f22 n127 := cfn_ok [3] (by kernel_rfl) (by kernel_rfl) (by kernel_rfl) (by kernel_rfl)
theorem c129 : CFn Try.prog rn (DJ Try.prog rn) Try.f23 n129 := cfn_ok [] (by kernel_rfl) (by kernel_rfl) (by kernel_rfl) (by kernel_rfl)
theorem all : AllOk Try.prog rn N tbl 0 :=
  ⟨ok_none rfl,
   ok_none rfl,
   ok_none rfl,
   ok_none rfl,
   ok_some rfl Try.func4 c117,
   ok_none rfl,
   ok_some rfl Try.func6 c119,
   ok_none rfl,
   ok_some rfl Try.func8 c118,
   ok_none rfl,
   ok_some rfl Try.func10 c120,
   ok_none rfl,
   ok_none rfl,
   ok_some rfl Try.func13 c121,
   ok_some rfl Try.func14 c122,
   ok_some rfl Try.func15 c123,
   ok_none rfl,
   ok_none rfl,
   ok_some rfl Try.func18 c126,
   ok_some rfl Try.func19 c124,
   ok_some rfl Try.func20 c125,
   ok_some rfl Try.func21 c128,
   ok_some rfl Try.func22 c127,
   ok_some rfl Try.func23 c129,
   ok_none rfl,
   ok_none rfl,
   ok_none rfl,
   ok_none rfl,
   ok_none rfl,
   ok_none rfl,
   ok_none rfl,
   ok_none rfl,
   ok_none rfl,
   ok_none rfl,
   ok_none rfl,
   ok_none rfl,
   ok_none rfl,
   ok_none rfl,
   ok_none rfl,
   ok_none rfl, trivial⟩
theorem hprog : HProg Try.prog rn (DJ Try.prog rn) N := hprog_of all rfl
theorem mixed : Try.prog.follows .mixedOrders = true := by kernel_rfl
end Camp.S
