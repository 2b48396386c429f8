/- Functions of the program, as the machine runs them. Printed by a program of mine (ncode.py). The seat's program is what the machine runs. Printed by a program of mine (seatgen.py). -/
import Derived.Test.YtfnhhnenepmpjaaEngF
import Derived.Test.YtfnhhnenepmpjaaUseA
import Derived.Test.YtfnhhnenepmpjaaProg

set_option linter.unnecessarySimpa false
set_option linter.unusedVariables false
set_option linter.unusedSimpArgs false
set_option linter.unusedSectionVars false
/-! CnTree -/
namespace Camp
open Go
def bs (l : List UInt8) : ByteArray := ⟨⟨l⟩⟩
/-- campanile/campanilelaw21.TreeForms -/
def n236 : NF := ⟨101, [6],
 .seq (.region [
  ⟨(some 6), (.mov (.c (.c (.bool false)))), none⟩])
 (.seq (.kill [0, 1, 2] 0) (.seq (.region [
  ⟨(some 18), (.mov (.t 0)), none⟩,
  ⟨(some 19), (.mov (.t 1)), none⟩,
  ⟨(some 20), (.call 7 [(.t 18), (.t 19)]), none⟩,
  ⟨(some 17), (.mov (.t 20)), none⟩,
  ⟨(some 21), (.ext (.t 17) 0), none⟩,
  ⟨(some 22), (.ext (.t 17) 1), none⟩,
  ⟨(some 23), (.ext (.t 17) 2), none⟩,
  ⟨(some 7), (.mov (.t 21)), none⟩,
  ⟨(some 8), (.mov (.t 22)), none⟩,
  ⟨(some 9), (.mov (.t 23)), none⟩])
 (.seq (.kill [2, 7, 8, 9] 0) (.seq (.seq (.region [
  ⟨(some 24), (.mov (.t 7)), none⟩,
  ⟨(some 25), (.bin .eql .ptr (.t 24) (.c (.c .nilp))), none⟩,
  ⟨(some 26), (.mov (.t 25)), none⟩,
  ⟨(some 27), (.mov (.t 9)), (some (26, false))⟩,
  ⟨(some 28), (.bin .neq .num (.t 27) (.c (.c (.int .i64 0)))), (some (26, false))⟩,
  ⟨(some 29), (.pick (.t 26) (.c (.c (.bool true))) (.t 28)), none⟩])
 (.seq (.kill [2, 7, 8, 29] 0) (.cond (.t 29)
 (.seq (.region [
   ⟨(some 6), (.mov (.c (.c (.bool false)))), none⟩])
  (.ret))
 (.skip))))
 (.seq (.kill [2, 7, 8] 0) (.seq (.region [
  ⟨(some 30), (.mov (.t 7)), none⟩,
  ⟨(some 31), (.mov (.t 2)), none⟩,
  ⟨(some 32), (.call 196 [(.t 30), (.t 31)]), none⟩,
  ⟨(some 33), (.mov (.t 8)), none⟩,
  ⟨(some 34), (.mov (.t 2)), none⟩,
  ⟨(some 35), (.call 237 [(.t 33), (.t 34)]), none⟩,
  ⟨(some 10), (.mov (.t 32)), none⟩,
  ⟨(some 11), (.mov (.t 35)), none⟩])
 (.seq (.kill [10, 11] 0) (.seq (.seq (.region [
  ⟨(some 36), (.mov (.t 10)), none⟩,
  ⟨(some 37), (.bin .eql .ptr (.t 36) (.c (.c .nilp))), none⟩,
  ⟨(some 38), (.mov (.t 37)), none⟩,
  ⟨(some 39), (.mov (.t 10)), (some (38, false))⟩,
  ⟨(some 40), (.call 199 [(.t 39)]), (some (38, false))⟩,
  ⟨(some 41), (.mov (.t 11)), (some (38, false))⟩,
  ⟨(some 42), (.call 238 [(.t 41)]), (some (38, false))⟩,
  ⟨(some 43), (.call 13 [(.t 40), (.t 42)]), (some (38, false))⟩,
  ⟨(some 44), (.un .not (.t 43)), (some (38, false))⟩,
  ⟨(some 45), (.pick (.t 38) (.c (.c (.bool true))) (.t 44)), none⟩])
 (.seq (.kill [10, 11, 45] 0) (.cond (.t 45)
 (.seq (.region [
   ⟨(some 6), (.mov (.c (.c (.bool false)))), none⟩])
  (.ret))
 (.skip))))
 (.seq (.kill [10, 11] 0) (.seq (.seq (.region [
  ⟨(some 12), (.mov (.c (.c (.int .i64 (-1))))), none⟩])
 (.seq (.kill [10, 11, 12] 0) (.block 0 (.loop (.seq (.kill [10, 11, 12] 0) (.seq (.seq (.region [
   ⟨(some 46), (.mov (.t 12)), none⟩,
   ⟨(some 47), (.bin .leq .num (.t 46) (.c (.c (.int .i64 16)))), none⟩])
  (.seq (.kill [10, 11, 12, 47] 0) (.cond (.t 47)
  (.skip)
  (.exit 0))))
  (.seq (.kill [10, 11, 12] 0) (.seq (.block 1 (.seq (.region [
   ⟨(some 51), (.mov (.t 10)), none⟩,
   ⟨(some 52), (.mov (.t 12)), none⟩,
   ⟨(some 53), (.call 195 [(.t 51), (.t 52)]), none⟩,
   ⟨(some 50), (.mov (.t 53)), none⟩,
   ⟨(some 54), (.ext (.t 50) 0), none⟩,
   ⟨(some 55), (.ext (.t 50) 1), none⟩,
   ⟨(some 13), (.mov (.t 54)), none⟩,
   ⟨(some 14), (.mov (.t 55)), none⟩])
  (.seq (.kill [10, 11, 12, 13, 14] 0) (.seq (.region [
   ⟨(some 57), (.mov (.t 11)), none⟩,
   ⟨(some 58), (.mov (.t 12)), none⟩,
   ⟨(some 59), (.call 239 [(.t 57), (.t 58)]), none⟩,
   ⟨(some 56), (.mov (.t 59)), none⟩,
   ⟨(some 60), (.ext (.t 56) 0), none⟩,
   ⟨(some 61), (.ext (.t 56) 1), none⟩,
   ⟨(some 15), (.mov (.t 60)), none⟩,
   ⟨(some 16), (.mov (.t 61)), none⟩])
  (.seq (.kill [10, 11, 12, 13, 14, 15, 16] 0) (.seq (.region [
   ⟨(some 62), (.mov (.t 13)), none⟩,
   ⟨(some 63), (.mov (.t 15)), none⟩,
   ⟨(some 64), (.bin .neq .num (.t 62) (.t 63)), none⟩,
   ⟨(some 65), (.mov (.t 64)), none⟩,
   ⟨(some 66), (.mov (.t 14)), (some (65, false))⟩,
   ⟨(some 67), (.mov (.t 16)), (some (65, false))⟩,
   ⟨(some 68), (.bin .neq .bool (.t 66) (.t 67)), (some (65, false))⟩,
   ⟨(some 69), (.pick (.t 65) (.c (.c (.bool true))) (.t 68)), none⟩,
   ⟨(some 70), (.mov (.t 69)), none⟩,
   ⟨(some 71), (.mov (.t 10)), (some (70, false))⟩,
   ⟨(some 72), (.mov (.t 12)), (some (70, false))⟩,
   ⟨(some 73), (.call 197 [(.t 71), (.t 72)]), (some (70, false))⟩,
   ⟨(some 74), (.mov (.t 11)), (some (70, false))⟩,
   ⟨(some 75), (.mov (.t 12)), (some (70, false))⟩,
   ⟨(some 76), (.call 240 [(.t 74), (.t 75)]), (some (70, false))⟩,
   ⟨(some 77), (.call 13 [(.t 73), (.t 76)]), (some (70, false))⟩,
   ⟨(some 78), (.un .not (.t 77)), (some (70, false))⟩,
   ⟨(some 79), (.pick (.t 70) (.c (.c (.bool true))) (.t 78)), none⟩,
   ⟨(some 80), (.mov (.t 79)), none⟩,
   ⟨(some 81), (.mov (.t 10)), (some (80, false))⟩,
   ⟨(some 82), (.mov (.t 12)), (some (80, false))⟩,
   ⟨(some 83), (.call 198 [(.t 81), (.t 82)]), (some (80, false))⟩,
   ⟨(some 84), (.mov (.t 11)), (some (80, false))⟩,
   ⟨(some 85), (.mov (.t 12)), (some (80, false))⟩,
   ⟨(some 86), (.call 241 [(.t 84), (.t 85)]), (some (80, false))⟩,
   ⟨(some 87), (.call 13 [(.t 83), (.t 86)]), (some (80, false))⟩,
   ⟨(some 88), (.un .not (.t 87)), (some (80, false))⟩,
   ⟨(some 89), (.pick (.t 80) (.c (.c (.bool true))) (.t 88)), none⟩,
   ⟨(some 90), (.mov (.t 89)), none⟩,
   ⟨(some 91), (.mov (.t 10)), (some (90, false))⟩,
   ⟨(some 92), (.mov (.t 12)), (some (90, false))⟩,
   ⟨(some 93), (.call 200 [(.t 91), (.t 92)]), (some (90, false))⟩,
   ⟨(some 94), (.mov (.t 11)), (some (90, false))⟩,
   ⟨(some 95), (.mov (.t 12)), (some (90, false))⟩,
   ⟨(some 96), (.call 242 [(.t 94), (.t 95)]), (some (90, false))⟩,
   ⟨(some 97), (.call 13 [(.t 93), (.t 96)]), (some (90, false))⟩,
   ⟨(some 98), (.un .not (.t 97)), (some (90, false))⟩,
   ⟨(some 99), (.pick (.t 90) (.c (.c (.bool true))) (.t 98)), none⟩])
  (.seq (.kill [10, 11, 12, 99] 0) (.cond (.t 99)
  (.seq (.region [
    ⟨(some 6), (.mov (.c (.c (.bool false)))), none⟩])
   (.ret))
  (.skip)))))))))
  (.seq (.kill [10, 11, 12] 0) (.region [
   ⟨(some 48), (.mov (.t 12)), none⟩,
   ⟨(some 49), (.bin .add .num (.t 48) (.c (.c (.int .i64 1)))), none⟩,
   ⟨(some 12), (.mov (.t 49)), none⟩]))))))))))
 (.seq (.kill [] 0) (.seq (.region [
  ⟨(some 100), (.call 201 []), none⟩,
  ⟨(some 6), (.mov (.t 100)), none⟩])
 (.ret)))))))))))))⟩
/-- campanile/campanilelaw20.Made -/
def n7 : NF := ⟨58, [4, 5, 6],
 .seq (.region [
  ⟨(some 4), (.mov (.c (.c .nilp))), none⟩,
  ⟨(some 5), (.mov (.c (.c .nilp))), none⟩,
  ⟨(some 6), (.mov (.c (.c (.int .i64 0)))), none⟩])
 (.seq (.kill [0, 1] 0) (.seq (.region [
  ⟨(some 11), (.mov (.t 0)), none⟩,
  ⟨(some 12), (.call 2 [(.t 11)]), none⟩,
  ⟨(some 13), (.mov (.t 0)), none⟩,
  ⟨(some 14), (.call 19 [(.t 13)]), none⟩,
  ⟨(some 7), (.mov (.t 12)), none⟩,
  ⟨(some 8), (.mov (.t 14)), none⟩])
 (.seq (.kill [1, 7, 8] 0) (.seq (.seq (.region [
  ⟨(some 15), (.mov (.t 1)), none⟩,
  ⟨(some 16), (.len .sl (.t 15)), none⟩,
  ⟨(some 17), (.mov (.c (.c (.int .i64 0)))), none⟩])
 (.seq (.kill [7, 8, 15, 16, 17] 0) (.block 0 (.loop (.seq (.kill [7, 8, 15, 16, 17] 0) (.seq (.region [
   ⟨(some 18), (.bin .lss .num (.t 17) (.t 16)), none⟩])
  (.seq (.kill [7, 8, 15, 16, 17, 18] 0) (.seq (.cond (.t 18)
  (.skip)
  (.exit 0))
  (.seq (.kill [7, 8, 15, 16, 17] 0) (.seq (.block 1 (.seq (.region [
   ⟨(some 19), (.mov (.t 17)), none⟩,
   ⟨(some 20), (.iaddr 3 (.t 15) (.t 17)), none⟩,
   ⟨(some 21), (.load (some 3) (.t 20)), none⟩,
   ⟨(some 10), (.box true 3 (.c (.agg [(.bool false), (.int .i64 0), .nils]))), none⟩,
   ⟨(some 9), (.mov (.t 19)), none⟩,
   ⟨none, (.store 3 (.t 10) (.t 21)), none⟩])
  (.seq (.kill [7, 8, 9, 10, 15, 16, 17] 1) (.seq (.seq (.region [
   ⟨(some 22), (.mov (.t 9)), none⟩,
   ⟨(some 23), (.bin .geq .num (.t 22) (.c (.c (.int .i64 60)))), none⟩,
   ⟨(some 24), (.mov (.t 23)), none⟩,
   ⟨(some 25), (.faddr 2 (.t 10)), (some (24, false))⟩,
   ⟨(some 26), (.load none (.t 25)), (some (24, false))⟩,
   ⟨(some 27), (.len .sl (.t 26)), (some (24, false))⟩,
   ⟨(some 28), (.bin .gtr .num (.t 27) (.c (.c (.int .i64 60)))), (some (24, false))⟩,
   ⟨(some 29), (.pick (.t 24) (.c (.c (.bool true))) (.t 28)), none⟩])
  (.seq (.kill [7, 8, 10, 15, 16, 17, 29] 1) (.cond (.t 29)
  (.exit 0)
  (.skip))))
  (.seq (.kill [7, 8, 10, 15, 16, 17] 1) (.seq (.region [
   ⟨(some 30), (.faddr 0 (.t 10)), none⟩,
   ⟨(some 31), (.load none (.t 30)), none⟩])
  (.seq (.kill [7, 8, 10, 15, 16, 17, 31] 1) (.cond (.t 31)
  (.seq (.region [
    ⟨(some 32), (.mov (.t 7)), none⟩,
    ⟨(some 33), (.faddr 1 (.t 10)), none⟩,
    ⟨(some 34), (.load none (.t 33)), none⟩,
    ⟨(some 35), (.call 15 [(.t 32), (.t 34)]), none⟩])
   (.seq (.kill [7, 8, 10, 15, 16, 17] 1) (.region [
    ⟨(some 36), (.mov (.t 8)), none⟩,
    ⟨(some 37), (.faddr 1 (.t 10)), none⟩,
    ⟨(some 38), (.load none (.t 37)), none⟩,
    ⟨(some 39), (.call 20 [(.t 36), (.t 38)]), none⟩])))
  (.seq (.draw 0 [
    ⟨0, none, ⟨(some 40), (.mov (.t 7)), none⟩, []⟩,
    ⟨1, none, ⟨(some 41), (.faddr 1 (.t 10)), none⟩, []⟩,
    ⟨2, none, ⟨(some 42), (.load none (.t 41)), none⟩, []⟩,
    ⟨3, none, ⟨(some 43), (.faddr 2 (.t 10)), none⟩, []⟩,
    ⟨4, none, ⟨(some 44), (.load none (.t 43)), none⟩, []⟩,
    ⟨6, none, ⟨(some 46), (.mov (.t 8)), none⟩, []⟩,
    ⟨7, none, ⟨(some 47), (.faddr 1 (.t 10)), none⟩, []⟩,
    ⟨8, none, ⟨(some 48), (.load none (.t 47)), none⟩, []⟩,
    ⟨9, none, ⟨(some 49), (.faddr 2 (.t 10)), none⟩, []⟩,
    ⟨10, none, ⟨(some 50), (.load none (.t 49)), none⟩, []⟩,
    ⟨5, none, ⟨(some 45), (.call 3 [(.t 40), (.t 42), (.t 44)]), none⟩, [(8, ⟨(some 48), (.load none (.t 47)), none⟩), (10, ⟨(some 50), (.load none (.t 49)), none⟩)]⟩,
    ⟨11, none, ⟨(some 51), (.call 21 [(.t 46), (.t 48), (.t 50)]), none⟩, []⟩,
    ⟨12, none, ⟨(some 52), (.bin .neq .num (.t 45) (.t 51)), none⟩, []⟩])
   (.seq (.kill [7, 8, 15, 16, 17, 52] 0) (.cond (.t 52)
   (.seq (.region [
     ⟨(some 53), (.mov (.t 7)), none⟩,
     ⟨(some 54), (.mov (.t 8)), none⟩,
     ⟨(some 4), (.mov (.t 53)), none⟩,
     ⟨(some 5), (.mov (.t 54)), none⟩,
     ⟨(some 6), (.mov (.c (.c (.int .i64 3)))), none⟩])
    (.ret))
   (.skip))))))))))))
  (.seq (.kill [7, 8, 15, 16, 17] 0) (.region [
   ⟨(some 55), (.bin .add .num (.t 17) (.c (.c (.int .i64 1)))), none⟩,
   ⟨(some 17), (.mov (.t 55)), none⟩]))))))))))))
 (.seq (.kill [7, 8] 0) (.seq (.region [
  ⟨(some 56), (.mov (.t 7)), none⟩,
  ⟨(some 57), (.mov (.t 8)), none⟩,
  ⟨(some 4), (.mov (.t 56)), none⟩,
  ⟨(some 5), (.mov (.t 57)), none⟩,
  ⟨(some 6), (.mov (.c (.c (.int .i64 0)))), none⟩])
 (.ret)))))))⟩
/-- campanile/tree.Build -/
def n196 : NF := ⟨105, [4],
 .seq (.region [
  ⟨(some 4), (.mov (.c (.c .nilp))), none⟩])
 (.seq (.kill [0, 1] 0) (.seq (.seq (.region [
  ⟨(some 16), (.mov (.t 0)), none⟩,
  ⟨(some 17), (.bin .eql .ptr (.t 16) (.c (.c .nilp))), none⟩])
 (.seq (.kill [0, 1, 17] 0) (.cond (.t 17)
 (.seq (.region [
   ⟨(some 4), (.mov (.c (.c .nilp))), none⟩])
  (.ret))
 (.skip))))
 (.seq (.kill [0, 1] 0) (.seq (.region [
  ⟨(some 18), .mkmap, none⟩,
  ⟨none, (.mupd (.int .i64) (.t 18) (.c (.c (.int .i64 0))) (.c (.c (.int .i64 0)))), none⟩,
  ⟨(some 19), (.mov (.t 18)), none⟩,
  ⟨(some 20), .mkmap, none⟩,
  ⟨(some 21), (.build [.nilm, .nilm, .nils] [(0, (1, (.t 19))), (1, (1, (.t 20)))]), none⟩,
  ⟨(some 22), (.box false 3 (.t 21)), none⟩,
  ⟨(some 5), (.mov (.t 22)), none⟩])
 (.seq (.kill [0, 1, 5] 0) (.seq (.seq (.region [
  ⟨(some 23), (.bslice false 1 1 [(.int .i64 0)] [(0, (1, (.c (.c (.int .i64 0)))))]), none⟩,
  ⟨(some 6), (.mov (.t 23)), none⟩])
 (.seq (.kill [0, 1, 5, 6] 0) (.block 0 (.loop (.seq (.kill [0, 1, 5, 6] 0) (.seq (.seq (.region [
   ⟨(some 24), (.mov (.t 6)), none⟩,
   ⟨(some 25), (.len .sl (.t 24)), none⟩,
   ⟨(some 26), (.bin .gtr .num (.t 25) (.c (.c (.int .i64 0)))), none⟩])
  (.seq (.kill [0, 1, 5, 6, 26] 0) (.cond (.t 26)
  (.skip)
  (.exit 0))))
  (.seq (.kill [0, 1, 5, 6] 0) (.block 1 (.seq (.region [
   ⟨(some 7), (.mov (.c (.c .nils))), none⟩])
  (.seq (.kill [0, 1, 5, 6, 7] 0) (.seq (.seq (.region [
   ⟨(some 27), (.mov (.t 6)), none⟩,
   ⟨(some 28), (.len .sl (.t 27)), none⟩,
   ⟨(some 29), (.mov (.c (.c (.int .i64 0)))), none⟩])
  (.seq (.kill [0, 1, 5, 7, 27, 28, 29] 0) (.block 2 (.loop (.seq (.kill [0, 1, 5, 7, 27, 28, 29] 0) (.seq (.region [
    ⟨(some 30), (.bin .lss .num (.t 29) (.t 28)), none⟩])
   (.seq (.kill [0, 1, 5, 7, 27, 28, 29, 30] 0) (.seq (.cond (.t 30)
   (.skip)
   (.exit 2))
   (.seq (.kill [0, 1, 5, 7, 27, 28, 29] 0) (.seq (.block 3 (.seq (.region [
    ⟨(some 31), (.iaddr 1 (.t 27) (.t 29)), none⟩,
    ⟨(some 32), (.load none (.t 31)), none⟩,
    ⟨(some 9), (.mov (.t 32)), none⟩])
   (.seq (.kill [0, 1, 5, 7, 9, 27, 28, 29] 0) (.seq (.region [
    ⟨(some 33), (.mov (.t 5)), none⟩,
    ⟨(some 34), (.mov (.t 5)), none⟩,
    ⟨(some 35), (.nilck (.t 34)), none⟩,
    ⟨(some 36), (.faddr 2 (.t 35)), none⟩,
    ⟨(some 37), (.load none (.t 36)), none⟩,
    ⟨(some 38), (.mov (.t 9)), none⟩,
    ⟨(some 39), (.bslice true 1 1 [(.int .i64 0)] [(0, (1, (.t 38)))]), none⟩,
    ⟨(some 40), (.app 1 8 (.t 37) (.t 39)), none⟩,
    ⟨(some 41), (.nilck (.t 33)), none⟩,
    ⟨(some 42), (.faddr 2 (.t 41)), none⟩,
    ⟨none, (.store 1 (.t 42) (.t 40)), none⟩])
   (.seq (.kill [0, 1, 5, 7, 9, 27, 28, 29] 0) (.seq (.region [
    ⟨(some 43), (.mov (.t 0)), none⟩,
    ⟨(some 44), (.mov (.t 9)), none⟩,
    ⟨(some 45), (.mov (.t 1)), none⟩,
    ⟨(some 46), (.call 5 [(.t 43), (.t 44), (.t 45)]), none⟩,
    ⟨(some 47), (.len .sl (.t 46)), none⟩,
    ⟨(some 48), (.mov (.c (.c (.int .i64 0)))), none⟩])
   (.seq (.kill [0, 1, 5, 7, 9, 27, 28, 29, 46, 47, 48] 0) (.block 4 (.loop (.seq (.kill [0, 1, 5, 7, 9, 27, 28, 29, 46, 47, 48] 0) (.seq (.region [
     ⟨(some 49), (.bin .lss .num (.t 48) (.t 47)), none⟩])
    (.seq (.kill [0, 1, 5, 7, 9, 27, 28, 29, 46, 47, 48, 49] 0) (.seq (.cond (.t 49)
    (.skip)
    (.exit 4))
    (.seq (.kill [0, 1, 5, 7, 9, 27, 28, 29, 46, 47, 48] 0) (.seq (.block 5 (.seq (.region [
     ⟨(some 50), (.iaddr 1 (.t 46) (.t 48)), none⟩,
     ⟨(some 51), (.load none (.t 50)), none⟩,
     ⟨(some 11), (.mov (.t 51)), none⟩])
    (.seq (.kill [0, 1, 5, 7, 9, 11, 27, 28, 29, 46, 47, 48] 0) (.seq (.region [
     ⟨(some 53), (.mov (.t 5)), none⟩,
     ⟨(some 54), (.nilck (.t 53)), none⟩,
     ⟨(some 55), (.faddr 0 (.t 54)), none⟩,
     ⟨(some 56), (.load none (.t 55)), none⟩,
     ⟨(some 57), (.mov (.t 11)), none⟩,
     ⟨(some 58), (.look (.int .i64) (.c (.int .i64 0)) true (.t 56) (.t 57)), none⟩,
     ⟨(some 52), (.mov (.t 58)), none⟩,
     ⟨(some 59), (.ext (.t 52) 0), none⟩,
     ⟨(some 60), (.ext (.t 52) 1), none⟩,
     ⟨(some 12), (.mov (.t 59)), none⟩,
     ⟨(some 13), (.mov (.t 60)), none⟩])
    (.seq (.kill [0, 1, 5, 7, 9, 11, 13, 27, 28, 29, 46, 47, 48] 0) (.seq (.region [
     ⟨(some 61), (.mov (.t 13)), none⟩,
     ⟨(some 62), (.un .not (.t 61)), none⟩])
    (.seq (.kill [0, 1, 5, 7, 9, 11, 27, 28, 29, 46, 47, 48, 62] 0) (.cond (.t 62)
    (.seq (.draw 0 [
      ⟨0, none, ⟨(some 63), (.mov (.t 5)), none⟩, []⟩,
      ⟨1, none, ⟨(some 64), (.nilck (.t 63)), none⟩, []⟩,
      ⟨2, none, ⟨(some 65), (.faddr 0 (.t 64)), none⟩, []⟩,
      ⟨3, none, ⟨(some 66), (.load none (.t 65)), none⟩, []⟩,
      ⟨4, none, ⟨(some 67), (.mov (.t 11)), none⟩, []⟩,
      ⟨5, none, ⟨(some 68), (.mov (.t 5)), none⟩, []⟩,
      ⟨6, none, ⟨(some 69), (.nilck (.t 68)), none⟩, []⟩,
      ⟨7, none, ⟨(some 70), (.faddr 0 (.t 69)), none⟩, []⟩,
      ⟨8, none, ⟨(some 71), (.load none (.t 70)), none⟩, []⟩,
      ⟨9, none, ⟨(some 72), (.mov (.t 9)), none⟩, []⟩,
      ⟨10, none, ⟨(some 73), (.look (.int .i64) (.c (.int .i64 0)) false (.t 71) (.t 72)), none⟩, []⟩,
      ⟨11, none, ⟨(some 74), (.bin .add .num (.t 73) (.c (.c (.int .i64 1)))), none⟩, []⟩,
      ⟨12, none, ⟨none, (.mupd (.int .i64) (.t 66) (.t 67) (.t 74)), none⟩, []⟩])
     (.seq (.kill [0, 1, 5, 7, 9, 11, 27, 28, 29, 46, 47, 48] 0) (.region [
      ⟨(some 75), (.mov (.t 7)), none⟩,
      ⟨(some 76), (.mov (.t 11)), none⟩,
      ⟨(some 77), (.bslice true 1 1 [(.int .i64 0)] [(0, (1, (.t 76)))]), none⟩,
      ⟨(some 78), (.app 1 8 (.t 75) (.t 77)), none⟩,
      ⟨(some 7), (.mov (.t 78)), none⟩])))
    (.skip)))))))))
    (.seq (.kill [0, 1, 5, 7, 9, 27, 28, 29, 46, 47, 48] 0) (.region [
     ⟨(some 79), (.bin .add .num (.t 48) (.c (.c (.int .i64 1)))), none⟩,
     ⟨(some 48), (.mov (.t 79)), none⟩])))))))))))))))))
   (.seq (.kill [0, 1, 5, 7, 27, 28, 29] 0) (.region [
    ⟨(some 80), (.bin .add .num (.t 29) (.c (.c (.int .i64 1)))), none⟩,
    ⟨(some 29), (.mov (.t 80)), none⟩]))))))))))))
  (.seq (.kill [0, 1, 5, 7] 0) (.seq (.region [
   ⟨(some 81), (.mov (.t 7)), none⟩,
   ⟨(some 82), (.call 74 [(.t 81)]), none⟩])
  (.seq (.kill [0, 1, 5, 7] 0) (.region [
   ⟨(some 83), (.mov (.t 7)), none⟩,
   ⟨(some 6), (.mov (.t 83)), none⟩])))))))))))))))
 (.seq (.kill [0, 1, 5] 0) (.seq (.seq (.region [
  ⟨(some 84), (.mov (.t 5)), none⟩,
  ⟨(some 85), (.nilck (.t 84)), none⟩,
  ⟨(some 86), (.faddr 2 (.t 85)), none⟩,
  ⟨(some 87), (.load none (.t 86)), none⟩,
  ⟨(some 88), (.len .sl (.t 87)), none⟩,
  ⟨(some 89), (.mov (.c (.c (.int .i64 0)))), none⟩])
 (.seq (.kill [0, 1, 5, 87, 88, 89] 0) (.block 6 (.loop (.seq (.kill [0, 1, 5, 87, 88, 89] 0) (.seq (.region [
   ⟨(some 90), (.bin .lss .num (.t 89) (.t 88)), none⟩])
  (.seq (.kill [0, 1, 5, 87, 88, 89, 90] 0) (.seq (.cond (.t 90)
  (.skip)
  (.exit 6))
  (.seq (.kill [0, 1, 5, 87, 88, 89] 0) (.seq (.block 7 (.seq (.region [
   ⟨(some 91), (.iaddr 1 (.t 87) (.t 89)), none⟩,
   ⟨(some 92), (.load none (.t 91)), none⟩,
   ⟨(some 15), (.mov (.t 92)), none⟩])
  (.seq (.kill [0, 1, 5, 15, 87, 88, 89] 0) (.draw 0 [
   ⟨0, none, ⟨(some 93), (.mov (.t 5)), none⟩, []⟩,
   ⟨1, none, ⟨(some 94), (.nilck (.t 93)), none⟩, []⟩,
   ⟨2, none, ⟨(some 95), (.faddr 1 (.t 94)), none⟩, []⟩,
   ⟨3, none, ⟨(some 96), (.load none (.t 95)), none⟩, []⟩,
   ⟨4, none, ⟨(some 97), (.mov (.t 15)), none⟩, []⟩,
   ⟨5, none, ⟨(some 98), (.mov (.t 5)), none⟩, []⟩,
   ⟨6, none, ⟨(some 99), (.mov (.t 0)), none⟩, []⟩,
   ⟨7, none, ⟨(some 100), (.mov (.t 15)), none⟩, []⟩,
   ⟨8, none, ⟨(some 101), (.mov (.t 1)), none⟩, []⟩,
   ⟨9, none, ⟨(some 102), (.call 202 [(.t 98), (.t 99), (.t 100), (.t 101)]), none⟩, [(3, ⟨(some 96), (.load none (.t 95)), none⟩)]⟩,
   ⟨10, none, ⟨none, (.mupd (.int .i64) (.t 96) (.t 97) (.t 102)), none⟩, []⟩]))))
  (.seq (.kill [0, 1, 5, 87, 88, 89] 0) (.region [
   ⟨(some 103), (.bin .add .num (.t 89) (.c (.c (.int .i64 1)))), none⟩,
   ⟨(some 89), (.mov (.t 103)), none⟩]))))))))))))
 (.seq (.kill [5] 0) (.seq (.region [
  ⟨(some 104), (.mov (.t 5)), none⟩,
  ⟨(some 4), (.mov (.t 104)), none⟩])
 (.ret)))))))))))⟩
/-- (*campanile/tree.Tree).Rank -/
def n195 : NF := ⟨21, [4, 5],
 .seq (.region [
  ⟨(some 4), (.mov (.c (.c (.int .i64 0)))), none⟩,
  ⟨(some 5), (.mov (.c (.c (.bool false)))), none⟩])
 (.seq (.kill [0, 1] 0) (.seq (.seq (.region [
  ⟨(some 8), (.mov (.t 0)), none⟩,
  ⟨(some 9), (.bin .eql .ptr (.t 8) (.c (.c .nilp))), none⟩])
 (.seq (.kill [0, 1, 9] 0) (.cond (.t 9)
 (.seq (.region [
   ⟨(some 4), (.mov (.c (.c (.int .i64 0)))), none⟩,
   ⟨(some 5), (.mov (.c (.c (.bool false)))), none⟩])
  (.ret))
 (.skip))))
 (.seq (.kill [0, 1] 0) (.seq (.region [
  ⟨(some 11), (.mov (.t 0)), none⟩,
  ⟨(some 12), (.nilck (.t 11)), none⟩,
  ⟨(some 13), (.faddr 0 (.t 12)), none⟩,
  ⟨(some 14), (.load none (.t 13)), none⟩,
  ⟨(some 15), (.mov (.t 1)), none⟩,
  ⟨(some 16), (.look (.int .i64) (.c (.int .i64 0)) true (.t 14) (.t 15)), none⟩,
  ⟨(some 10), (.mov (.t 16)), none⟩,
  ⟨(some 17), (.ext (.t 10) 0), none⟩,
  ⟨(some 18), (.ext (.t 10) 1), none⟩,
  ⟨(some 6), (.mov (.t 17)), none⟩,
  ⟨(some 7), (.mov (.t 18)), none⟩])
 (.seq (.kill [6, 7] 0) (.seq (.region [
  ⟨(some 19), (.mov (.t 6)), none⟩,
  ⟨(some 20), (.mov (.t 7)), none⟩,
  ⟨(some 4), (.mov (.t 19)), none⟩,
  ⟨(some 5), (.mov (.t 20)), none⟩])
 (.ret)))))))⟩
/-- (*campanile/tree.Tree).Parents -/
def n197 : NF := ⟨14, [4],
 .seq (.region [
  ⟨(some 4), (.mov (.c (.c .nils))), none⟩])
 (.seq (.kill [0, 1] 0) (.seq (.seq (.region [
  ⟨(some 5), (.mov (.t 0)), none⟩,
  ⟨(some 6), (.bin .eql .ptr (.t 5) (.c (.c .nilp))), none⟩])
 (.seq (.kill [0, 1, 6] 0) (.cond (.t 6)
 (.seq (.region [
   ⟨(some 4), (.mov (.c (.c .nils))), none⟩])
  (.ret))
 (.skip))))
 (.seq (.kill [0, 1] 0) (.seq (.region [
  ⟨(some 7), (.mov (.t 0)), none⟩,
  ⟨(some 8), (.nilck (.t 7)), none⟩,
  ⟨(some 9), (.faddr 1 (.t 8)), none⟩,
  ⟨(some 10), (.load none (.t 9)), none⟩,
  ⟨(some 11), (.mov (.t 1)), none⟩,
  ⟨(some 12), (.look (.int .i64) (.c .nils) false (.t 10) (.t 11)), none⟩,
  ⟨(some 13), (.call 203 [(.t 12)]), none⟩,
  ⟨(some 4), (.mov (.t 13)), none⟩])
 (.ret)))))⟩
/-- (*campanile/topo.Graph).Quality -/
def n4 : NF := ⟨26, [6],
 .seq (.region [
  ⟨(some 6), (.mov (.c (.c (.int .i64 0)))), none⟩])
 (.seq (.kill [0, 1, 2] 0) (.seq (.seq (.region [
  ⟨(some 7), (.mov (.t 0)), none⟩,
  ⟨(some 8), (.bin .eql .ptr (.t 7) (.c (.c .nilp))), none⟩])
 (.seq (.kill [0, 1, 2, 8] 0) (.cond (.t 8)
 (.seq (.region [
   ⟨(some 6), (.mov (.c (.c (.int .i64 0)))), none⟩])
  (.ret))
 (.skip))))
 (.seq (.kill [0, 1, 2] 0) (.seq (.draw 0 [
  ⟨0, none, ⟨(some 9), (.mov (.t 0)), none⟩, []⟩,
  ⟨1, none, ⟨(some 10), (.nilck (.t 9)), none⟩, []⟩,
  ⟨2, none, ⟨(some 11), (.faddr 1 (.t 10)), none⟩, []⟩,
  ⟨3, none, ⟨(some 12), (.load none (.t 11)), none⟩, []⟩,
  ⟨4, none, ⟨(some 13), (.mov (.t 1)), none⟩, []⟩,
  ⟨5, none, ⟨(some 14), (.mov (.t 2)), none⟩, []⟩,
  ⟨6, none, ⟨(some 15), (.build [(.int .i64 0), (.int .i64 0)] [(0, (1, (.t 13))), (1, (1, (.t 14)))]), none⟩, []⟩,
  ⟨7, none, ⟨(some 16), (.look (.arr 2 .i64) (.c (.int .i64 0)) false (.t 12) (.t 15)), none⟩, []⟩,
  ⟨8, none, ⟨(some 17), (.mov (.t 0)), none⟩, []⟩,
  ⟨9, none, ⟨(some 18), (.nilck (.t 17)), none⟩, []⟩,
  ⟨10, none, ⟨(some 19), (.faddr 1 (.t 18)), none⟩, []⟩,
  ⟨11, none, ⟨(some 20), (.load none (.t 19)), none⟩, []⟩,
  ⟨12, none, ⟨(some 21), (.mov (.t 2)), none⟩, []⟩,
  ⟨13, none, ⟨(some 22), (.mov (.t 1)), none⟩, []⟩,
  ⟨14, none, ⟨(some 23), (.build [(.int .i64 0), (.int .i64 0)] [(0, (1, (.t 21))), (1, (1, (.t 22)))]), none⟩, []⟩,
  ⟨15, none, ⟨(some 24), (.look (.arr 2 .i64) (.c (.int .i64 0)) false (.t 20) (.t 23)), none⟩, []⟩,
  ⟨16, none, ⟨(some 25), (.min [(.t 16), (.t 24)]), none⟩, []⟩,
  ⟨17, none, ⟨(some 6), (.mov (.t 25)), none⟩, []⟩])
 (.ret)))))⟩
/-- (*campanile/topo.Graph).Near -/
def n5 : NF := ⟨38, [6],
 .seq (.region [
  ⟨(some 6), (.mov (.c (.c .nils))), none⟩])
 (.seq (.kill [0, 1, 2] 0) (.seq (.seq (.region [
  ⟨(some 10), (.mov (.t 0)), none⟩,
  ⟨(some 11), (.mov (.t 1)), none⟩,
  ⟨(some 12), (.call 18 [(.t 10), (.t 11)]), none⟩,
  ⟨(some 13), (.un .not (.t 12)), none⟩])
 (.seq (.kill [0, 1, 2, 13] 0) (.cond (.t 13)
 (.seq (.region [
   ⟨(some 6), (.mov (.c (.c .nils))), none⟩])
  (.ret))
 (.skip))))
 (.seq (.kill [0, 1, 2] 0) (.seq (.region [
  ⟨(some 7), (.mov (.c (.c .nils))), none⟩])
 (.seq (.kill [0, 1, 2, 7] 0) (.seq (.seq (.region [
  ⟨(some 14), (.mov (.t 0)), none⟩,
  ⟨(some 15), (.nilck (.t 14)), none⟩,
  ⟨(some 16), (.faddr 0 (.t 15)), none⟩,
  ⟨(some 17), (.load none (.t 16)), none⟩,
  ⟨(some 18), (.mov (.c (.c (.int .i64 0)))), none⟩])
 (.seq (.kill [0, 1, 2, 7, 17, 18] 0) (.block 0 (.loop (.seq (.kill [0, 1, 2, 7, 17, 18] 0) (.seq (.region [
   ⟨(some 19), (.bin .lss .num (.t 18) (.t 17)), none⟩])
  (.seq (.kill [0, 1, 2, 7, 17, 18, 19] 0) (.seq (.cond (.t 19)
  (.skip)
  (.exit 0))
  (.seq (.kill [0, 1, 2, 7, 17, 18] 0) (.seq (.block 1 (.seq (.region [
   ⟨(some 20), (.mov (.t 18)), none⟩,
   ⟨(some 8), (.mov (.t 20)), none⟩])
  (.seq (.kill [0, 1, 2, 7, 8, 17, 18] 0) (.seq (.region [
   ⟨(some 21), (.mov (.t 0)), none⟩,
   ⟨(some 22), (.mov (.t 1)), none⟩,
   ⟨(some 23), (.mov (.t 8)), none⟩,
   ⟨(some 24), (.call 4 [(.t 21), (.t 22), (.t 23)]), none⟩,
   ⟨(some 9), (.mov (.t 24)), none⟩])
  (.seq (.kill [0, 1, 2, 7, 8, 9, 17, 18] 0) (.seq (.region [
   ⟨(some 25), (.mov (.t 9)), none⟩,
   ⟨(some 26), (.bin .gtr .num (.t 25) (.c (.c (.int .i64 0)))), none⟩,
   ⟨(some 27), (.mov (.t 26)), none⟩,
   ⟨(some 28), (.mov (.t 9)), (some (27, true))⟩,
   ⟨(some 29), (.mov (.t 2)), (some (27, true))⟩,
   ⟨(some 30), (.bin .geq .num (.t 28) (.t 29)), (some (27, true))⟩,
   ⟨(some 31), (.pick (.t 27) (.t 30) (.c (.c (.bool false)))), none⟩])
  (.seq (.kill [0, 1, 2, 7, 8, 17, 18, 31] 0) (.cond (.t 31)
  (.region [
    ⟨(some 32), (.mov (.t 7)), none⟩,
    ⟨(some 33), (.mov (.t 8)), none⟩,
    ⟨(some 34), (.bslice true 1 1 [(.int .i64 0)] [(0, (1, (.t 33)))]), none⟩,
    ⟨(some 35), (.app 1 8 (.t 32) (.t 34)), none⟩,
    ⟨(some 7), (.mov (.t 35)), none⟩])
  (.skip)))))))))
  (.seq (.kill [0, 1, 2, 7, 17, 18] 0) (.region [
   ⟨(some 36), (.bin .add .num (.t 18) (.c (.c (.int .i64 1)))), none⟩,
   ⟨(some 18), (.mov (.t 36)), none⟩]))))))))))))
 (.seq (.kill [7] 0) (.seq (.region [
  ⟨(some 37), (.mov (.t 7)), none⟩,
  ⟨(some 6), (.mov (.t 37)), none⟩])
 (.ret)))))))))⟩
/-- (*campanile/tree.Tree).Path -/
def n200 : NF := ⟨30, [4],
 .seq (.region [
  ⟨(some 4), (.mov (.c (.c .nils))), none⟩])
 (.seq (.kill [0, 1] 0) (.seq (.seq (.region [
  ⟨(some 9), (.mov (.t 0)), none⟩,
  ⟨(some 10), (.mov (.t 1)), none⟩,
  ⟨(some 11), (.call 195 [(.t 9), (.t 10)]), none⟩,
  ⟨(some 8), (.mov (.t 11)), none⟩,
  ⟨(some 12), (.ext (.t 8) 0), none⟩,
  ⟨(some 13), (.ext (.t 8) 1), none⟩,
  ⟨(some 5), (.mov (.t 12)), none⟩,
  ⟨(some 6), (.mov (.t 13)), none⟩])
 (.seq (.kill [0, 1, 6] 0) (.seq (.region [
  ⟨(some 14), (.mov (.t 6)), none⟩,
  ⟨(some 15), (.un .not (.t 14)), none⟩])
 (.seq (.kill [0, 1, 15] 0) (.cond (.t 15)
 (.seq (.region [
   ⟨(some 4), (.mov (.c (.c .nils))), none⟩])
  (.ret))
 (.skip))))))
 (.seq (.kill [0, 1] 0) (.seq (.region [
  ⟨(some 16), (.mov (.t 1)), none⟩,
  ⟨(some 17), (.bslice false 1 1 [(.int .i64 0)] [(0, (1, (.t 16)))]), none⟩,
  ⟨(some 7), (.mov (.t 17)), none⟩])
 (.seq (.kill [0, 1, 7] 0) (.seq (.block 0 (.loop (.seq (.kill [0, 1, 7] 0) (.seq (.seq (.region [
   ⟨(some 18), (.mov (.t 1)), none⟩,
   ⟨(some 19), (.bin .neq .num (.t 18) (.c (.c (.int .i64 0)))), none⟩])
  (.seq (.kill [0, 1, 7, 19] 0) (.cond (.t 19)
  (.skip)
  (.exit 0))))
  (.seq (.kill [0, 1, 7] 0) (.block 1 (.seq (.region [
   ⟨(some 20), (.mov (.t 0)), none⟩,
   ⟨(some 21), (.mov (.t 1)), none⟩,
   ⟨(some 22), (.call 204 [(.t 20), (.t 21)]), none⟩,
   ⟨(some 1), (.mov (.t 22)), none⟩])
  (.seq (.kill [0, 1, 7] 0) (.region [
   ⟨(some 23), (.mov (.t 7)), none⟩,
   ⟨(some 24), (.mov (.t 1)), none⟩,
   ⟨(some 25), (.bslice true 1 1 [(.int .i64 0)] [(0, (1, (.t 24)))]), none⟩,
   ⟨(some 26), (.app 1 8 (.t 23) (.t 25)), none⟩,
   ⟨(some 7), (.mov (.t 26)), none⟩])))))))))
 (.seq (.kill [7] 0) (.seq (.region [
  ⟨(some 27), (.mov (.t 7)), none⟩,
  ⟨(some 28), (.call 205 [(.t 27)]), none⟩])
 (.seq (.kill [7] 0) (.seq (.region [
  ⟨(some 29), (.mov (.t 7)), none⟩,
  ⟨(some 4), (.mov (.t 29)), none⟩])
 (.ret)))))))))))⟩
/-- campanile/campanilelaw21.awake -/
def n201 : NF := ⟨37, [0],
 .seq (.region [
  ⟨(some 0), (.mov (.c (.c (.bool false)))), none⟩])
 (.seq (.kill [] 0) (.seq (.region [
  ⟨(some 5), (.call 2 [(.c (.c (.int .i64 3)))]), none⟩,
  ⟨(some 1), (.mov (.t 5)), none⟩])
 (.seq (.kill [1] 0) (.seq (.region [
  ⟨(some 6), (.mov (.t 1)), none⟩,
  ⟨(some 7), (.build [(.int .i64 0), (.int .i64 0), (.int .i64 0)] [(0, (1, (.c (.c (.int .i64 0))))), (1, (1, (.c (.c (.int .i64 1))))), (2, (1, (.c (.c (.int .i64 9)))))]), none⟩,
  ⟨(some 8), (.bslice false 3 1 [(.int .i64 0), (.int .i64 0), (.int .i64 0)] [(0, (3, (.t 7)))]), none⟩,
  ⟨(some 9), (.call 3 [(.t 6), (.c (.c (.int .i64 0))), (.t 8)]), none⟩])
 (.seq (.kill [1] 0) (.seq (.region [
  ⟨(some 10), (.mov (.t 1)), none⟩,
  ⟨(some 11), (.build [(.int .i64 0), (.int .i64 0), (.int .i64 0)] [(0, (1, (.c (.c (.int .i64 1))))), (1, (1, (.c (.c (.int .i64 0))))), (2, (1, (.c (.c (.int .i64 9)))))]), none⟩,
  ⟨(some 12), (.build [(.int .i64 0), (.int .i64 0), (.int .i64 0)] [(0, (1, (.c (.c (.int .i64 1))))), (1, (1, (.c (.c (.int .i64 2))))), (2, (1, (.c (.c (.int .i64 9)))))]), none⟩,
  ⟨(some 13), (.bslice false 3 2 [(.int .i64 0), (.int .i64 0), (.int .i64 0)] [(0, (3, (.t 11))), (3, (3, (.t 12)))]), none⟩,
  ⟨(some 14), (.call 3 [(.t 10), (.c (.c (.int .i64 1))), (.t 13)]), none⟩])
 (.seq (.kill [1] 0) (.seq (.region [
  ⟨(some 15), (.mov (.t 1)), none⟩,
  ⟨(some 16), (.build [(.int .i64 0), (.int .i64 0), (.int .i64 0)] [(0, (1, (.c (.c (.int .i64 2))))), (1, (1, (.c (.c (.int .i64 1))))), (2, (1, (.c (.c (.int .i64 9)))))]), none⟩,
  ⟨(some 17), (.bslice false 3 1 [(.int .i64 0), (.int .i64 0), (.int .i64 0)] [(0, (3, (.t 16)))]), none⟩,
  ⟨(some 18), (.call 3 [(.t 15), (.c (.c (.int .i64 2))), (.t 17)]), none⟩])
 (.seq (.kill [1] 0) (.seq (.region [
  ⟨(some 19), (.mov (.t 1)), none⟩,
  ⟨(some 20), (.call 196 [(.t 19), (.c (.c (.int .i64 1)))]), none⟩,
  ⟨(some 2), (.mov (.t 20)), none⟩])
 (.seq (.kill [2] 0) (.seq (.region [
  ⟨(some 22), (.mov (.t 2)), none⟩,
  ⟨(some 23), (.call 195 [(.t 22), (.c (.c (.int .i64 2)))]), none⟩,
  ⟨(some 21), (.mov (.t 23)), none⟩,
  ⟨(some 24), (.ext (.t 21) 0), none⟩,
  ⟨(some 25), (.ext (.t 21) 1), none⟩,
  ⟨(some 3), (.mov (.t 24)), none⟩,
  ⟨(some 4), (.mov (.t 25)), none⟩])
 (.seq (.kill [2, 3, 4] 0) (.seq (.region [
  ⟨(some 26), (.mov (.t 4)), none⟩,
  ⟨(some 27), (.mov (.t 26)), none⟩,
  ⟨(some 28), (.mov (.t 3)), (some (27, true))⟩,
  ⟨(some 29), (.bin .eql .num (.t 28) (.c (.c (.int .i64 2)))), (some (27, true))⟩,
  ⟨(some 30), (.pick (.t 27) (.t 29) (.c (.c (.bool false)))), none⟩,
  ⟨(some 31), (.mov (.t 30)), none⟩,
  ⟨(some 32), (.mov (.t 2)), (some (31, true))⟩,
  ⟨(some 33), (.call 200 [(.t 32), (.c (.c (.int .i64 2)))]), (some (31, true))⟩,
  ⟨(some 34), (.bslice false 1 3 [(.int .i64 0)] [(0, (1, (.c (.c (.int .i64 0))))), (1, (1, (.c (.c (.int .i64 1))))), (2, (1, (.c (.c (.int .i64 2)))))]), (some (31, true))⟩,
  ⟨(some 35), (.call 13 [(.t 33), (.t 34)]), (some (31, true))⟩,
  ⟨(some 36), (.pick (.t 31) (.t 35) (.c (.c (.bool false)))), none⟩,
  ⟨(some 0), (.mov (.t 36)), none⟩])
 (.ret)))))))))))))))⟩
/-- (*campanile/tree.Tree).Order -/
def n199 : NF := ⟨10, [2],
 .seq (.region [
  ⟨(some 2), (.mov (.c (.c .nils))), none⟩])
 (.seq (.kill [0] 0) (.seq (.seq (.region [
  ⟨(some 3), (.mov (.t 0)), none⟩,
  ⟨(some 4), (.bin .eql .ptr (.t 3) (.c (.c .nilp))), none⟩])
 (.seq (.kill [0, 4] 0) (.cond (.t 4)
 (.seq (.region [
   ⟨(some 2), (.mov (.c (.c .nils))), none⟩])
  (.ret))
 (.skip))))
 (.seq (.kill [0] 0) (.seq (.region [
  ⟨(some 5), (.mov (.t 0)), none⟩,
  ⟨(some 6), (.nilck (.t 5)), none⟩,
  ⟨(some 7), (.faddr 2 (.t 6)), none⟩,
  ⟨(some 8), (.load none (.t 7)), none⟩,
  ⟨(some 9), (.call 203 [(.t 8)]), none⟩,
  ⟨(some 2), (.mov (.t 9)), none⟩])
 (.ret)))))⟩
/-- campanile/campanileref1.SameInts -/
def n13 : NF := ⟨26, [4],
 .seq (.region [
  ⟨(some 4), (.mov (.c (.c (.bool false)))), none⟩])
 (.seq (.kill [0, 1] 0) (.seq (.seq (.region [
  ⟨(some 6), (.mov (.t 0)), none⟩,
  ⟨(some 7), (.len .sl (.t 6)), none⟩,
  ⟨(some 8), (.mov (.t 1)), none⟩,
  ⟨(some 9), (.len .sl (.t 8)), none⟩,
  ⟨(some 10), (.bin .neq .num (.t 7) (.t 9)), none⟩])
 (.seq (.kill [0, 1, 10] 0) (.cond (.t 10)
 (.seq (.region [
   ⟨(some 4), (.mov (.c (.c (.bool false)))), none⟩])
  (.ret))
 (.skip))))
 (.seq (.kill [0, 1] 0) (.seq (.seq (.region [
  ⟨(some 11), (.mov (.t 0)), none⟩,
  ⟨(some 12), (.len .sl (.t 11)), none⟩,
  ⟨(some 13), (.mov (.c (.c (.int .i64 0)))), none⟩])
 (.seq (.kill [0, 1, 12, 13] 0) (.block 0 (.loop (.seq (.kill [0, 1, 12, 13] 0) (.seq (.region [
   ⟨(some 14), (.bin .lss .num (.t 13) (.t 12)), none⟩])
  (.seq (.kill [0, 1, 12, 13, 14] 0) (.seq (.cond (.t 14)
  (.skip)
  (.exit 0))
  (.seq (.kill [0, 1, 12, 13] 0) (.seq (.block 1 (.seq (.region [
   ⟨(some 15), (.mov (.t 13)), none⟩,
   ⟨(some 5), (.mov (.t 15)), none⟩])
  (.seq (.kill [0, 1, 5, 12, 13] 0) (.seq (.draw 0 [
   ⟨0, none, ⟨(some 16), (.mov (.t 0)), none⟩, []⟩,
   ⟨1, none, ⟨(some 17), (.mov (.t 5)), none⟩, []⟩,
   ⟨2, none, ⟨(some 18), (.iaddr 1 (.t 16) (.t 17)), none⟩, []⟩,
   ⟨3, none, ⟨(some 19), (.load none (.t 18)), none⟩, []⟩,
   ⟨4, none, ⟨(some 20), (.mov (.t 1)), none⟩, []⟩,
   ⟨5, none, ⟨(some 21), (.mov (.t 5)), none⟩, []⟩,
   ⟨6, none, ⟨(some 22), (.iaddr 1 (.t 20) (.t 21)), none⟩, []⟩,
   ⟨7, none, ⟨(some 23), (.load none (.t 22)), none⟩, []⟩,
   ⟨8, none, ⟨(some 24), (.bin .neq .num (.t 19) (.t 23)), none⟩, []⟩])
  (.seq (.kill [0, 1, 12, 13, 24] 0) (.cond (.t 24)
  (.seq (.region [
    ⟨(some 4), (.mov (.c (.c (.bool false)))), none⟩])
   (.ret))
  (.skip)))))))
  (.seq (.kill [0, 1, 12, 13] 0) (.region [
   ⟨(some 25), (.bin .add .num (.t 13) (.c (.c (.int .i64 1)))), none⟩,
   ⟨(some 13), (.mov (.t 25)), none⟩]))))))))))))
 (.seq (.kill [] 0) (.seq (.region [
  ⟨(some 4), (.mov (.c (.c (.bool true)))), none⟩])
 (.ret)))))))⟩
/-- (*campanile/tree.Tree).Children -/
def n198 : NF := ⟨36, [4],
 .seq (.region [
  ⟨(some 4), (.mov (.c (.c .nils))), none⟩])
 (.seq (.kill [0, 1] 0) (.seq (.seq (.region [
  ⟨(some 8), (.mov (.t 0)), none⟩,
  ⟨(some 9), (.bin .eql .ptr (.t 8) (.c (.c .nilp))), none⟩])
 (.seq (.kill [0, 1, 9] 0) (.cond (.t 9)
 (.seq (.region [
   ⟨(some 4), (.mov (.c (.c .nils))), none⟩])
  (.ret))
 (.skip))))
 (.seq (.kill [0, 1] 0) (.seq (.region [
  ⟨(some 5), (.mov (.c (.c .nils))), none⟩])
 (.seq (.kill [0, 1, 5] 0) (.seq (.seq (.region [
  ⟨(some 10), (.mov (.t 0)), none⟩,
  ⟨(some 11), (.nilck (.t 10)), none⟩,
  ⟨(some 12), (.faddr 2 (.t 11)), none⟩,
  ⟨(some 13), (.load none (.t 12)), none⟩,
  ⟨(some 14), (.len .sl (.t 13)), none⟩,
  ⟨(some 15), (.mov (.c (.c (.int .i64 0)))), none⟩])
 (.seq (.kill [0, 1, 5, 13, 14, 15] 0) (.block 0 (.loop (.seq (.kill [0, 1, 5, 13, 14, 15] 0) (.seq (.region [
   ⟨(some 16), (.bin .lss .num (.t 15) (.t 14)), none⟩])
  (.seq (.kill [0, 1, 5, 13, 14, 15, 16] 0) (.seq (.cond (.t 16)
  (.skip)
  (.exit 0))
  (.seq (.kill [0, 1, 5, 13, 14, 15] 0) (.seq (.block 1 (.seq (.region [
   ⟨(some 17), (.iaddr 1 (.t 13) (.t 15)), none⟩,
   ⟨(some 18), (.load none (.t 17)), none⟩,
   ⟨(some 7), (.mov (.t 18)), none⟩])
  (.seq (.kill [0, 1, 5, 7, 13, 14, 15] 0) (.seq (.region [
   ⟨(some 19), (.mov (.t 7)), none⟩,
   ⟨(some 20), (.bin .neq .num (.t 19) (.c (.c (.int .i64 0)))), none⟩,
   ⟨(some 21), (.mov (.t 20)), none⟩,
   ⟨(some 22), (.mov (.t 0)), (some (21, true))⟩,
   ⟨(some 23), (.mov (.t 7)), (some (21, true))⟩,
   ⟨(some 24), (.call 204 [(.t 22), (.t 23)]), (some (21, true))⟩,
   ⟨(some 25), (.mov (.t 1)), (some (21, true))⟩,
   ⟨(some 26), (.bin .eql .num (.t 24) (.t 25)), (some (21, true))⟩,
   ⟨(some 27), (.pick (.t 21) (.t 26) (.c (.c (.bool false)))), none⟩])
  (.seq (.kill [0, 1, 5, 7, 13, 14, 15, 27] 0) (.cond (.t 27)
  (.region [
    ⟨(some 28), (.mov (.t 5)), none⟩,
    ⟨(some 29), (.mov (.t 7)), none⟩,
    ⟨(some 30), (.bslice true 1 1 [(.int .i64 0)] [(0, (1, (.t 29)))]), none⟩,
    ⟨(some 31), (.app 1 8 (.t 28) (.t 30)), none⟩,
    ⟨(some 5), (.mov (.t 31)), none⟩])
  (.skip)))))))
  (.seq (.kill [0, 1, 5, 13, 14, 15] 0) (.region [
   ⟨(some 32), (.bin .add .num (.t 15) (.c (.c (.int .i64 1)))), none⟩,
   ⟨(some 15), (.mov (.t 32)), none⟩]))))))))))))
 (.seq (.kill [5] 0) (.seq (.region [
  ⟨(some 33), (.mov (.t 5)), none⟩,
  ⟨(some 34), (.call 74 [(.t 33)]), none⟩])
 (.seq (.kill [5] 0) (.seq (.region [
  ⟨(some 35), (.mov (.t 5)), none⟩,
  ⟨(some 4), (.mov (.t 35)), none⟩])
 (.ret)))))))))))⟩
/-- campanile/campanileref18.Build -/
def n237 : NF := ⟨101, [4],
 .seq (.region [
  ⟨(some 4), (.mov (.c (.c .nilp))), none⟩])
 (.seq (.kill [0, 1] 0) (.seq (.region [
  ⟨(some 12), (.build [(.int .i64 0), (.int .i64 0), (.int .i64 0), (.int .i64 0), (.int .i64 0), (.int .i64 0), (.int .i64 0), (.int .i64 0), (.int .i64 0), (.int .i64 0), (.int .i64 0), (.int .i64 0), (.int .i64 0), (.int .i64 0), (.int .i64 0), (.int .i64 0), .nils, .nils, .nils, .nils, .nils, .nils, .nils, .nils, .nils, .nils, .nils, .nils, .nils, .nils, .nils, .nils] []), none⟩,
  ⟨(some 13), (.box false 32 (.t 12)), none⟩,
  ⟨(some 5), (.mov (.t 13)), none⟩])
 (.seq (.kill [0, 1, 5] 0) (.seq (.seq (.region [
  ⟨(some 14), (.mov (.c (.c (.int .i64 0)))), none⟩])
 (.seq (.kill [0, 1, 5, 14] 0) (.block 0 (.loop (.seq (.kill [0, 1, 5, 14] 0) (.seq (.region [
   ⟨(some 15), (.bin .lss .num (.t 14) (.c (.c (.int .i64 16)))), none⟩])
  (.seq (.kill [0, 1, 5, 14, 15] 0) (.seq (.cond (.t 15)
  (.skip)
  (.exit 0))
  (.seq (.kill [0, 1, 5, 14] 0) (.seq (.block 1 (.seq (.region [
   ⟨(some 16), (.mov (.t 14)), none⟩,
   ⟨(some 6), (.mov (.t 16)), none⟩])
  (.seq (.kill [0, 1, 5, 6, 14] 0) (.region [
   ⟨(some 17), (.mov (.t 5)), none⟩,
   ⟨(some 18), (.mov (.t 6)), none⟩,
   ⟨(some 19), (.nilck (.t 17)), none⟩,
   ⟨(some 20), (.faddr 0 (.t 19)), none⟩,
   ⟨(some 21), (.iaddrA 16 1 (.t 20) (.t 18)), none⟩,
   ⟨none, (.store 1 (.t 21) (.c (.c (.int .i64 (-1))))), none⟩]))))
  (.seq (.kill [0, 1, 5, 14] 0) (.region [
   ⟨(some 22), (.bin .add .num (.t 14) (.c (.c (.int .i64 1)))), none⟩,
   ⟨(some 14), (.mov (.t 22)), none⟩]))))))))))))
 (.seq (.kill [0, 1, 5] 0) (.seq (.region [
  ⟨(some 23), (.mov (.t 5)), none⟩,
  ⟨(some 24), (.nilck (.t 23)), none⟩,
  ⟨(some 25), (.faddr 0 (.t 24)), none⟩,
  ⟨(some 26), (.iaddrA 16 1 (.t 25) (.c (.c (.int .i64 0)))), none⟩,
  ⟨none, (.store 1 (.t 26) (.c (.c (.int .i64 0)))), none⟩])
 (.seq (.kill [0, 1, 5] 0) (.seq (.seq (.region [
  ⟨(some 27), (.mov (.t 0)), none⟩,
  ⟨(some 28), (.nilck (.t 27)), none⟩,
  ⟨(some 29), (.faddr 0 (.t 28)), none⟩,
  ⟨(some 30), (.load none (.t 29)), none⟩,
  ⟨(some 31), (.mov (.c (.c (.int .i64 0)))), none⟩])
 (.seq (.kill [0, 1, 5, 30, 31] 0) (.block 2 (.loop (.seq (.kill [0, 1, 5, 30, 31] 0) (.seq (.region [
   ⟨(some 32), (.bin .lss .num (.t 31) (.t 30)), none⟩])
  (.seq (.kill [0, 1, 5, 30, 31, 32] 0) (.seq (.cond (.t 32)
  (.skip)
  (.exit 2))
  (.seq (.kill [0, 1, 5, 30, 31] 0) (.seq (.block 3 (.seq (.region [
   ⟨(some 33), (.mov (.t 31)), none⟩,
   ⟨(some 7), (.mov (.t 33)), none⟩])
  (.seq (.kill [0, 1, 5, 7, 30, 31] 0) (.seq (.region [
   ⟨(some 34), (.mov (.t 0)), none⟩,
   ⟨(some 35), (.nilck (.t 34)), none⟩,
   ⟨(some 36), (.faddr 0 (.t 35)), none⟩,
   ⟨(some 37), (.load none (.t 36)), none⟩,
   ⟨(some 38), (.mov (.c (.c (.int .i64 0)))), none⟩])
  (.seq (.kill [0, 1, 5, 7, 30, 31, 37, 38] 0) (.block 4 (.loop (.seq (.kill [0, 1, 5, 7, 30, 31, 37, 38] 0) (.seq (.region [
    ⟨(some 39), (.bin .lss .num (.t 38) (.t 37)), none⟩])
   (.seq (.kill [0, 1, 5, 7, 30, 31, 37, 38, 39] 0) (.seq (.cond (.t 39)
   (.skip)
   (.exit 4))
   (.seq (.kill [0, 1, 5, 7, 30, 31, 37, 38] 0) (.seq (.block 5 (.seq (.region [
    ⟨(some 40), (.mov (.t 38)), none⟩,
    ⟨(some 8), (.mov (.t 40)), none⟩])
   (.seq (.kill [0, 1, 5, 7, 8, 30, 31, 37, 38] 0) (.seq (.seq (.region [
    ⟨(some 41), (.mov (.t 5)), none⟩,
    ⟨(some 42), (.mov (.t 8)), none⟩,
    ⟨(some 43), (.nilck (.t 41)), none⟩,
    ⟨(some 44), (.faddr 0 (.t 43)), none⟩,
    ⟨(some 45), (.iaddrA 16 1 (.t 44) (.t 42)), none⟩,
    ⟨(some 46), (.load none (.t 45)), none⟩,
    ⟨(some 47), (.mov (.t 7)), none⟩,
    ⟨(some 48), (.bin .neq .num (.t 46) (.t 47)), none⟩])
   (.seq (.kill [0, 1, 5, 7, 8, 30, 31, 37, 38, 48] 0) (.cond (.t 48)
   (.exit 5)
   (.skip))))
   (.seq (.kill [0, 1, 5, 7, 8, 30, 31, 37, 38] 0) (.seq (.region [
    ⟨(some 49), (.mov (.t 0)), none⟩,
    ⟨(some 50), (.mov (.t 8)), none⟩,
    ⟨(some 51), (.mov (.t 1)), none⟩,
    ⟨(some 52), (.call 12 [(.t 49), (.t 50), (.t 51)]), none⟩,
    ⟨(some 53), (.len .sl (.t 52)), none⟩,
    ⟨(some 54), (.mov (.c (.c (.int .i64 0)))), none⟩])
   (.seq (.kill [0, 1, 5, 7, 30, 31, 37, 38, 52, 53, 54] 0) (.block 6 (.loop (.seq (.kill [0, 1, 5, 7, 30, 31, 37, 38, 52, 53, 54] 0) (.seq (.region [
     ⟨(some 55), (.bin .lss .num (.t 54) (.t 53)), none⟩])
    (.seq (.kill [0, 1, 5, 7, 30, 31, 37, 38, 52, 53, 54, 55] 0) (.seq (.cond (.t 55)
    (.skip)
    (.exit 6))
    (.seq (.kill [0, 1, 5, 7, 30, 31, 37, 38, 52, 53, 54] 0) (.seq (.block 7 (.seq (.region [
     ⟨(some 56), (.iaddr 1 (.t 52) (.t 54)), none⟩,
     ⟨(some 57), (.load none (.t 56)), none⟩,
     ⟨(some 10), (.mov (.t 57)), none⟩])
    (.seq (.kill [0, 1, 5, 7, 10, 30, 31, 37, 38, 52, 53, 54] 0) (.seq (.region [
     ⟨(some 58), (.mov (.t 5)), none⟩,
     ⟨(some 59), (.mov (.t 10)), none⟩,
     ⟨(some 60), (.nilck (.t 58)), none⟩,
     ⟨(some 61), (.faddr 0 (.t 60)), none⟩,
     ⟨(some 62), (.iaddrA 16 1 (.t 61) (.t 59)), none⟩,
     ⟨(some 63), (.load none (.t 62)), none⟩,
     ⟨(some 64), (.bin .lss .num (.t 63) (.c (.c (.int .i64 0)))), none⟩])
    (.seq (.kill [0, 1, 5, 7, 10, 30, 31, 37, 38, 52, 53, 54, 64] 0) (.cond (.t 64)
    (.region [
      ⟨(some 65), (.mov (.t 5)), none⟩,
      ⟨(some 66), (.mov (.t 10)), none⟩,
      ⟨(some 67), (.mov (.t 7)), none⟩,
      ⟨(some 68), (.bin .add .num (.t 67) (.c (.c (.int .i64 1)))), none⟩,
      ⟨(some 69), (.nilck (.t 65)), none⟩,
      ⟨(some 70), (.faddr 0 (.t 69)), none⟩,
      ⟨(some 71), (.iaddrA 16 1 (.t 70) (.t 66)), none⟩,
      ⟨none, (.store 1 (.t 71) (.t 68)), none⟩])
    (.skip)))))))
    (.seq (.kill [0, 1, 5, 7, 30, 31, 37, 38, 52, 53, 54] 0) (.region [
     ⟨(some 72), (.bin .add .num (.t 54) (.c (.c (.int .i64 1)))), none⟩,
     ⟨(some 54), (.mov (.t 72)), none⟩])))))))))))))))))
   (.seq (.kill [0, 1, 5, 7, 30, 31, 37, 38] 0) (.region [
    ⟨(some 73), (.bin .add .num (.t 38) (.c (.c (.int .i64 1)))), none⟩,
    ⟨(some 38), (.mov (.t 73)), none⟩])))))))))))))))
  (.seq (.kill [0, 1, 5, 30, 31] 0) (.region [
   ⟨(some 74), (.bin .add .num (.t 31) (.c (.c (.int .i64 1)))), none⟩,
   ⟨(some 31), (.mov (.t 74)), none⟩]))))))))))))
 (.seq (.kill [0, 1, 5] 0) (.seq (.seq (.region [
  ⟨(some 75), (.mov (.t 0)), none⟩,
  ⟨(some 76), (.nilck (.t 75)), none⟩,
  ⟨(some 77), (.faddr 0 (.t 76)), none⟩,
  ⟨(some 78), (.load none (.t 77)), none⟩,
  ⟨(some 79), (.mov (.c (.c (.int .i64 0)))), none⟩])
 (.seq (.kill [0, 1, 5, 78, 79] 0) (.block 8 (.loop (.seq (.kill [0, 1, 5, 78, 79] 0) (.seq (.region [
   ⟨(some 80), (.bin .lss .num (.t 79) (.t 78)), none⟩])
  (.seq (.kill [0, 1, 5, 78, 79, 80] 0) (.seq (.cond (.t 80)
  (.skip)
  (.exit 8))
  (.seq (.kill [0, 1, 5, 78, 79] 0) (.seq (.block 9 (.seq (.region [
   ⟨(some 81), (.mov (.t 79)), none⟩,
   ⟨(some 11), (.mov (.t 81)), none⟩])
  (.seq (.kill [0, 1, 5, 11, 78, 79] 0) (.seq (.region [
   ⟨(some 82), (.mov (.t 5)), none⟩,
   ⟨(some 83), (.mov (.t 11)), none⟩,
   ⟨(some 84), (.nilck (.t 82)), none⟩,
   ⟨(some 85), (.faddr 0 (.t 84)), none⟩,
   ⟨(some 86), (.iaddrA 16 1 (.t 85) (.t 83)), none⟩,
   ⟨(some 87), (.load none (.t 86)), none⟩,
   ⟨(some 88), (.bin .gtr .num (.t 87) (.c (.c (.int .i64 0)))), none⟩])
  (.seq (.kill [0, 1, 5, 11, 78, 79, 88] 0) (.cond (.t 88)
  (.draw 0 [
    ⟨0, none, ⟨(some 89), (.mov (.t 5)), none⟩, []⟩,
    ⟨1, none, ⟨(some 90), (.mov (.t 11)), none⟩, []⟩,
    ⟨2, none, ⟨(some 91), (.mov (.t 0)), none⟩, []⟩,
    ⟨3, none, ⟨(some 92), (.mov (.t 5)), none⟩, []⟩,
    ⟨4, none, ⟨(some 93), (.mov (.t 11)), none⟩, []⟩,
    ⟨5, none, ⟨(some 94), (.mov (.t 1)), none⟩, []⟩,
    ⟨7, none, ⟨(some 96), (.nilck (.t 89)), none⟩, []⟩,
    ⟨8, none, ⟨(some 97), (.faddr 16 (.t 96)), none⟩, []⟩,
    ⟨6, none, ⟨(some 95), (.call 244 [(.t 91), (.t 92), (.t 93), (.t 94)]), none⟩, []⟩,
    ⟨9, none, ⟨(some 98), (.iaddrA 16 1 (.t 97) (.t 90)), none⟩, []⟩,
    ⟨10, none, ⟨none, (.store 1 (.t 98) (.t 95)), none⟩, []⟩])
  (.skip)))))))
  (.seq (.kill [0, 1, 5, 78, 79] 0) (.region [
   ⟨(some 99), (.bin .add .num (.t 79) (.c (.c (.int .i64 1)))), none⟩,
   ⟨(some 79), (.mov (.t 99)), none⟩]))))))))))))
 (.seq (.kill [5] 0) (.seq (.region [
  ⟨(some 100), (.mov (.t 5)), none⟩,
  ⟨(some 4), (.mov (.t 100)), none⟩])
 (.ret)))))))))))))⟩
/-- (*campanile/campanileref18.Tree).Order -/
def n238 : NF := ⟨28, [2],
 .seq (.region [
  ⟨(some 2), (.mov (.c (.c .nils))), none⟩])
 (.seq (.kill [0] 0) (.seq (.region [
  ⟨(some 3), (.mov (.c (.c .nils))), none⟩])
 (.seq (.kill [0, 3] 0) (.seq (.seq (.region [
  ⟨(some 7), (.mov (.c (.c (.int .i64 0)))), none⟩])
 (.seq (.kill [0, 3, 7] 0) (.block 0 (.loop (.seq (.kill [0, 3, 7] 0) (.seq (.region [
   ⟨(some 8), (.bin .lss .num (.t 7) (.c (.c (.int .i64 16)))), none⟩])
  (.seq (.kill [0, 3, 7, 8] 0) (.seq (.cond (.t 8)
  (.skip)
  (.exit 0))
  (.seq (.kill [0, 3, 7] 0) (.seq (.block 1 (.seq (.region [
   ⟨(some 9), (.mov (.t 7)), none⟩,
   ⟨(some 4), (.mov (.t 9)), none⟩])
  (.seq (.kill [0, 3, 4, 7] 0) (.seq (.region [
   ⟨(some 10), (.mov (.t 0)), none⟩,
   ⟨(some 11), (.nilck (.t 10)), none⟩,
   ⟨(some 12), (.faddr 0 (.t 11)), none⟩,
   ⟨(some 13), (.load (some 16) (.t 12)), none⟩,
   ⟨(some 14), (.mov (.c (.c (.int .i64 0)))), none⟩])
  (.seq (.kill [0, 3, 4, 7, 13, 14] 0) (.block 2 (.loop (.seq (.kill [0, 3, 4, 7, 13, 14] 0) (.seq (.region [
    ⟨(some 15), (.bin .lss .num (.t 14) (.c (.c (.int .i64 16)))), none⟩])
   (.seq (.kill [0, 3, 4, 7, 13, 14, 15] 0) (.seq (.cond (.t 15)
   (.skip)
   (.exit 2))
   (.seq (.kill [0, 3, 4, 7, 13, 14] 0) (.seq (.block 3 (.seq (.region [
    ⟨(some 16), (.mov (.t 14)), none⟩,
    ⟨(some 17), (.index 16 1 false (.t 13) (.t 14)), none⟩,
    ⟨(some 5), (.mov (.t 16)), none⟩,
    ⟨(some 6), (.mov (.t 17)), none⟩])
   (.seq (.kill [0, 3, 4, 5, 6, 7, 13, 14] 0) (.seq (.region [
    ⟨(some 18), (.mov (.t 6)), none⟩,
    ⟨(some 19), (.mov (.t 4)), none⟩,
    ⟨(some 20), (.bin .eql .num (.t 18) (.t 19)), none⟩])
   (.seq (.kill [0, 3, 4, 5, 7, 13, 14, 20] 0) (.cond (.t 20)
   (.region [
     ⟨(some 21), (.mov (.t 3)), none⟩,
     ⟨(some 22), (.mov (.t 5)), none⟩,
     ⟨(some 23), (.bslice true 1 1 [(.int .i64 0)] [(0, (1, (.t 22)))]), none⟩,
     ⟨(some 24), (.app 1 8 (.t 21) (.t 23)), none⟩,
     ⟨(some 3), (.mov (.t 24)), none⟩])
   (.skip)))))))
   (.seq (.kill [0, 3, 4, 7, 13, 14] 0) (.region [
    ⟨(some 25), (.bin .add .num (.t 14) (.c (.c (.int .i64 1)))), none⟩,
    ⟨(some 14), (.mov (.t 25)), none⟩])))))))))))))))
  (.seq (.kill [0, 3, 7] 0) (.region [
   ⟨(some 26), (.bin .add .num (.t 7) (.c (.c (.int .i64 1)))), none⟩,
   ⟨(some 7), (.mov (.t 26)), none⟩]))))))))))))
 (.seq (.kill [3] 0) (.seq (.region [
  ⟨(some 27), (.mov (.t 3)), none⟩,
  ⟨(some 2), (.mov (.t 27)), none⟩])
 (.ret)))))))⟩
/-- (*campanile/campanileref18.Tree).Rank -/
def n239 : NF := ⟨24, [4, 5],
 .seq (.region [
  ⟨(some 4), (.mov (.c (.c (.int .i64 0)))), none⟩,
  ⟨(some 5), (.mov (.c (.c (.bool false)))), none⟩])
 (.seq (.kill [0, 1] 0) (.seq (.seq (.region [
  ⟨(some 6), (.mov (.t 1)), none⟩,
  ⟨(some 7), (.call 44 [(.t 6)]), none⟩,
  ⟨(some 8), (.un .not (.t 7)), none⟩,
  ⟨(some 9), (.mov (.t 8)), none⟩,
  ⟨(some 10), (.mov (.t 0)), (some (9, false))⟩,
  ⟨(some 11), (.mov (.t 1)), (some (9, false))⟩,
  ⟨(some 12), (.nilck (.t 10)), (some (9, false))⟩,
  ⟨(some 13), (.faddr 0 (.t 12)), (some (9, false))⟩,
  ⟨(some 14), (.iaddrA 16 1 (.t 13) (.t 11)), (some (9, false))⟩,
  ⟨(some 15), (.load none (.t 14)), (some (9, false))⟩,
  ⟨(some 16), (.bin .lss .num (.t 15) (.c (.c (.int .i64 0)))), (some (9, false))⟩,
  ⟨(some 17), (.pick (.t 9) (.c (.c (.bool true))) (.t 16)), none⟩])
 (.seq (.kill [0, 1, 17] 0) (.cond (.t 17)
 (.seq (.region [
   ⟨(some 4), (.mov (.c (.c (.int .i64 0)))), none⟩,
   ⟨(some 5), (.mov (.c (.c (.bool false)))), none⟩])
  (.ret))
 (.skip))))
 (.seq (.kill [0, 1] 0) (.seq (.region [
  ⟨(some 18), (.mov (.t 0)), none⟩,
  ⟨(some 19), (.mov (.t 1)), none⟩,
  ⟨(some 20), (.nilck (.t 18)), none⟩,
  ⟨(some 21), (.faddr 0 (.t 20)), none⟩,
  ⟨(some 22), (.iaddrA 16 1 (.t 21) (.t 19)), none⟩,
  ⟨(some 23), (.load none (.t 22)), none⟩,
  ⟨(some 4), (.mov (.t 23)), none⟩,
  ⟨(some 5), (.mov (.c (.c (.bool true)))), none⟩])
 (.ret)))))⟩
/-- (*campanile/campanileref18.Tree).Parents -/
def n240 : NF := ⟨14, [4],
 .seq (.region [
  ⟨(some 4), (.mov (.c (.c .nils))), none⟩])
 (.seq (.kill [0, 1] 0) (.seq (.seq (.region [
  ⟨(some 5), (.mov (.t 1)), none⟩,
  ⟨(some 6), (.call 44 [(.t 5)]), none⟩,
  ⟨(some 7), (.un .not (.t 6)), none⟩])
 (.seq (.kill [0, 1, 7] 0) (.cond (.t 7)
 (.seq (.region [
   ⟨(some 4), (.mov (.c (.c .nils))), none⟩])
  (.ret))
 (.skip))))
 (.seq (.kill [0, 1] 0) (.seq (.region [
  ⟨(some 8), (.mov (.t 0)), none⟩,
  ⟨(some 9), (.mov (.t 1)), none⟩,
  ⟨(some 10), (.nilck (.t 8)), none⟩,
  ⟨(some 11), (.faddr 16 (.t 10)), none⟩,
  ⟨(some 12), (.iaddrA 16 1 (.t 11) (.t 9)), none⟩,
  ⟨(some 13), (.load none (.t 12)), none⟩,
  ⟨(some 4), (.mov (.t 13)), none⟩])
 (.ret)))))⟩
/-- (*campanile/campanileref18.Tree).Children -/
def n241 : NF := ⟨32, [4],
 .seq (.region [
  ⟨(some 4), (.mov (.c (.c .nils))), none⟩])
 (.seq (.kill [0, 1] 0) (.seq (.region [
  ⟨(some 5), (.mov (.c (.c .nils))), none⟩])
 (.seq (.kill [0, 1, 5] 0) (.seq (.seq (.region [
  ⟨(some 8), (.mov (.t 0)), none⟩,
  ⟨(some 9), (.nilck (.t 8)), none⟩,
  ⟨(some 10), (.faddr 16 (.t 9)), none⟩,
  ⟨(some 11), (.load (some 16) (.t 10)), none⟩,
  ⟨(some 12), (.mov (.c (.c (.int .i64 0)))), none⟩])
 (.seq (.kill [1, 5, 11, 12] 0) (.block 0 (.loop (.seq (.kill [1, 5, 11, 12] 0) (.seq (.region [
   ⟨(some 13), (.bin .lss .num (.t 12) (.c (.c (.int .i64 16)))), none⟩])
  (.seq (.kill [1, 5, 11, 12, 13] 0) (.seq (.cond (.t 13)
  (.skip)
  (.exit 0))
  (.seq (.kill [1, 5, 11, 12] 0) (.seq (.block 1 (.seq (.region [
   ⟨(some 14), (.mov (.t 12)), none⟩,
   ⟨(some 15), (.index 16 1 false (.t 11) (.t 12)), none⟩,
   ⟨(some 6), (.mov (.t 14)), none⟩,
   ⟨(some 7), (.mov (.t 15)), none⟩])
  (.seq (.kill [1, 5, 6, 7, 11, 12] 0) (.seq (.region [
   ⟨(some 16), (.mov (.t 7)), none⟩,
   ⟨(some 17), (.len .sl (.t 16)), none⟩,
   ⟨(some 18), (.bin .gtr .num (.t 17) (.c (.c (.int .i64 0)))), none⟩,
   ⟨(some 19), (.mov (.t 18)), none⟩,
   ⟨(some 20), (.mov (.t 7)), (some (19, true))⟩,
   ⟨(some 21), (.iaddr 1 (.t 20) (.c (.c (.int .i64 0)))), (some (19, true))⟩,
   ⟨(some 22), (.load none (.t 21)), (some (19, true))⟩,
   ⟨(some 23), (.mov (.t 1)), (some (19, true))⟩,
   ⟨(some 24), (.bin .eql .num (.t 22) (.t 23)), (some (19, true))⟩,
   ⟨(some 25), (.pick (.t 19) (.t 24) (.c (.c (.bool false)))), none⟩])
  (.seq (.kill [1, 5, 6, 11, 12, 25] 0) (.cond (.t 25)
  (.region [
    ⟨(some 26), (.mov (.t 5)), none⟩,
    ⟨(some 27), (.mov (.t 6)), none⟩,
    ⟨(some 28), (.bslice true 1 1 [(.int .i64 0)] [(0, (1, (.t 27)))]), none⟩,
    ⟨(some 29), (.app 1 8 (.t 26) (.t 28)), none⟩,
    ⟨(some 5), (.mov (.t 29)), none⟩])
  (.skip)))))))
  (.seq (.kill [1, 5, 11, 12] 0) (.region [
   ⟨(some 30), (.bin .add .num (.t 12) (.c (.c (.int .i64 1)))), none⟩,
   ⟨(some 12), (.mov (.t 30)), none⟩]))))))))))))
 (.seq (.kill [5] 0) (.seq (.region [
  ⟨(some 31), (.mov (.t 5)), none⟩,
  ⟨(some 4), (.mov (.t 31)), none⟩])
 (.ret)))))))⟩
/-- (*campanile/campanileref18.Tree).Path -/
def n242 : NF := ⟨36, [4],
 .seq (.region [
  ⟨(some 4), (.mov (.c (.c .nils))), none⟩])
 (.seq (.kill [0, 1] 0) (.seq (.seq (.region [
  ⟨(some 9), (.mov (.t 0)), none⟩,
  ⟨(some 10), (.mov (.t 1)), none⟩,
  ⟨(some 11), (.call 239 [(.t 9), (.t 10)]), none⟩,
  ⟨(some 8), (.mov (.t 11)), none⟩,
  ⟨(some 12), (.ext (.t 8) 0), none⟩,
  ⟨(some 13), (.ext (.t 8) 1), none⟩,
  ⟨(some 5), (.mov (.t 12)), none⟩,
  ⟨(some 6), (.mov (.t 13)), none⟩])
 (.seq (.kill [0, 1, 6] 0) (.seq (.region [
  ⟨(some 14), (.mov (.t 6)), none⟩,
  ⟨(some 15), (.un .not (.t 14)), none⟩])
 (.seq (.kill [0, 1, 15] 0) (.cond (.t 15)
 (.seq (.region [
   ⟨(some 4), (.mov (.c (.c .nils))), none⟩])
  (.ret))
 (.skip))))))
 (.seq (.kill [0, 1] 0) (.seq (.region [
  ⟨(some 16), (.mov (.t 1)), none⟩,
  ⟨(some 17), (.bslice false 1 1 [(.int .i64 0)] [(0, (1, (.t 16)))]), none⟩,
  ⟨(some 7), (.mov (.t 17)), none⟩])
 (.seq (.kill [0, 1, 7] 0) (.seq (.seq (.region [
  ⟨(some 18), (.mov (.c (.c (.int .i64 0)))), none⟩])
 (.seq (.kill [0, 1, 7, 18] 0) (.block 0 (.loop (.seq (.kill [0, 1, 7, 18] 0) (.seq (.region [
   ⟨(some 19), (.bin .lss .num (.t 18) (.c (.c (.int .i64 16)))), none⟩])
  (.seq (.kill [0, 1, 7, 18, 19] 0) (.seq (.cond (.t 19)
  (.skip)
  (.exit 0))
  (.seq (.kill [0, 1, 7, 18] 0) (.seq (.block 1 (.seq (.seq (.region [
   ⟨(some 20), (.mov (.t 1)), none⟩,
   ⟨(some 21), (.bin .eql .num (.t 20) (.c (.c (.int .i64 0)))), none⟩])
  (.seq (.kill [0, 1, 7, 18, 21] 0) (.cond (.t 21)
  (.exit 0)
  (.skip))))
  (.seq (.kill [0, 1, 7, 18] 0) (.seq (.region [
   ⟨(some 22), (.mov (.t 0)), none⟩,
   ⟨(some 23), (.mov (.t 1)), none⟩,
   ⟨(some 24), (.nilck (.t 22)), none⟩,
   ⟨(some 25), (.faddr 16 (.t 24)), none⟩,
   ⟨(some 26), (.iaddrA 16 1 (.t 25) (.t 23)), none⟩,
   ⟨(some 27), (.load none (.t 26)), none⟩,
   ⟨(some 28), (.iaddr 1 (.t 27) (.c (.c (.int .i64 0)))), none⟩,
   ⟨(some 29), (.load none (.t 28)), none⟩,
   ⟨(some 1), (.mov (.t 29)), none⟩])
  (.seq (.kill [0, 1, 7, 18] 0) (.region [
   ⟨(some 30), (.mov (.t 1)), none⟩,
   ⟨(some 31), (.bslice false 1 1 [(.int .i64 0)] [(0, (1, (.t 30)))]), none⟩,
   ⟨(some 32), (.mov (.t 7)), none⟩,
   ⟨(some 33), (.app 1 8 (.t 31) (.t 32)), none⟩,
   ⟨(some 7), (.mov (.t 33)), none⟩]))))))
  (.seq (.kill [0, 1, 7, 18] 0) (.region [
   ⟨(some 34), (.bin .add .num (.t 18) (.c (.c (.int .i64 1)))), none⟩,
   ⟨(some 18), (.mov (.t 34)), none⟩]))))))))))))
 (.seq (.kill [7] 0) (.seq (.region [
  ⟨(some 35), (.mov (.t 7)), none⟩,
  ⟨(some 4), (.mov (.t 35)), none⟩])
 (.ret)))))))))⟩
/-- campanile/topo.New -/
def n2 : NF := ⟨9, [2],
 .seq (.region [
  ⟨(some 2), (.mov (.c (.c .nilp))), none⟩])
 (.seq (.kill [0] 0) (.seq (.region [
  ⟨(some 3), (.mov (.t 0)), none⟩,
  ⟨(some 4), (.min [(.t 3), (.c (.c (.int .i64 16)))]), none⟩,
  ⟨(some 5), (.max [(.c (.c (.int .i64 1))), (.t 4)]), none⟩,
  ⟨(some 6), .mkmap, none⟩,
  ⟨(some 7), (.build [(.int .i64 0), .nilm] [(0, (1, (.t 5))), (1, (1, (.t 6)))]), none⟩,
  ⟨(some 8), (.box false 2 (.t 7)), none⟩,
  ⟨(some 2), (.mov (.t 8)), none⟩])
 (.ret)))⟩
/-- campanile/campanileref18.NewGraph -/
def n19 : NF := ⟨8, [2],
 .seq (.region [
  ⟨(some 2), (.mov (.c (.c .nilp))), none⟩])
 (.seq (.kill [0] 0) (.seq (.region [
  ⟨(some 3), (.mov (.t 0)), none⟩,
  ⟨(some 4), (.min [(.t 3), (.c (.c (.int .i64 16)))]), none⟩,
  ⟨(some 5), (.max [(.c (.c (.int .i64 1))), (.t 4)]), none⟩,
  ⟨(some 6), (.build [(.int .i64 0), (.int .i64 0), (.int .i64 0), (.int .i64 0), (.int .i64 0), (.int .i64 0), (.int .i64 0), (.int .i64 0), (.int .i64 0), (.int .i64 0), (.int .i64 0), (.int .i64 0), (.int .i64 0), (.int .i64 0), (.int .i64 0), (.int .i64 0), (.int .i64 0), (.int .i64 0), (.int .i64 0), (.int .i64 0), (.int .i64 0), (.int .i64 0), (.int .i64 0), (.int .i64 0), (.int .i64 0), (.int .i64 0), (.int .i64 0), (.int .i64 0), (.int .i64 0), (.int .i64 0), (.int .i64 0), (.int .i64 0), (.int .i64 0), (.int .i64 0), (.int .i64 0), (.int .i64 0), (.int .i64 0), (.int .i64 0), (.int .i64 0), (.int .i64 0), (.int .i64 0), (.int .i64 0), (.int .i64 0), (.int .i64 0), (.int .i64 0), (.int .i64 0), (.int .i64 0), (.int .i64 0), (.int .i64 0), (.int .i64 0), (.int .i64 0), (.int .i64 0), (.int .i64 0), (.int .i64 0), (.int .i64 0), (.int .i64 0), (.int .i64 0), (.int .i64 0), (.int .i64 0), (.int .i64 0), (.int .i64 0), (.int .i64 0), (.int .i64 0), (.int .i64 0), (.int .i64 0), (.int .i64 0), (.int .i64 0), (.int .i64 0), (.int .i64 0), (.int .i64 0), (.int .i64 0), (.int .i64 0), (.int .i64 0), (.int .i64 0), (.int .i64 0), (.int .i64 0), (.int .i64 0), (.int .i64 0), (.int .i64 0), (.int .i64 0), (.int .i64 0), (.int .i64 0), (.int .i64 0), (.int .i64 0), (.int .i64 0), (.int .i64 0), (.int .i64 0), (.int .i64 0), (.int .i64 0), (.int .i64 0), (.int .i64 0), (.int .i64 0), (.int .i64 0), (.int .i64 0), (.int .i64 0), (.int .i64 0), (.int .i64 0), (.int .i64 0), (.int .i64 0), (.int .i64 0), (.int .i64 0), (.int .i64 0), (.int .i64 0), (.int .i64 0), (.int .i64 0), (.int .i64 0), (.int .i64 0), (.int .i64 0), (.int .i64 0), (.int .i64 0), (.int .i64 0), (.int .i64 0), (.int .i64 0), (.int .i64 0), (.int .i64 0), (.int .i64 0), (.int .i64 0), (.int .i64 0), (.int .i64 0), (.int .i64 0), (.int .i64 0), (.int .i64 0), (.int .i64 0), (.int .i64 0), (.int .i64 0), (.int .i64 0), (.int .i64 0), (.int .i64 0), (.int .i64 0), (.int .i64 0), (.int .i64 0), (.int .i64 0), (.int .i64 0), (.int .i64 0), (.int .i64 0), (.int .i64 0), (.int .i64 0), (.int .i64 0), (.int .i64 0), (.int .i64 0), (.int .i64 0), (.int .i64 0), (.int .i64 0), (.int .i64 0), (.int .i64 0), (.int .i64 0), (.int .i64 0), (.int .i64 0), (.int .i64 0), (.int .i64 0), (.int .i64 0), (.int .i64 0), (.int .i64 0), (.int .i64 0), (.int .i64 0), (.int .i64 0), (.int .i64 0), (.int .i64 0), (.int .i64 0), (.int .i64 0), (.int .i64 0), (.int .i64 0), (.int .i64 0), (.int .i64 0), (.int .i64 0), (.int .i64 0), (.int .i64 0), (.int .i64 0), (.int .i64 0), (.int .i64 0), (.int .i64 0), (.int .i64 0), (.int .i64 0), (.int .i64 0), (.int .i64 0), (.int .i64 0), (.int .i64 0), (.int .i64 0), (.int .i64 0), (.int .i64 0), (.int .i64 0), (.int .i64 0), (.int .i64 0), (.int .i64 0), (.int .i64 0), (.int .i64 0), (.int .i64 0), (.int .i64 0), (.int .i64 0), (.int .i64 0), (.int .i64 0), (.int .i64 0), (.int .i64 0), (.int .i64 0), (.int .i64 0), (.int .i64 0), (.int .i64 0), (.int .i64 0), (.int .i64 0), (.int .i64 0), (.int .i64 0), (.int .i64 0), (.int .i64 0), (.int .i64 0), (.int .i64 0), (.int .i64 0), (.int .i64 0), (.int .i64 0), (.int .i64 0), (.int .i64 0), (.int .i64 0), (.int .i64 0), (.int .i64 0), (.int .i64 0), (.int .i64 0), (.int .i64 0), (.int .i64 0), (.int .i64 0), (.int .i64 0), (.int .i64 0), (.int .i64 0), (.int .i64 0), (.int .i64 0), (.int .i64 0), (.int .i64 0), (.int .i64 0), (.int .i64 0), (.int .i64 0), (.int .i64 0), (.int .i64 0), (.int .i64 0), (.int .i64 0), (.int .i64 0), (.int .i64 0), (.int .i64 0), (.int .i64 0), (.int .i64 0), (.int .i64 0), (.int .i64 0), (.int .i64 0), (.int .i64 0), (.int .i64 0), (.int .i64 0), (.int .i64 0), (.int .i64 0), (.int .i64 0), (.int .i64 0), (.int .i64 0), (.int .i64 0), (.int .i64 0), (.int .i64 0), (.int .i64 0), (.int .i64 0), (.int .i64 0), (.int .i64 0), (.int .i64 0), (.int .i64 0)] [(0, (1, (.t 5)))]), none⟩,
  ⟨(some 7), (.box false 257 (.t 6)), none⟩,
  ⟨(some 2), (.mov (.t 7)), none⟩])
 (.ret)))⟩
/-- (*campanile/topo.Graph).Forget -/
def n15 : NF := ⟨31, [],
 .seq (.seq (.region [
  ⟨(some 5), (.mov (.t 0)), none⟩,
  ⟨(some 6), (.mov (.t 1)), none⟩,
  ⟨(some 7), (.call 18 [(.t 5), (.t 6)]), none⟩,
  ⟨(some 8), (.un .not (.t 7)), none⟩])
 (.seq (.kill [0, 1, 8] 0) (.cond (.t 8)
 (.ret)
 (.skip))))
 (.seq (.kill [0, 1] 0) (.seq (.region [
  ⟨(some 9), (.mov (.t 0)), none⟩,
  ⟨(some 10), (.nilck (.t 9)), none⟩,
  ⟨(some 11), (.faddr 0 (.t 10)), none⟩,
  ⟨(some 12), (.load none (.t 11)), none⟩,
  ⟨(some 13), (.mov (.c (.c (.int .i64 0)))), none⟩])
 (.seq (.kill [0, 1, 12, 13] 0) (.block 0 (.loop (.seq (.kill [0, 1, 12, 13] 0) (.seq (.region [
   ⟨(some 14), (.bin .lss .num (.t 13) (.t 12)), none⟩])
  (.seq (.kill [0, 1, 12, 13, 14] 0) (.seq (.cond (.t 14)
  (.skip)
  (.exit 0))
  (.seq (.kill [0, 1, 12, 13] 0) (.seq (.block 1 (.seq (.region [
   ⟨(some 15), (.mov (.t 13)), none⟩,
   ⟨(some 4), (.mov (.t 15)), none⟩])
  (.seq (.kill [0, 1, 4, 12, 13] 0) (.seq (.region [
   ⟨(some 16), (.mov (.t 0)), none⟩,
   ⟨(some 17), (.nilck (.t 16)), none⟩,
   ⟨(some 18), (.faddr 1 (.t 17)), none⟩,
   ⟨(some 19), (.load none (.t 18)), none⟩,
   ⟨(some 20), (.mov (.t 1)), none⟩,
   ⟨(some 21), (.mov (.t 4)), none⟩,
   ⟨(some 22), (.build [(.int .i64 0), (.int .i64 0)] [(0, (1, (.t 20))), (1, (1, (.t 21)))]), none⟩,
   ⟨none, (.mdel (.arr 2 .i64) (.t 19) (.t 22)), none⟩])
  (.seq (.kill [0, 1, 4, 12, 13] 0) (.region [
   ⟨(some 23), (.mov (.t 0)), none⟩,
   ⟨(some 24), (.nilck (.t 23)), none⟩,
   ⟨(some 25), (.faddr 1 (.t 24)), none⟩,
   ⟨(some 26), (.load none (.t 25)), none⟩,
   ⟨(some 27), (.mov (.t 4)), none⟩,
   ⟨(some 28), (.mov (.t 1)), none⟩,
   ⟨(some 29), (.build [(.int .i64 0), (.int .i64 0)] [(0, (1, (.t 27))), (1, (1, (.t 28)))]), none⟩,
   ⟨none, (.mdel (.arr 2 .i64) (.t 26) (.t 29)), none⟩]))))))
  (.seq (.kill [0, 1, 12, 13] 0) (.region [
   ⟨(some 30), (.bin .add .num (.t 13) (.c (.c (.int .i64 1)))), none⟩,
   ⟨(some 13), (.mov (.t 30)), none⟩])))))))))))))⟩
/-- (*campanile/campanileref18.Graph).Forget -/
def n20 : NF := ⟨26, [],
 .seq (.seq (.region [
  ⟨(some 5), (.mov (.t 0)), none⟩,
  ⟨(some 6), (.mov (.t 1)), none⟩,
  ⟨(some 7), (.call 22 [(.t 5), (.t 6)]), none⟩,
  ⟨(some 8), (.un .not (.t 7)), none⟩])
 (.seq (.kill [0, 1, 8] 0) (.cond (.t 8)
 (.ret)
 (.skip))))
 (.seq (.kill [0, 1] 0) (.seq (.region [
  ⟨(some 9), (.mov (.t 0)), none⟩,
  ⟨(some 10), (.mov (.t 1)), none⟩,
  ⟨(some 11), (.build [(.int .i64 0), (.int .i64 0), (.int .i64 0), (.int .i64 0), (.int .i64 0), (.int .i64 0), (.int .i64 0), (.int .i64 0), (.int .i64 0), (.int .i64 0), (.int .i64 0), (.int .i64 0), (.int .i64 0), (.int .i64 0), (.int .i64 0), (.int .i64 0)] []), none⟩,
  ⟨(some 12), (.nilck (.t 9)), none⟩,
  ⟨(some 13), (.faddr 1 (.t 12)), none⟩,
  ⟨(some 14), (.iaddrA 16 16 (.t 13) (.t 10)), none⟩,
  ⟨none, (.store 16 (.t 14) (.t 11)), none⟩])
 (.seq (.kill [0, 1] 0) (.seq (.region [
  ⟨(some 15), (.mov (.c (.c (.int .i64 0)))), none⟩])
 (.seq (.kill [0, 1, 15] 0) (.block 0 (.loop (.seq (.kill [0, 1, 15] 0) (.seq (.region [
   ⟨(some 16), (.bin .lss .num (.t 15) (.c (.c (.int .i64 16)))), none⟩])
  (.seq (.kill [0, 1, 15, 16] 0) (.seq (.cond (.t 16)
  (.skip)
  (.exit 0))
  (.seq (.kill [0, 1, 15] 0) (.seq (.block 1 (.seq (.region [
   ⟨(some 17), (.mov (.t 15)), none⟩,
   ⟨(some 4), (.mov (.t 17)), none⟩])
  (.seq (.kill [0, 1, 4, 15] 0) (.region [
   ⟨(some 18), (.mov (.t 0)), none⟩,
   ⟨(some 19), (.mov (.t 4)), none⟩,
   ⟨(some 20), (.mov (.t 1)), none⟩,
   ⟨(some 21), (.nilck (.t 18)), none⟩,
   ⟨(some 22), (.faddr 1 (.t 21)), none⟩,
   ⟨(some 23), (.iaddrA 16 16 (.t 22) (.t 19)), none⟩,
   ⟨(some 24), (.iaddrA 16 1 (.t 23) (.t 20)), none⟩,
   ⟨none, (.store 1 (.t 24) (.c (.c (.int .i64 0)))), none⟩]))))
  (.seq (.kill [0, 1, 15] 0) (.region [
   ⟨(some 25), (.bin .add .num (.t 15) (.c (.c (.int .i64 1)))), none⟩,
   ⟨(some 15), (.mov (.t 25)), none⟩])))))))))))))))⟩
/-- (*campanile/topo.Graph).Report -/
def n3 : NF := ⟨47, [6],
 .seq (.region [
  ⟨(some 6), (.mov (.c (.c (.int .i64 0)))), none⟩])
 (.seq (.kill [0, 1, 2] 0) (.seq (.seq (.region [
  ⟨(some 10), (.mov (.t 0)), none⟩,
  ⟨(some 11), (.mov (.t 1)), none⟩,
  ⟨(some 12), (.mov (.t 2)), none⟩,
  ⟨(some 13), (.call 17 [(.t 10), (.t 11), (.t 12)]), none⟩,
  ⟨(some 14), (.un .not (.t 13)), none⟩])
 (.seq (.kill [0, 1, 2, 14] 0) (.cond (.t 14)
 (.seq (.region [
   ⟨(some 6), (.mov (.c (.c (.int .i64 1)))), none⟩])
  (.ret))
 (.skip))))
 (.seq (.kill [0, 1, 2] 0) (.seq (.seq (.region [
  ⟨(some 15), (.mov (.t 0)), none⟩,
  ⟨(some 16), (.nilck (.t 15)), none⟩,
  ⟨(some 17), (.faddr 0 (.t 16)), none⟩,
  ⟨(some 18), (.load none (.t 17)), none⟩,
  ⟨(some 19), (.mov (.c (.c (.int .i64 0)))), none⟩])
 (.seq (.kill [0, 1, 2, 18, 19] 0) (.block 0 (.loop (.seq (.kill [0, 1, 2, 18, 19] 0) (.seq (.region [
   ⟨(some 20), (.bin .lss .num (.t 19) (.t 18)), none⟩])
  (.seq (.kill [0, 1, 2, 18, 19, 20] 0) (.seq (.cond (.t 20)
  (.skip)
  (.exit 0))
  (.seq (.kill [0, 1, 2, 18, 19] 0) (.seq (.block 1 (.seq (.region [
   ⟨(some 21), (.mov (.t 19)), none⟩,
   ⟨(some 7), (.mov (.t 21)), none⟩])
  (.seq (.kill [0, 1, 2, 7, 18, 19] 0) (.region [
   ⟨(some 22), (.mov (.t 0)), none⟩,
   ⟨(some 23), (.nilck (.t 22)), none⟩,
   ⟨(some 24), (.faddr 1 (.t 23)), none⟩,
   ⟨(some 25), (.load none (.t 24)), none⟩,
   ⟨(some 26), (.mov (.t 1)), none⟩,
   ⟨(some 27), (.mov (.t 7)), none⟩,
   ⟨(some 28), (.build [(.int .i64 0), (.int .i64 0)] [(0, (1, (.t 26))), (1, (1, (.t 27)))]), none⟩,
   ⟨none, (.mdel (.arr 2 .i64) (.t 25) (.t 28)), none⟩]))))
  (.seq (.kill [0, 1, 2, 18, 19] 0) (.region [
   ⟨(some 29), (.bin .add .num (.t 19) (.c (.c (.int .i64 1)))), none⟩,
   ⟨(some 19), (.mov (.t 29)), none⟩]))))))))))))
 (.seq (.kill [0, 1, 2] 0) (.seq (.seq (.region [
  ⟨(some 30), (.mov (.t 2)), none⟩,
  ⟨(some 31), (.len .sl (.t 30)), none⟩,
  ⟨(some 32), (.mov (.c (.c (.int .i64 0)))), none⟩])
 (.seq (.kill [0, 1, 30, 31, 32] 0) (.block 2 (.loop (.seq (.kill [0, 1, 30, 31, 32] 0) (.seq (.region [
   ⟨(some 33), (.bin .lss .num (.t 32) (.t 31)), none⟩])
  (.seq (.kill [0, 1, 30, 31, 32, 33] 0) (.seq (.cond (.t 33)
  (.skip)
  (.exit 2))
  (.seq (.kill [0, 1, 30, 31, 32] 0) (.seq (.block 3 (.seq (.region [
   ⟨(some 34), (.iaddr 3 (.t 30) (.t 32)), none⟩,
   ⟨(some 35), (.load (some 3) (.t 34)), none⟩,
   ⟨(some 9), (.box true 3 (.c (.agg [(.int .i64 0), (.int .i64 0), (.int .i64 0)]))), none⟩,
   ⟨none, (.store 3 (.t 9) (.t 35)), none⟩])
  (.seq (.kill [0, 1, 9, 30, 31, 32] 1) (.draw 0 [
   ⟨0, none, ⟨(some 36), (.mov (.t 0)), none⟩, []⟩,
   ⟨1, none, ⟨(some 37), (.nilck (.t 36)), none⟩, []⟩,
   ⟨2, none, ⟨(some 38), (.faddr 1 (.t 37)), none⟩, []⟩,
   ⟨3, none, ⟨(some 39), (.load none (.t 38)), none⟩, []⟩,
   ⟨4, none, ⟨(some 40), (.mov (.t 1)), none⟩, []⟩,
   ⟨5, none, ⟨(some 41), (.faddr 1 (.t 9)), none⟩, []⟩,
   ⟨6, none, ⟨(some 42), (.load none (.t 41)), none⟩, []⟩,
   ⟨7, none, ⟨(some 43), (.build [(.int .i64 0), (.int .i64 0)] [(0, (1, (.t 40))), (1, (1, (.t 42)))]), none⟩, []⟩,
   ⟨8, none, ⟨(some 44), (.faddr 2 (.t 9)), none⟩, []⟩,
   ⟨9, none, ⟨(some 45), (.load none (.t 44)), none⟩, []⟩,
   ⟨10, none, ⟨none, (.mupd (.arr 2 .i64) (.t 39) (.t 43) (.t 45)), none⟩, []⟩]))))
  (.seq (.kill [0, 1, 30, 31, 32] 0) (.region [
   ⟨(some 46), (.bin .add .num (.t 32) (.c (.c (.int .i64 1)))), none⟩,
   ⟨(some 32), (.mov (.t 46)), none⟩]))))))))))))
 (.seq (.kill [] 0) (.seq (.region [
  ⟨(some 6), (.mov (.c (.c (.int .i64 0)))), none⟩])
 (.ret)))))))))⟩
/-- (*campanile/campanileref18.Graph).Report -/
def n21 : NF := ⟨75, [6],
 .seq (.region [
  ⟨(some 6), (.mov (.c (.c (.int .i64 0)))), none⟩])
 (.seq (.kill [0, 1, 2] 0) (.seq (.seq (.region [
  ⟨(some 11), (.mov (.t 0)), none⟩,
  ⟨(some 12), (.mov (.t 1)), none⟩,
  ⟨(some 13), (.call 22 [(.t 11), (.t 12)]), none⟩,
  ⟨(some 14), (.un .not (.t 13)), none⟩,
  ⟨(some 15), (.mov (.t 14)), none⟩,
  ⟨(some 16), (.mov (.t 2)), (some (15, false))⟩,
  ⟨(some 17), (.len .sl (.t 16)), (some (15, false))⟩,
  ⟨(some 18), (.bin .gtr .num (.t 17) (.c (.c (.int .i64 16)))), (some (15, false))⟩,
  ⟨(some 19), (.pick (.t 15) (.c (.c (.bool true))) (.t 18)), none⟩])
 (.seq (.kill [0, 1, 2, 19] 0) (.cond (.t 19)
 (.seq (.region [
   ⟨(some 6), (.mov (.c (.c (.int .i64 1)))), none⟩])
  (.ret))
 (.skip))))
 (.seq (.kill [0, 1, 2] 0) (.seq (.region [
  ⟨(some 7), (.box true 16 (.c (.agg [(.int .i64 0), (.int .i64 0), (.int .i64 0), (.int .i64 0), (.int .i64 0), (.int .i64 0), (.int .i64 0), (.int .i64 0), (.int .i64 0), (.int .i64 0), (.int .i64 0), (.int .i64 0), (.int .i64 0), (.int .i64 0), (.int .i64 0), (.int .i64 0)]))), none⟩])
 (.seq (.kill [0, 1, 2, 7] 1) (.seq (.region [
  ⟨(some 20), (.build [(.bool false), (.bool false), (.bool false), (.bool false), (.bool false), (.bool false), (.bool false), (.bool false), (.bool false), (.bool false), (.bool false), (.bool false), (.bool false), (.bool false), (.bool false), (.bool false)] []), none⟩,
  ⟨(some 8), (.box true 16 (.c (.agg [(.bool false), (.bool false), (.bool false), (.bool false), (.bool false), (.bool false), (.bool false), (.bool false), (.bool false), (.bool false), (.bool false), (.bool false), (.bool false), (.bool false), (.bool false), (.bool false)]))), none⟩,
  ⟨none, (.store 16 (.t 8) (.t 20)), none⟩])
 (.seq (.kill [0, 1, 2, 7, 8] 2) (.seq (.seq (.region [
  ⟨(some 21), (.mov (.t 2)), none⟩,
  ⟨(some 22), (.len .sl (.t 21)), none⟩,
  ⟨(some 23), (.mov (.c (.c (.int .i64 0)))), none⟩])
 (.seq (.kill [0, 1, 7, 8, 21, 22, 23] 2) (.block 0 (.loop (.seq (.kill [0, 1, 7, 8, 21, 22, 23] 2) (.seq (.region [
   ⟨(some 24), (.bin .lss .num (.t 23) (.t 22)), none⟩])
  (.seq (.kill [0, 1, 7, 8, 21, 22, 23, 24] 2) (.seq (.cond (.t 24)
  (.skip)
  (.exit 0))
  (.seq (.kill [0, 1, 7, 8, 21, 22, 23] 2) (.seq (.block 1 (.seq (.region [
   ⟨(some 25), (.iaddr 3 (.t 21) (.t 23)), none⟩,
   ⟨(some 26), (.load (some 3) (.t 25)), none⟩,
   ⟨(some 10), (.box true 3 (.c (.agg [(.int .i64 0), (.int .i64 0), (.int .i64 0)]))), none⟩,
   ⟨none, (.store 3 (.t 10) (.t 26)), none⟩])
  (.seq (.kill [0, 1, 7, 8, 10, 21, 22, 23] 3) (.seq (.seq (.region [
   ⟨(some 27), (.faddr 0 (.t 10)), none⟩,
   ⟨(some 28), (.load none (.t 27)), none⟩,
   ⟨(some 29), (.mov (.t 1)), none⟩,
   ⟨(some 30), (.bin .neq .num (.t 28) (.t 29)), none⟩,
   ⟨(some 31), (.mov (.t 30)), none⟩,
   ⟨(some 32), (.mov (.t 0)), (some (31, false))⟩,
   ⟨(some 33), (.faddr 1 (.t 10)), (some (31, false))⟩,
   ⟨(some 34), (.load none (.t 33)), (some (31, false))⟩,
   ⟨(some 35), (.call 22 [(.t 32), (.t 34)]), (some (31, false))⟩,
   ⟨(some 36), (.un .not (.t 35)), (some (31, false))⟩,
   ⟨(some 37), (.pick (.t 31) (.c (.c (.bool true))) (.t 36)), none⟩,
   ⟨(some 38), (.mov (.t 37)), none⟩,
   ⟨(some 39), (.faddr 1 (.t 10)), (some (38, false))⟩,
   ⟨(some 40), (.load none (.t 39)), (some (38, false))⟩,
   ⟨(some 41), (.mov (.t 1)), (some (38, false))⟩,
   ⟨(some 42), (.bin .eql .num (.t 40) (.t 41)), (some (38, false))⟩,
   ⟨(some 43), (.pick (.t 38) (.c (.c (.bool true))) (.t 42)), none⟩,
   ⟨(some 44), (.mov (.t 43)), none⟩,
   ⟨(some 45), (.faddr 2 (.t 10)), (some (44, false))⟩,
   ⟨(some 46), (.load none (.t 45)), (some (44, false))⟩,
   ⟨(some 47), (.bin .lss .num (.t 46) (.c (.c (.int .i64 0)))), (some (44, false))⟩,
   ⟨(some 48), (.pick (.t 44) (.c (.c (.bool true))) (.t 47)), none⟩,
   ⟨(some 49), (.mov (.t 48)), none⟩,
   ⟨(some 50), (.faddr 2 (.t 10)), (some (49, false))⟩,
   ⟨(some 51), (.load none (.t 50)), (some (49, false))⟩,
   ⟨(some 52), (.bin .gtr .num (.t 51) (.c (.c (.int .i64 255)))), (some (49, false))⟩,
   ⟨(some 53), (.pick (.t 49) (.c (.c (.bool true))) (.t 52)), none⟩,
   ⟨(some 54), (.mov (.t 53)), none⟩,
   ⟨(some 55), (.faddr 1 (.t 10)), (some (54, false))⟩,
   ⟨(some 56), (.load none (.t 55)), (some (54, false))⟩,
   ⟨(some 57), (.iaddrA 16 1 (.t 8) (.t 56)), (some (54, false))⟩,
   ⟨(some 58), (.load none (.t 57)), (some (54, false))⟩,
   ⟨(some 59), (.pick (.t 54) (.c (.c (.bool true))) (.t 58)), none⟩])
  (.seq (.kill [0, 1, 7, 8, 10, 21, 22, 23, 59] 3) (.cond (.t 59)
  (.seq (.region [
    ⟨(some 6), (.mov (.c (.c (.int .i64 1)))), none⟩])
   (.ret))
  (.skip))))
  (.seq (.kill [0, 1, 7, 8, 10, 21, 22, 23] 3) (.draw 0 [
   ⟨0, none, ⟨(some 60), (.faddr 1 (.t 10)), none⟩, []⟩,
   ⟨1, none, ⟨(some 61), (.load none (.t 60)), none⟩, []⟩,
   ⟨2, none, ⟨(some 62), (.faddr 1 (.t 10)), none⟩, []⟩,
   ⟨3, none, ⟨(some 63), (.load none (.t 62)), none⟩, []⟩,
   ⟨4, none, ⟨(some 64), (.faddr 2 (.t 10)), none⟩, []⟩,
   ⟨5, none, ⟨(some 65), (.load none (.t 64)), none⟩, []⟩,
   ⟨6, none, ⟨(some 66), (.iaddrA 16 1 (.t 8) (.t 61)), none⟩, []⟩,
   ⟨7, none, ⟨none, (.store 1 (.t 66) (.c (.c (.bool true)))), none⟩, [(3, ⟨(some 63), (.load none (.t 62)), none⟩), (5, ⟨(some 65), (.load none (.t 64)), none⟩)]⟩,
   ⟨8, none, ⟨(some 67), (.iaddrA 16 1 (.t 7) (.t 63)), none⟩, []⟩,
   ⟨9, none, ⟨none, (.store 1 (.t 67) (.t 65)), none⟩, []⟩]))))))
  (.seq (.kill [0, 1, 7, 8, 21, 22, 23] 2) (.region [
   ⟨(some 68), (.bin .add .num (.t 23) (.c (.c (.int .i64 1)))), none⟩,
   ⟨(some 23), (.mov (.t 68)), none⟩]))))))))))))
 (.seq (.kill [0, 1, 7] 1) (.seq (.draw 0 [
  ⟨0, none, ⟨(some 69), (.mov (.t 0)), none⟩, []⟩,
  ⟨1, none, ⟨(some 70), (.mov (.t 1)), none⟩, []⟩,
  ⟨2, none, ⟨(some 71), (.load (some 16) (.t 7)), none⟩, []⟩,
  ⟨3, none, ⟨(some 72), (.nilck (.t 69)), none⟩, []⟩,
  ⟨4, none, ⟨(some 73), (.faddr 1 (.t 72)), none⟩, []⟩,
  ⟨5, none, ⟨(some 74), (.iaddrA 16 16 (.t 73) (.t 70)), none⟩, []⟩,
  ⟨6, none, ⟨none, (.store 16 (.t 74) (.t 71)), none⟩, []⟩])
 (.seq (.kill [] 0) (.seq (.region [
  ⟨(some 6), (.mov (.c (.c (.int .i64 0)))), none⟩])
 (.ret)))))))))))))⟩
/-- slices.Sort[[]int,int] -/
def n74 : NF := ⟨11, [],
 .seq (.region [
  ⟨(some 3), (.mov (.t 0)), none⟩,
  ⟨(some 4), (.len .sl (.t 3)), none⟩,
  ⟨(some 2), (.mov (.t 4)), none⟩])
 (.seq (.kill [0, 2] 0) (.region [
  ⟨(some 5), (.mov (.t 0)), none⟩,
  ⟨(some 6), (.mov (.t 2)), none⟩,
  ⟨(some 7), (.mov (.t 2)), none⟩,
  ⟨(some 8), (.conv (.toInt .u64) (.t 7)), none⟩,
  ⟨(some 9), (.call 82 [(.t 8)]), none⟩,
  ⟨(some 10), (.call 83 [(.t 5), (.c (.c (.int .i64 0))), (.t 6), (.t 9)]), none⟩]))⟩
/-- (*campanile/tree.Tree).follows -/
def n202 : NF := ⟨57, [8],
 .seq (.region [
  ⟨(some 5), (.box false 1 (.t 1)), none⟩,
  ⟨(some 6), (.box false 1 (.t 2)), none⟩,
  ⟨(some 8), (.mov (.c (.c .nils))), none⟩])
 (.seq (.kill [0, 3, 5, 6] 0) (.seq (.region [
  ⟨(some 9), (.mov (.c (.c .nils))), none⟩])
 (.seq (.kill [0, 3, 5, 6, 9] 0) (.seq (.seq (.region [
  ⟨(some 14), (.load none (.t 5)), none⟩,
  ⟨(some 15), (.load none (.t 6)), none⟩,
  ⟨(some 16), (.mov (.t 3)), none⟩,
  ⟨(some 17), (.call 5 [(.t 14), (.t 15), (.t 16)]), none⟩,
  ⟨(some 18), (.len .sl (.t 17)), none⟩,
  ⟨(some 19), (.mov (.c (.c (.int .i64 0)))), none⟩])
 (.seq (.kill [0, 5, 6, 9, 17, 18, 19] 0) (.block 0 (.loop (.seq (.kill [0, 5, 6, 9, 17, 18, 19] 0) (.seq (.region [
   ⟨(some 20), (.bin .lss .num (.t 19) (.t 18)), none⟩])
  (.seq (.kill [0, 5, 6, 9, 17, 18, 19, 20] 0) (.seq (.cond (.t 20)
  (.skip)
  (.exit 0))
  (.seq (.kill [0, 5, 6, 9, 17, 18, 19] 0) (.seq (.block 1 (.seq (.region [
   ⟨(some 21), (.iaddr 1 (.t 17) (.t 19)), none⟩,
   ⟨(some 22), (.load none (.t 21)), none⟩,
   ⟨(some 11), (.mov (.t 22)), none⟩])
  (.seq (.kill [0, 5, 6, 9, 11, 17, 18, 19] 0) (.seq (.region [
   ⟨(some 24), (.mov (.t 0)), none⟩,
   ⟨(some 25), (.nilck (.t 24)), none⟩,
   ⟨(some 26), (.faddr 0 (.t 25)), none⟩,
   ⟨(some 27), (.load none (.t 26)), none⟩,
   ⟨(some 28), (.mov (.t 11)), none⟩,
   ⟨(some 29), (.look (.int .i64) (.c (.int .i64 0)) true (.t 27) (.t 28)), none⟩,
   ⟨(some 23), (.mov (.t 29)), none⟩,
   ⟨(some 30), (.ext (.t 23) 0), none⟩,
   ⟨(some 31), (.ext (.t 23) 1), none⟩,
   ⟨(some 12), (.mov (.t 30)), none⟩,
   ⟨(some 13), (.mov (.t 31)), none⟩])
  (.seq (.kill [0, 5, 6, 9, 11, 12, 13, 17, 18, 19] 0) (.seq (.draw 0 [
   ⟨0, none, ⟨(some 32), (.mov (.t 13)), none⟩, []⟩,
   ⟨1, none, ⟨(some 33), (.mov (.t 32)), none⟩, []⟩,
   ⟨2, none, ⟨(some 34), (.mov (.t 12)), (some (33, true))⟩, []⟩,
   ⟨3, none, ⟨(some 35), (.mov (.t 0)), (some (33, true))⟩, []⟩,
   ⟨4, none, ⟨(some 36), (.nilck (.t 35)), (some (33, true))⟩, []⟩,
   ⟨5, none, ⟨(some 37), (.faddr 0 (.t 36)), (some (33, true))⟩, []⟩,
   ⟨6, none, ⟨(some 38), (.load none (.t 37)), (some (33, true))⟩, []⟩,
   ⟨7, none, ⟨(some 39), (.load none (.t 6)), (some (33, true))⟩, []⟩,
   ⟨8, none, ⟨(some 40), (.look (.int .i64) (.c (.int .i64 0)) false (.t 38) (.t 39)), (some (33, true))⟩, []⟩,
   ⟨9, none, ⟨(some 41), (.bin .sub .num (.t 40) (.c (.c (.int .i64 1)))), (some (33, true))⟩, []⟩,
   ⟨10, none, ⟨(some 42), (.bin .eql .num (.t 34) (.t 41)), (some (33, true))⟩, []⟩,
   ⟨11, none, ⟨(some 43), (.pick (.t 33) (.t 42) (.c (.c (.bool false)))), none⟩, []⟩])
  (.seq (.kill [0, 5, 6, 9, 11, 17, 18, 19, 43] 0) (.cond (.t 43)
  (.region [
    ⟨(some 44), (.mov (.t 9)), none⟩,
    ⟨(some 45), (.mov (.t 11)), none⟩,
    ⟨(some 46), (.bslice true 1 1 [(.int .i64 0)] [(0, (1, (.t 45)))]), none⟩,
    ⟨(some 47), (.app 1 8 (.t 44) (.t 46)), none⟩,
    ⟨(some 9), (.mov (.t 47)), none⟩])
  (.skip)))))))))
  (.seq (.kill [0, 5, 6, 9, 17, 18, 19] 0) (.region [
   ⟨(some 48), (.bin .add .num (.t 19) (.c (.c (.int .i64 1)))), none⟩,
   ⟨(some 19), (.mov (.t 48)), none⟩]))))))))))))
 (.seq (.kill [5, 6, 9] 0) (.seq (.region [
  ⟨(some 49), (.mov (.t 9)), none⟩,
  ⟨(some 50), (.mkfn 206 [(.t 5), (.t 6)]), none⟩,
  ⟨(some 51), (.call 207 [(.t 49), (.t 50)]), none⟩])
 (.seq (.kill [9] 0) (.seq (.region [
  ⟨(some 52), (.mov (.t 9)), none⟩,
  ⟨(some 53), (.mov (.t 9)), none⟩,
  ⟨(some 54), (.len .sl (.t 53)), none⟩,
  ⟨(some 55), (.min [(.t 54), (.c (.c (.int .i64 2)))]), none⟩,
  ⟨(some 56), (.slice 1 (.t 52) none (some (.t 55)) none), none⟩,
  ⟨(some 8), (.mov (.t 56)), none⟩])
 (.ret)))))))))⟩
/-- slices.Clone[[]int,int] -/
def n203 : NF := ⟨8, [2],
 .seq (.region [
  ⟨(some 2), (.mov (.c (.c .nils))), none⟩])
 (.seq (.kill [0] 0) (.seq (.seq (.region [
  ⟨(some 3), (.mov (.t 0)), none⟩,
  ⟨(some 4), (.bin .eql .sl (.t 3) (.c (.c .nils))), none⟩])
 (.seq (.kill [0, 4] 0) (.cond (.t 4)
 (.seq (.region [
   ⟨(some 2), (.mov (.c (.c .nils))), none⟩])
  (.ret))
 (.skip))))
 (.seq (.kill [0] 0) (.seq (.region [
  ⟨(some 5), (.bslice false 1 0 [(.int .i64 0)] []), none⟩,
  ⟨(some 6), (.mov (.t 0)), none⟩,
  ⟨(some 7), (.app 1 8 (.t 5) (.t 6)), none⟩,
  ⟨(some 2), (.mov (.t 7)), none⟩])
 (.ret)))))⟩
/-- (*campanile/topo.Graph).has -/
def n18 : NF := ⟨19, [4],
 .seq (.region [
  ⟨(some 4), (.mov (.c (.c (.bool false)))), none⟩])
 (.seq (.kill [0, 1] 0) (.seq (.region [
  ⟨(some 5), (.mov (.t 0)), none⟩,
  ⟨(some 6), (.bin .neq .ptr (.t 5) (.c (.c .nilp))), none⟩,
  ⟨(some 7), (.mov (.t 6)), none⟩,
  ⟨(some 8), (.mov (.t 1)), (some (7, true))⟩,
  ⟨(some 9), (.bin .geq .num (.t 8) (.c (.c (.int .i64 0)))), (some (7, true))⟩,
  ⟨(some 10), (.pick (.t 7) (.t 9) (.c (.c (.bool false)))), none⟩,
  ⟨(some 11), (.mov (.t 10)), none⟩,
  ⟨(some 12), (.mov (.t 1)), (some (11, true))⟩,
  ⟨(some 13), (.mov (.t 0)), (some (11, true))⟩,
  ⟨(some 14), (.nilck (.t 13)), (some (11, true))⟩,
  ⟨(some 15), (.faddr 0 (.t 14)), (some (11, true))⟩,
  ⟨(some 16), (.load none (.t 15)), (some (11, true))⟩,
  ⟨(some 17), (.bin .lss .num (.t 12) (.t 16)), (some (11, true))⟩,
  ⟨(some 18), (.pick (.t 11) (.t 17) (.c (.c (.bool false)))), none⟩,
  ⟨(some 4), (.mov (.t 18)), none⟩])
 (.ret)))⟩
/-- (*campanile/tree.Tree).first -/
def n204 : NF := ⟨18, [4],
 .seq (.region [
  ⟨(some 4), (.mov (.c (.c (.int .i64 0)))), none⟩])
 (.seq (.kill [0, 1] 0) (.seq (.seq (.region [
  ⟨(some 6), (.mov (.t 0)), none⟩,
  ⟨(some 7), (.nilck (.t 6)), none⟩,
  ⟨(some 8), (.faddr 1 (.t 7)), none⟩,
  ⟨(some 9), (.load none (.t 8)), none⟩,
  ⟨(some 10), (.mov (.t 1)), none⟩,
  ⟨(some 11), (.look (.int .i64) (.c .nils) false (.t 9) (.t 10)), none⟩,
  ⟨(some 5), (.mov (.t 11)), none⟩])
 (.seq (.kill [5] 0) (.seq (.region [
  ⟨(some 12), (.mov (.t 5)), none⟩,
  ⟨(some 13), (.len .sl (.t 12)), none⟩,
  ⟨(some 14), (.bin .gtr .num (.t 13) (.c (.c (.int .i64 0)))), none⟩])
 (.seq (.kill [5, 14] 0) (.cond (.t 14)
 (.seq (.region [
   ⟨(some 15), (.mov (.t 5)), none⟩,
   ⟨(some 16), (.iaddr 1 (.t 15) (.c (.c (.int .i64 0)))), none⟩,
   ⟨(some 17), (.load none (.t 16)), none⟩,
   ⟨(some 4), (.mov (.t 17)), none⟩])
  (.ret))
 (.skip))))))
 (.seq (.kill [] 0) (.seq (.region [
  ⟨(some 4), (.mov (.c (.c (.int .i64 (-1))))), none⟩])
 (.ret)))))⟩
/-- slices.Reverse[[]int,int] -/
def n205 : NF := ⟨28, [],
 .seq (.region [
  ⟨(some 4), (.mov (.t 0)), none⟩,
  ⟨(some 5), (.len .sl (.t 4)), none⟩,
  ⟨(some 6), (.bin .sub .num (.t 5) (.c (.c (.int .i64 1)))), none⟩,
  ⟨(some 2), (.mov (.c (.c (.int .i64 0)))), none⟩,
  ⟨(some 3), (.mov (.t 6)), none⟩])
 (.seq (.kill [0, 2, 3] 0) (.block 0 (.loop (.seq (.kill [0, 2, 3] 0) (.seq (.seq (.region [
   ⟨(some 7), (.mov (.t 2)), none⟩,
   ⟨(some 8), (.mov (.t 3)), none⟩,
   ⟨(some 9), (.bin .lss .num (.t 7) (.t 8)), none⟩])
  (.seq (.kill [0, 2, 3, 9] 0) (.cond (.t 9)
  (.skip)
  (.exit 0))))
  (.seq (.kill [0, 2, 3] 0) (.seq (.block 1 (.draw 0 [
   ⟨0, none, ⟨(some 14), (.mov (.t 0)), none⟩, []⟩,
   ⟨1, none, ⟨(some 15), (.mov (.t 2)), none⟩, []⟩,
   ⟨2, none, ⟨(some 16), (.mov (.t 0)), none⟩, []⟩,
   ⟨3, none, ⟨(some 17), (.mov (.t 3)), none⟩, []⟩,
   ⟨4, none, ⟨(some 18), (.mov (.t 0)), none⟩, []⟩,
   ⟨5, none, ⟨(some 19), (.mov (.t 3)), none⟩, []⟩,
   ⟨6, none, ⟨(some 20), (.iaddr 1 (.t 18) (.t 19)), none⟩, []⟩,
   ⟨7, none, ⟨(some 21), (.load none (.t 20)), none⟩, []⟩,
   ⟨8, none, ⟨(some 22), (.mov (.t 0)), none⟩, []⟩,
   ⟨9, none, ⟨(some 23), (.mov (.t 2)), none⟩, []⟩,
   ⟨10, none, ⟨(some 24), (.iaddr 1 (.t 22) (.t 23)), none⟩, []⟩,
   ⟨11, none, ⟨(some 25), (.load none (.t 24)), none⟩, []⟩,
   ⟨12, none, ⟨(some 26), (.iaddr 1 (.t 14) (.t 15)), none⟩, []⟩,
   ⟨13, none, ⟨none, (.store 1 (.t 26) (.t 21)), none⟩, []⟩,
   ⟨14, none, ⟨(some 27), (.iaddr 1 (.t 16) (.t 17)), none⟩, []⟩,
   ⟨15, none, ⟨none, (.store 1 (.t 27) (.t 25)), none⟩, []⟩]))
  (.seq (.kill [0, 2, 3] 0) (.region [
   ⟨(some 10), (.mov (.t 2)), none⟩,
   ⟨(some 11), (.bin .add .num (.t 10) (.c (.c (.int .i64 1)))), none⟩,
   ⟨(some 12), (.mov (.t 3)), none⟩,
   ⟨(some 13), (.bin .sub .num (.t 12) (.c (.c (.int .i64 1)))), none⟩,
   ⟨(some 2), (.mov (.t 11)), none⟩,
   ⟨(some 3), (.mov (.t 13)), none⟩])))))))))⟩
/-- (*campanile/campanileref18.Graph).Near -/
def n12 : NF := ⟨34, [6],
 .seq (.region [
  ⟨(some 6), (.mov (.c (.c .nils))), none⟩])
 (.seq (.kill [0, 1, 2] 0) (.seq (.region [
  ⟨(some 7), (.mov (.c (.c .nils))), none⟩])
 (.seq (.kill [0, 1, 2, 7] 0) (.seq (.seq (.region [
  ⟨(some 10), (.mov (.t 0)), none⟩,
  ⟨(some 11), (.nilck (.t 10)), none⟩,
  ⟨(some 12), (.faddr 0 (.t 11)), none⟩,
  ⟨(some 13), (.load none (.t 12)), none⟩,
  ⟨(some 14), (.mov (.c (.c (.int .i64 0)))), none⟩])
 (.seq (.kill [0, 1, 2, 7, 13, 14] 0) (.block 0 (.loop (.seq (.kill [0, 1, 2, 7, 13, 14] 0) (.seq (.region [
   ⟨(some 15), (.bin .lss .num (.t 14) (.t 13)), none⟩])
  (.seq (.kill [0, 1, 2, 7, 13, 14, 15] 0) (.seq (.cond (.t 15)
  (.skip)
  (.exit 0))
  (.seq (.kill [0, 1, 2, 7, 13, 14] 0) (.seq (.block 1 (.seq (.region [
   ⟨(some 16), (.mov (.t 14)), none⟩,
   ⟨(some 8), (.mov (.t 16)), none⟩])
  (.seq (.kill [0, 1, 2, 7, 8, 13, 14] 0) (.seq (.region [
   ⟨(some 17), (.mov (.t 0)), none⟩,
   ⟨(some 18), (.mov (.t 1)), none⟩,
   ⟨(some 19), (.mov (.t 8)), none⟩,
   ⟨(some 20), (.call 11 [(.t 17), (.t 18), (.t 19)]), none⟩,
   ⟨(some 9), (.mov (.t 20)), none⟩])
  (.seq (.kill [0, 1, 2, 7, 8, 9, 13, 14] 0) (.seq (.region [
   ⟨(some 21), (.mov (.t 9)), none⟩,
   ⟨(some 22), (.bin .gtr .num (.t 21) (.c (.c (.int .i64 0)))), none⟩,
   ⟨(some 23), (.mov (.t 22)), none⟩,
   ⟨(some 24), (.mov (.t 9)), (some (23, true))⟩,
   ⟨(some 25), (.mov (.t 2)), (some (23, true))⟩,
   ⟨(some 26), (.bin .geq .num (.t 24) (.t 25)), (some (23, true))⟩,
   ⟨(some 27), (.pick (.t 23) (.t 26) (.c (.c (.bool false)))), none⟩])
  (.seq (.kill [0, 1, 2, 7, 8, 13, 14, 27] 0) (.cond (.t 27)
  (.region [
    ⟨(some 28), (.mov (.t 7)), none⟩,
    ⟨(some 29), (.mov (.t 8)), none⟩,
    ⟨(some 30), (.bslice true 1 1 [(.int .i64 0)] [(0, (1, (.t 29)))]), none⟩,
    ⟨(some 31), (.app 1 8 (.t 28) (.t 30)), none⟩,
    ⟨(some 7), (.mov (.t 31)), none⟩])
  (.skip)))))))))
  (.seq (.kill [0, 1, 2, 7, 13, 14] 0) (.region [
   ⟨(some 32), (.bin .add .num (.t 14) (.c (.c (.int .i64 1)))), none⟩,
   ⟨(some 14), (.mov (.t 32)), none⟩]))))))))))))
 (.seq (.kill [7] 0) (.seq (.region [
  ⟨(some 33), (.mov (.t 7)), none⟩,
  ⟨(some 6), (.mov (.t 33)), none⟩])
 (.ret)))))))⟩
/-- campanile/campanileref18.parents -/
def n244 : NF := ⟨59, [8],
 .seq (.region [
  ⟨(some 8), (.mov (.c (.c .nils))), none⟩])
 (.seq (.kill [0, 1, 2, 3] 0) (.seq (.region [
  ⟨(some 9), (.mov (.c (.c .nils))), none⟩])
 (.seq (.kill [0, 1, 2, 3, 9] 0) (.seq (.seq (.region [
  ⟨(some 10), (.mov (.c (.c (.int .i64 255)))), none⟩])
 (.seq (.kill [0, 1, 2, 3, 9, 10] 0) (.block 0 (.loop (.seq (.kill [0, 1, 2, 3, 9, 10] 0) (.seq (.seq (.region [
   ⟨(some 13), (.mov (.t 10)), none⟩,
   ⟨(some 14), (.bin .geq .num (.t 13) (.c (.c (.int .i64 1)))), none⟩])
  (.seq (.kill [0, 1, 2, 3, 9, 10, 14] 0) (.cond (.t 14)
  (.skip)
  (.exit 0))))
  (.seq (.kill [0, 1, 2, 3, 9, 10] 0) (.seq (.block 1 (.seq (.region [
   ⟨(some 17), (.mov (.t 0)), none⟩,
   ⟨(some 18), (.mov (.t 2)), none⟩,
   ⟨(some 19), (.mov (.t 3)), none⟩,
   ⟨(some 20), (.call 12 [(.t 17), (.t 18), (.t 19)]), none⟩,
   ⟨(some 21), (.len .sl (.t 20)), none⟩,
   ⟨(some 22), (.mov (.c (.c (.int .i64 0)))), none⟩])
  (.seq (.kill [0, 1, 2, 3, 9, 10, 20, 21, 22] 0) (.block 2 (.loop (.seq (.kill [0, 1, 2, 3, 9, 10, 20, 21, 22] 0) (.seq (.region [
    ⟨(some 23), (.bin .lss .num (.t 22) (.t 21)), none⟩])
   (.seq (.kill [0, 1, 2, 3, 9, 10, 20, 21, 22, 23] 0) (.seq (.cond (.t 23)
   (.skip)
   (.exit 2))
   (.seq (.kill [0, 1, 2, 3, 9, 10, 20, 21, 22] 0) (.seq (.block 3 (.seq (.region [
    ⟨(some 24), (.iaddr 1 (.t 20) (.t 22)), none⟩,
    ⟨(some 25), (.load none (.t 24)), none⟩,
    ⟨(some 12), (.mov (.t 25)), none⟩])
   (.seq (.kill [0, 1, 2, 3, 9, 10, 12, 20, 21, 22] 0) (.seq (.draw 0 [
    ⟨0, none, ⟨(some 26), (.mov (.t 1)), none⟩, []⟩,
    ⟨1, none, ⟨(some 27), (.mov (.t 12)), none⟩, []⟩,
    ⟨2, none, ⟨(some 28), (.nilck (.t 26)), none⟩, []⟩,
    ⟨3, none, ⟨(some 29), (.faddr 0 (.t 28)), none⟩, []⟩,
    ⟨4, none, ⟨(some 30), (.iaddrA 16 1 (.t 29) (.t 27)), none⟩, []⟩,
    ⟨5, none, ⟨(some 31), (.load none (.t 30)), none⟩, []⟩,
    ⟨6, none, ⟨(some 32), (.mov (.t 1)), none⟩, []⟩,
    ⟨7, none, ⟨(some 33), (.mov (.t 2)), none⟩, []⟩,
    ⟨8, none, ⟨(some 34), (.nilck (.t 32)), none⟩, []⟩,
    ⟨9, none, ⟨(some 35), (.faddr 0 (.t 34)), none⟩, []⟩,
    ⟨10, none, ⟨(some 36), (.iaddrA 16 1 (.t 35) (.t 33)), none⟩, []⟩,
    ⟨11, none, ⟨(some 37), (.load none (.t 36)), none⟩, []⟩,
    ⟨12, none, ⟨(some 38), (.bin .sub .num (.t 37) (.c (.c (.int .i64 1)))), none⟩, []⟩,
    ⟨13, none, ⟨(some 39), (.bin .eql .num (.t 31) (.t 38)), none⟩, []⟩,
    ⟨14, none, ⟨(some 40), (.mov (.t 39)), none⟩, []⟩,
    ⟨15, none, ⟨(some 41), (.mov (.t 0)), (some (40, true))⟩, []⟩,
    ⟨16, none, ⟨(some 42), (.mov (.t 2)), (some (40, true))⟩, []⟩,
    ⟨17, none, ⟨(some 43), (.mov (.t 12)), (some (40, true))⟩, []⟩,
    ⟨19, none, ⟨(some 45), (.mov (.t 10)), (some (40, true))⟩, []⟩,
    ⟨18, none, ⟨(some 44), (.call 11 [(.t 41), (.t 42), (.t 43)]), (some (40, true))⟩, []⟩,
    ⟨20, none, ⟨(some 46), (.bin .eql .num (.t 44) (.t 45)), (some (40, true))⟩, []⟩,
    ⟨21, none, ⟨(some 47), (.pick (.t 40) (.t 46) (.c (.c (.bool false)))), none⟩, []⟩,
    ⟨22, none, ⟨(some 48), (.mov (.t 47)), none⟩, []⟩,
    ⟨23, none, ⟨(some 49), (.mov (.t 9)), (some (48, true))⟩, []⟩,
    ⟨24, none, ⟨(some 50), (.len .sl (.t 49)), (some (48, true))⟩, []⟩,
    ⟨25, none, ⟨(some 51), (.bin .lss .num (.t 50) (.c (.c (.int .i64 2)))), (some (48, true))⟩, []⟩,
    ⟨26, none, ⟨(some 52), (.pick (.t 48) (.t 51) (.c (.c (.bool false)))), none⟩, []⟩])
   (.seq (.kill [0, 1, 2, 3, 9, 10, 12, 20, 21, 22, 52] 0) (.cond (.t 52)
   (.region [
     ⟨(some 53), (.mov (.t 9)), none⟩,
     ⟨(some 54), (.mov (.t 12)), none⟩,
     ⟨(some 55), (.bslice true 1 1 [(.int .i64 0)] [(0, (1, (.t 54)))]), none⟩,
     ⟨(some 56), (.app 1 8 (.t 53) (.t 55)), none⟩,
     ⟨(some 9), (.mov (.t 56)), none⟩])
   (.skip)))))))
   (.seq (.kill [0, 1, 2, 3, 9, 10, 20, 21, 22] 0) (.region [
    ⟨(some 57), (.bin .add .num (.t 22) (.c (.c (.int .i64 1)))), none⟩,
    ⟨(some 22), (.mov (.t 57)), none⟩])))))))))))))
  (.seq (.kill [0, 1, 2, 3, 9, 10] 0) (.region [
   ⟨(some 15), (.mov (.t 10)), none⟩,
   ⟨(some 16), (.bin .sub .num (.t 15) (.c (.c (.int .i64 1)))), none⟩,
   ⟨(some 10), (.mov (.t 16)), none⟩]))))))))))
 (.seq (.kill [9] 0) (.seq (.region [
  ⟨(some 58), (.mov (.t 9)), none⟩,
  ⟨(some 8), (.mov (.t 58)), none⟩])
 (.ret)))))))⟩
/-- campanile/campanileref1.Node -/
def n44 : NF := ⟨9, [2],
 .seq (.region [
  ⟨(some 2), (.mov (.c (.c (.bool false)))), none⟩])
 (.seq (.kill [0] 0) (.seq (.region [
  ⟨(some 3), (.mov (.t 0)), none⟩,
  ⟨(some 4), (.bin .geq .num (.t 3) (.c (.c (.int .i64 0)))), none⟩,
  ⟨(some 5), (.mov (.t 4)), none⟩,
  ⟨(some 6), (.mov (.t 0)), (some (5, true))⟩,
  ⟨(some 7), (.bin .lss .num (.t 6) (.c (.c (.int .i64 16)))), (some (5, true))⟩,
  ⟨(some 8), (.pick (.t 5) (.t 7) (.c (.c (.bool false)))), none⟩,
  ⟨(some 2), (.mov (.t 8)), none⟩])
 (.ret)))⟩
/-- (*campanile/campanileref18.Graph).Has -/
def n22 : NF := ⟨15, [4],
 .seq (.region [
  ⟨(some 4), (.mov (.c (.c (.bool false)))), none⟩])
 (.seq (.kill [0, 1] 0) (.seq (.region [
  ⟨(some 5), (.mov (.t 1)), none⟩,
  ⟨(some 6), (.bin .geq .num (.t 5) (.c (.c (.int .i64 0)))), none⟩,
  ⟨(some 7), (.mov (.t 6)), none⟩,
  ⟨(some 8), (.mov (.t 1)), (some (7, true))⟩,
  ⟨(some 9), (.mov (.t 0)), (some (7, true))⟩,
  ⟨(some 10), (.nilck (.t 9)), (some (7, true))⟩,
  ⟨(some 11), (.faddr 0 (.t 10)), (some (7, true))⟩,
  ⟨(some 12), (.load none (.t 11)), (some (7, true))⟩,
  ⟨(some 13), (.bin .lss .num (.t 8) (.t 12)), (some (7, true))⟩,
  ⟨(some 14), (.pick (.t 7) (.t 13) (.c (.c (.bool false)))), none⟩,
  ⟨(some 4), (.mov (.t 14)), none⟩])
 (.ret)))⟩
/-- (*campanile/topo.Graph).may -/
def n17 : NF := ⟨66, [6],
 .seq (.region [
  ⟨(some 6), (.mov (.c (.c (.bool false)))), none⟩])
 (.seq (.kill [0, 1, 2] 0) (.seq (.seq (.region [
  ⟨(some 10), (.mov (.t 0)), none⟩,
  ⟨(some 11), (.mov (.t 1)), none⟩,
  ⟨(some 12), (.call 18 [(.t 10), (.t 11)]), none⟩,
  ⟨(some 13), (.un .not (.t 12)), none⟩,
  ⟨(some 14), (.mov (.t 13)), none⟩,
  ⟨(some 15), (.mov (.t 2)), (some (14, false))⟩,
  ⟨(some 16), (.len .sl (.t 15)), (some (14, false))⟩,
  ⟨(some 17), (.bin .gtr .num (.t 16) (.c (.c (.int .i64 16)))), (some (14, false))⟩,
  ⟨(some 18), (.pick (.t 14) (.c (.c (.bool true))) (.t 17)), none⟩])
 (.seq (.kill [0, 1, 2, 18] 0) (.cond (.t 18)
 (.seq (.region [
   ⟨(some 6), (.mov (.c (.c (.bool false)))), none⟩])
  (.ret))
 (.skip))))
 (.seq (.kill [0, 1, 2] 0) (.seq (.region [
  ⟨(some 19), .mkmap, none⟩,
  ⟨(some 7), (.mov (.t 19)), none⟩])
 (.seq (.kill [0, 1, 2, 7] 0) (.seq (.seq (.region [
  ⟨(some 20), (.mov (.t 2)), none⟩,
  ⟨(some 21), (.len .sl (.t 20)), none⟩,
  ⟨(some 22), (.mov (.c (.c (.int .i64 0)))), none⟩])
 (.seq (.kill [0, 1, 7, 20, 21, 22] 0) (.block 0 (.loop (.seq (.kill [0, 1, 7, 20, 21, 22] 0) (.seq (.region [
   ⟨(some 23), (.bin .lss .num (.t 22) (.t 21)), none⟩])
  (.seq (.kill [0, 1, 7, 20, 21, 22, 23] 0) (.seq (.cond (.t 23)
  (.skip)
  (.exit 0))
  (.seq (.kill [0, 1, 7, 20, 21, 22] 0) (.seq (.block 1 (.seq (.region [
   ⟨(some 24), (.iaddr 3 (.t 20) (.t 22)), none⟩,
   ⟨(some 25), (.load (some 3) (.t 24)), none⟩,
   ⟨(some 9), (.box true 3 (.c (.agg [(.int .i64 0), (.int .i64 0), (.int .i64 0)]))), none⟩,
   ⟨none, (.store 3 (.t 9) (.t 25)), none⟩])
  (.seq (.kill [0, 1, 7, 9, 20, 21, 22] 1) (.seq (.region [
   ⟨(some 26), (.mov (.t 7)), none⟩,
   ⟨(some 27), (.faddr 1 (.t 9)), none⟩,
   ⟨(some 28), (.load none (.t 27)), none⟩,
   ⟨(some 29), (.look (.int .i64) (.c (.int .i64 0)) false (.t 26) (.t 28)), none⟩,
   ⟨(some 30), (.bin .add .num (.t 29) (.c (.c (.int .i64 1)))), none⟩,
   ⟨none, (.mupd (.int .i64) (.t 26) (.t 28) (.t 30)), none⟩])
  (.seq (.kill [0, 1, 7, 9, 20, 21, 22] 1) (.seq (.region [
   ⟨(some 31), (.faddr 0 (.t 9)), none⟩,
   ⟨(some 32), (.load none (.t 31)), none⟩,
   ⟨(some 33), (.mov (.t 1)), none⟩,
   ⟨(some 34), (.bin .neq .num (.t 32) (.t 33)), none⟩,
   ⟨(some 35), (.mov (.t 34)), none⟩,
   ⟨(some 36), (.faddr 1 (.t 9)), (some (35, false))⟩,
   ⟨(some 37), (.load none (.t 36)), (some (35, false))⟩,
   ⟨(some 38), (.mov (.t 1)), (some (35, false))⟩,
   ⟨(some 39), (.bin .eql .num (.t 37) (.t 38)), (some (35, false))⟩,
   ⟨(some 40), (.pick (.t 35) (.c (.c (.bool true))) (.t 39)), none⟩,
   ⟨(some 41), (.mov (.t 40)), none⟩,
   ⟨(some 42), (.mov (.t 0)), (some (41, false))⟩,
   ⟨(some 43), (.faddr 1 (.t 9)), (some (41, false))⟩,
   ⟨(some 44), (.load none (.t 43)), (some (41, false))⟩,
   ⟨(some 45), (.call 18 [(.t 42), (.t 44)]), (some (41, false))⟩,
   ⟨(some 46), (.un .not (.t 45)), (some (41, false))⟩,
   ⟨(some 47), (.pick (.t 41) (.c (.c (.bool true))) (.t 46)), none⟩,
   ⟨(some 48), (.mov (.t 47)), none⟩,
   ⟨(some 49), (.faddr 2 (.t 9)), (some (48, false))⟩,
   ⟨(some 50), (.load none (.t 49)), (some (48, false))⟩,
   ⟨(some 51), (.bin .lss .num (.t 50) (.c (.c (.int .i64 0)))), (some (48, false))⟩,
   ⟨(some 52), (.pick (.t 48) (.c (.c (.bool true))) (.t 51)), none⟩,
   ⟨(some 53), (.mov (.t 52)), none⟩,
   ⟨(some 54), (.faddr 2 (.t 9)), (some (53, false))⟩,
   ⟨(some 55), (.load none (.t 54)), (some (53, false))⟩,
   ⟨(some 56), (.bin .gtr .num (.t 55) (.c (.c (.int .i64 255)))), (some (53, false))⟩,
   ⟨(some 57), (.pick (.t 53) (.c (.c (.bool true))) (.t 56)), none⟩,
   ⟨(some 58), (.mov (.t 57)), none⟩,
   ⟨(some 59), (.mov (.t 7)), (some (58, false))⟩,
   ⟨(some 60), (.faddr 1 (.t 9)), (some (58, false))⟩,
   ⟨(some 61), (.load none (.t 60)), (some (58, false))⟩,
   ⟨(some 62), (.look (.int .i64) (.c (.int .i64 0)) false (.t 59) (.t 61)), (some (58, false))⟩,
   ⟨(some 63), (.bin .gtr .num (.t 62) (.c (.c (.int .i64 1)))), (some (58, false))⟩,
   ⟨(some 64), (.pick (.t 58) (.c (.c (.bool true))) (.t 63)), none⟩])
  (.seq (.kill [0, 1, 7, 20, 21, 22, 64] 0) (.cond (.t 64)
  (.seq (.region [
    ⟨(some 6), (.mov (.c (.c (.bool false)))), none⟩])
   (.ret))
  (.skip)))))))))
  (.seq (.kill [0, 1, 7, 20, 21, 22] 0) (.region [
   ⟨(some 65), (.bin .add .num (.t 22) (.c (.c (.int .i64 1)))), none⟩,
   ⟨(some 22), (.mov (.t 65)), none⟩]))))))))))))
 (.seq (.kill [] 0) (.seq (.region [
  ⟨(some 6), (.mov (.c (.c (.bool true)))), none⟩])
 (.ret)))))))))⟩
/-- slices.pdqsortOrdered[int] -/
def n83 : NF := ⟨134, [],
 .seq (.region [
  ⟨(some 8), (.mov (.c (.c (.bool true)))), none⟩])
 (.seq (.kill [0, 1, 2, 3, 8] 0) (.seq (.region [
  ⟨(some 9), (.mov (.c (.c (.bool true)))), none⟩])
 (.seq (.kill [0, 1, 2, 3, 8, 9] 0) (.block 0 (.loop (.seq (.kill [0, 1, 2, 3, 8, 9] 0) (.block 1 (.seq (.region [
   ⟨(some 19), (.mov (.t 2)), none⟩,
   ⟨(some 20), (.mov (.t 1)), none⟩,
   ⟨(some 21), (.bin .sub .num (.t 19) (.t 20)), none⟩,
   ⟨(some 10), (.mov (.t 21)), none⟩])
  (.seq (.kill [0, 1, 2, 3, 8, 9, 10] 0) (.seq (.seq (.region [
   ⟨(some 22), (.mov (.t 10)), none⟩,
   ⟨(some 23), (.bin .leq .num (.t 22) (.c (.c (.int .i64 12)))), none⟩])
  (.seq (.kill [0, 1, 2, 3, 8, 9, 10, 23] 0) (.cond (.t 23)
  (.seq (.region [
    ⟨(some 24), (.mov (.t 0)), none⟩,
    ⟨(some 25), (.mov (.t 1)), none⟩,
    ⟨(some 26), (.mov (.t 2)), none⟩,
    ⟨(some 27), (.call 87 [(.t 24), (.t 25), (.t 26)]), none⟩])
   (.ret))
  (.skip))))
  (.seq (.kill [0, 1, 2, 3, 8, 9, 10] 0) (.seq (.seq (.region [
   ⟨(some 28), (.mov (.t 3)), none⟩,
   ⟨(some 29), (.bin .eql .num (.t 28) (.c (.c (.int .i64 0)))), none⟩])
  (.seq (.kill [0, 1, 2, 3, 8, 9, 10, 29] 0) (.cond (.t 29)
  (.seq (.region [
    ⟨(some 30), (.mov (.t 0)), none⟩,
    ⟨(some 31), (.mov (.t 1)), none⟩,
    ⟨(some 32), (.mov (.t 2)), none⟩,
    ⟨(some 33), (.call 88 [(.t 30), (.t 31), (.t 32)]), none⟩])
   (.ret))
  (.skip))))
  (.seq (.kill [0, 1, 2, 3, 8, 9, 10] 0) (.seq (.seq (.region [
   ⟨(some 34), (.mov (.t 8)), none⟩,
   ⟨(some 35), (.un .not (.t 34)), none⟩])
  (.seq (.kill [0, 1, 2, 3, 8, 9, 10, 35] 0) (.cond (.t 35)
  (.seq (.region [
    ⟨(some 36), (.mov (.t 0)), none⟩,
    ⟨(some 37), (.mov (.t 1)), none⟩,
    ⟨(some 38), (.mov (.t 2)), none⟩,
    ⟨(some 39), (.call 89 [(.t 36), (.t 37), (.t 38)]), none⟩])
   (.seq (.kill [0, 1, 2, 3, 8, 9, 10] 0) (.region [
    ⟨(some 40), (.mov (.t 3)), none⟩,
    ⟨(some 41), (.bin .sub .num (.t 40) (.c (.c (.int .i64 1)))), none⟩,
    ⟨(some 3), (.mov (.t 41)), none⟩])))
  (.skip))))
  (.seq (.kill [0, 1, 2, 3, 8, 9, 10] 0) (.seq (.region [
   ⟨(some 43), (.mov (.t 0)), none⟩,
   ⟨(some 44), (.mov (.t 1)), none⟩,
   ⟨(some 45), (.mov (.t 2)), none⟩,
   ⟨(some 46), (.call 90 [(.t 43), (.t 44), (.t 45)]), none⟩,
   ⟨(some 42), (.mov (.t 46)), none⟩,
   ⟨(some 47), (.ext (.t 42) 0), none⟩,
   ⟨(some 48), (.ext (.t 42) 1), none⟩,
   ⟨(some 11), (.mov (.t 47)), none⟩,
   ⟨(some 12), (.mov (.t 48)), none⟩])
  (.seq (.kill [0, 1, 2, 3, 8, 9, 10, 11, 12] 0) (.seq (.seq (.region [
   ⟨(some 49), (.mov (.t 12)), none⟩,
   ⟨(some 50), (.bin .eql .num (.t 49) (.c (.c (.int .i64 2)))), none⟩])
  (.seq (.kill [0, 1, 2, 3, 8, 9, 10, 11, 12, 50] 0) (.cond (.t 50)
  (.seq (.region [
    ⟨(some 51), (.mov (.t 0)), none⟩,
    ⟨(some 52), (.mov (.t 1)), none⟩,
    ⟨(some 53), (.mov (.t 2)), none⟩,
    ⟨(some 54), (.call 91 [(.t 51), (.t 52), (.t 53)]), none⟩])
   (.seq (.kill [0, 1, 2, 3, 8, 9, 10, 11] 0) (.seq (.region [
    ⟨(some 55), (.mov (.t 2)), none⟩,
    ⟨(some 56), (.bin .sub .num (.t 55) (.c (.c (.int .i64 1)))), none⟩,
    ⟨(some 57), (.mov (.t 11)), none⟩,
    ⟨(some 58), (.mov (.t 1)), none⟩,
    ⟨(some 59), (.bin .sub .num (.t 57) (.t 58)), none⟩,
    ⟨(some 60), (.bin .sub .num (.t 56) (.t 59)), none⟩,
    ⟨(some 11), (.mov (.t 60)), none⟩])
   (.seq (.kill [0, 1, 2, 3, 8, 9, 10, 11] 0) (.region [
    ⟨(some 12), (.mov (.c (.c (.int .i64 1)))), none⟩])))))
  (.skip))))
  (.seq (.kill [0, 1, 2, 3, 8, 9, 10, 11, 12] 0) (.seq (.seq (.region [
   ⟨(some 61), (.mov (.t 8)), none⟩,
   ⟨(some 62), (.mov (.t 61)), none⟩,
   ⟨(some 63), (.mov (.t 9)), (some (62, true))⟩,
   ⟨(some 64), (.pick (.t 62) (.t 63) (.c (.c (.bool false)))), none⟩,
   ⟨(some 65), (.mov (.t 64)), none⟩,
   ⟨(some 66), (.mov (.t 12)), (some (65, true))⟩,
   ⟨(some 67), (.bin .eql .num (.t 66) (.c (.c (.int .i64 1)))), (some (65, true))⟩,
   ⟨(some 68), (.pick (.t 65) (.t 67) (.c (.c (.bool false)))), none⟩])
  (.seq (.kill [0, 1, 2, 3, 8, 9, 10, 11, 68] 0) (.cond (.t 68)
  (.seq (.region [
    ⟨(some 69), (.mov (.t 0)), none⟩,
    ⟨(some 70), (.mov (.t 1)), none⟩,
    ⟨(some 71), (.mov (.t 2)), none⟩,
    ⟨(some 72), (.call 92 [(.t 69), (.t 70), (.t 71)]), none⟩])
   (.seq (.kill [0, 1, 2, 3, 8, 9, 10, 11, 72] 0) (.cond (.t 72)
   (.ret)
   (.skip))))
  (.skip))))
  (.seq (.kill [0, 1, 2, 3, 8, 9, 10, 11] 0) (.seq (.seq (.draw 0 [
   ⟨0, none, ⟨(some 73), (.mov (.t 1)), none⟩, []⟩,
   ⟨1, none, ⟨(some 74), (.bin .gtr .num (.t 73) (.c (.c (.int .i64 0)))), none⟩, []⟩,
   ⟨2, none, ⟨(some 75), (.mov (.t 74)), none⟩, []⟩,
   ⟨3, none, ⟨(some 76), (.mov (.t 0)), (some (75, true))⟩, []⟩,
   ⟨4, none, ⟨(some 77), (.mov (.t 1)), (some (75, true))⟩, []⟩,
   ⟨5, none, ⟨(some 78), (.bin .sub .num (.t 77) (.c (.c (.int .i64 1)))), (some (75, true))⟩, []⟩,
   ⟨6, none, ⟨(some 79), (.iaddr 1 (.t 76) (.t 78)), (some (75, true))⟩, []⟩,
   ⟨7, none, ⟨(some 80), (.load none (.t 79)), (some (75, true))⟩, []⟩,
   ⟨8, none, ⟨(some 81), (.mov (.t 0)), (some (75, true))⟩, []⟩,
   ⟨9, none, ⟨(some 82), (.mov (.t 11)), (some (75, true))⟩, []⟩,
   ⟨10, none, ⟨(some 83), (.iaddr 1 (.t 81) (.t 82)), (some (75, true))⟩, []⟩,
   ⟨11, none, ⟨(some 84), (.load none (.t 83)), (some (75, true))⟩, []⟩,
   ⟨12, none, ⟨(some 85), (.call 93 [(.t 80), (.t 84)]), (some (75, true))⟩, []⟩,
   ⟨13, none, ⟨(some 86), (.un .not (.t 85)), (some (75, true))⟩, []⟩,
   ⟨14, none, ⟨(some 87), (.pick (.t 75) (.t 86) (.c (.c (.bool false)))), none⟩, []⟩])
  (.seq (.kill [0, 1, 2, 3, 8, 9, 10, 11, 87] 0) (.cond (.t 87)
  (.seq (.region [
    ⟨(some 88), (.mov (.t 0)), none⟩,
    ⟨(some 89), (.mov (.t 1)), none⟩,
    ⟨(some 90), (.mov (.t 2)), none⟩,
    ⟨(some 91), (.mov (.t 11)), none⟩,
    ⟨(some 92), (.call 94 [(.t 88), (.t 89), (.t 90), (.t 91)]), none⟩,
    ⟨(some 13), (.mov (.t 92)), none⟩])
   (.seq (.kill [0, 2, 3, 8, 9, 13] 0) (.seq (.region [
    ⟨(some 93), (.mov (.t 13)), none⟩,
    ⟨(some 1), (.mov (.t 93)), none⟩])
   (.exit 1))))
  (.skip))))
  (.seq (.kill [0, 1, 2, 3, 10, 11] 0) (.seq (.region [
   ⟨(some 95), (.mov (.t 0)), none⟩,
   ⟨(some 96), (.mov (.t 1)), none⟩,
   ⟨(some 97), (.mov (.t 2)), none⟩,
   ⟨(some 98), (.mov (.t 11)), none⟩,
   ⟨(some 99), (.call 95 [(.t 95), (.t 96), (.t 97), (.t 98)]), none⟩,
   ⟨(some 94), (.mov (.t 99)), none⟩,
   ⟨(some 100), (.ext (.t 94) 0), none⟩,
   ⟨(some 101), (.ext (.t 94) 1), none⟩,
   ⟨(some 14), (.mov (.t 100)), none⟩,
   ⟨(some 15), (.mov (.t 101)), none⟩])
  (.seq (.kill [0, 1, 2, 3, 10, 14, 15] 0) (.seq (.region [
   ⟨(some 102), (.mov (.t 15)), none⟩,
   ⟨(some 9), (.mov (.t 102)), none⟩])
  (.seq (.kill [0, 1, 2, 3, 9, 10, 14] 0) (.seq (.region [
   ⟨(some 103), (.mov (.t 14)), none⟩,
   ⟨(some 104), (.mov (.t 1)), none⟩,
   ⟨(some 105), (.bin .sub .num (.t 103) (.t 104)), none⟩,
   ⟨(some 106), (.mov (.t 2)), none⟩,
   ⟨(some 107), (.mov (.t 14)), none⟩,
   ⟨(some 108), (.bin .sub .num (.t 106) (.t 107)), none⟩,
   ⟨(some 16), (.mov (.t 105)), none⟩,
   ⟨(some 17), (.mov (.t 108)), none⟩])
  (.seq (.kill [0, 1, 2, 3, 9, 10, 14, 16, 17] 0) (.seq (.region [
   ⟨(some 109), (.mov (.t 10)), none⟩,
   ⟨(some 110), (.bin .quo .num (.t 109) (.c (.c (.int .i64 8)))), none⟩,
   ⟨(some 18), (.mov (.t 110)), none⟩])
  (.seq (.kill [0, 1, 2, 3, 9, 14, 16, 17, 18] 0) (.seq (.region [
   ⟨(some 111), (.mov (.t 16)), none⟩,
   ⟨(some 112), (.mov (.t 17)), none⟩,
   ⟨(some 113), (.bin .lss .num (.t 111) (.t 112)), none⟩])
  (.seq (.kill [0, 1, 2, 3, 9, 14, 16, 17, 18, 113] 0) (.cond (.t 113)
  (.seq (.region [
    ⟨(some 114), (.mov (.t 16)), none⟩,
    ⟨(some 115), (.mov (.t 18)), none⟩,
    ⟨(some 116), (.bin .geq .num (.t 114) (.t 115)), none⟩,
    ⟨(some 8), (.mov (.t 116)), none⟩])
   (.seq (.kill [0, 1, 2, 3, 8, 9, 14] 0) (.seq (.region [
    ⟨(some 117), (.mov (.t 0)), none⟩,
    ⟨(some 118), (.mov (.t 1)), none⟩,
    ⟨(some 119), (.mov (.t 14)), none⟩,
    ⟨(some 120), (.mov (.t 3)), none⟩,
    ⟨(some 121), (.call 83 [(.t 117), (.t 118), (.t 119), (.t 120)]), none⟩])
   (.seq (.kill [0, 2, 3, 8, 9, 14] 0) (.region [
    ⟨(some 122), (.mov (.t 14)), none⟩,
    ⟨(some 123), (.bin .add .num (.t 122) (.c (.c (.int .i64 1)))), none⟩,
    ⟨(some 1), (.mov (.t 123)), none⟩])))))
  (.seq (.region [
    ⟨(some 124), (.mov (.t 17)), none⟩,
    ⟨(some 125), (.mov (.t 18)), none⟩,
    ⟨(some 126), (.bin .geq .num (.t 124) (.t 125)), none⟩,
    ⟨(some 8), (.mov (.t 126)), none⟩])
   (.seq (.kill [0, 1, 2, 3, 8, 9, 14] 0) (.seq (.region [
    ⟨(some 127), (.mov (.t 0)), none⟩,
    ⟨(some 128), (.mov (.t 14)), none⟩,
    ⟨(some 129), (.bin .add .num (.t 128) (.c (.c (.int .i64 1)))), none⟩,
    ⟨(some 130), (.mov (.t 2)), none⟩,
    ⟨(some 131), (.mov (.t 3)), none⟩,
    ⟨(some 132), (.call 83 [(.t 127), (.t 129), (.t 130), (.t 131)]), none⟩])
   (.seq (.kill [0, 1, 3, 8, 9, 14] 0) (.region [
    ⟨(some 133), (.mov (.t 14)), none⟩,
    ⟨(some 2), (.mov (.t 133)), none⟩])))))))))))))))))))))))))))))))))))))))⟩
/-- math/bits.Len -/
def n82 : NF := ⟨8, [2],
 .seq (.region [
  ⟨(some 2), (.mov (.c (.c (.int .i64 0)))), none⟩])
 (.seq (.kill [0] 0) (.seq (.cond (.c (.c (.bool false)))
 (.seq (.region [
   ⟨(some 3), (.mov (.t 0)), none⟩,
   ⟨(some 4), (.conv (.toInt .u32) (.t 3)), none⟩,
   ⟨(some 5), (.call 96 [(.t 4)]), none⟩,
   ⟨(some 2), (.mov (.t 5)), none⟩])
  (.ret))
 (.skip))
 (.seq (.kill [0] 0) (.seq (.region [
  ⟨(some 6), (.mov (.t 0)), none⟩,
  ⟨(some 7), (.call 97 [(.t 6)]), none⟩,
  ⟨(some 2), (.mov (.t 7)), none⟩])
 (.ret)))))⟩
/-- slices.SortStableFunc[[]int,int] -/
def n207 : NF := ⟨9, [],
 .region [
  ⟨(some 4), (.mov (.t 0)), none⟩,
  ⟨(some 5), (.mov (.t 0)), none⟩,
  ⟨(some 6), (.len .sl (.t 5)), none⟩,
  ⟨(some 7), (.mov (.t 1)), none⟩,
  ⟨(some 8), (.call 208 [(.t 4), (.t 6), (.t 7)]), none⟩]⟩
/-- (*campanile/tree.Tree).follows$1 -/
def n206 : NF := ⟨16, [6],
 .seq (.region [
  ⟨(some 6), (.mov (.c (.c (.int .i64 0)))), none⟩])
 (.seq (.kill [0, 1, 2, 3] 0) (.seq (.draw 0 [
  ⟨0, none, ⟨(some 7), (.load none (.t 2)), none⟩, []⟩,
  ⟨1, none, ⟨(some 8), (.load none (.t 3)), none⟩, []⟩,
  ⟨2, none, ⟨(some 9), (.mov (.t 1)), none⟩, []⟩,
  ⟨4, none, ⟨(some 11), (.load none (.t 2)), none⟩, []⟩,
  ⟨5, none, ⟨(some 12), (.load none (.t 3)), none⟩, []⟩,
  ⟨6, none, ⟨(some 13), (.mov (.t 0)), none⟩, []⟩,
  ⟨3, none, ⟨(some 10), (.call 4 [(.t 7), (.t 8), (.t 9)]), none⟩, [(4, ⟨(some 11), (.load none (.t 2)), none⟩), (5, ⟨(some 12), (.load none (.t 3)), none⟩)]⟩,
  ⟨7, none, ⟨(some 14), (.call 4 [(.t 11), (.t 12), (.t 13)]), none⟩, []⟩,
  ⟨8, none, ⟨(some 15), (.call 46 [(.t 10), (.t 14)]), none⟩, []⟩,
  ⟨9, none, ⟨(some 6), (.mov (.t 15)), none⟩, []⟩])
 (.ret)))⟩
/-- cmp.Compare[int] -/
def n46 : NF := ⟨20, [4],
 .seq (.region [
  ⟨(some 4), (.mov (.c (.c (.int .i64 0)))), none⟩])
 (.seq (.kill [0, 1] 0) (.seq (.region [
  ⟨(some 7), (.mov (.t 0)), none⟩,
  ⟨(some 8), (.call 47 [(.t 7)]), none⟩,
  ⟨(some 5), (.mov (.t 8)), none⟩])
 (.seq (.kill [0, 1, 5] 0) (.seq (.region [
  ⟨(some 9), (.mov (.t 1)), none⟩,
  ⟨(some 10), (.call 47 [(.t 9)]), none⟩,
  ⟨(some 6), (.mov (.t 10)), none⟩])
 (.seq (.kill [0, 1, 5, 6] 0) (.seq (.seq (.region [
  ⟨(some 11), (.mov (.t 5)), none⟩])
 (.seq (.kill [0, 1, 6, 11] 0) (.cond (.t 11)
 (.seq (.seq (.region [
   ⟨(some 12), (.mov (.t 6)), none⟩])
  (.seq (.kill [12] 0) (.cond (.t 12)
  (.seq (.region [
    ⟨(some 4), (.mov (.c (.c (.int .i64 0)))), none⟩])
   (.ret))
  (.skip))))
  (.seq (.kill [] 0) (.seq (.region [
   ⟨(some 4), (.mov (.c (.c (.int .i64 (-1))))), none⟩])
  (.ret))))
 (.skip))))
 (.seq (.kill [0, 1, 6] 0) (.seq (.seq (.region [
  ⟨(some 13), (.mov (.t 6)), none⟩])
 (.seq (.kill [0, 1, 13] 0) (.cond (.t 13)
 (.seq (.region [
   ⟨(some 4), (.mov (.c (.c (.int .i64 1)))), none⟩])
  (.ret))
 (.skip))))
 (.seq (.kill [0, 1] 0) (.seq (.seq (.region [
  ⟨(some 14), (.mov (.t 0)), none⟩,
  ⟨(some 15), (.mov (.t 1)), none⟩,
  ⟨(some 16), (.bin .lss .num (.t 14) (.t 15)), none⟩])
 (.seq (.kill [0, 1, 16] 0) (.cond (.t 16)
 (.seq (.region [
   ⟨(some 4), (.mov (.c (.c (.int .i64 (-1))))), none⟩])
  (.ret))
 (.skip))))
 (.seq (.kill [0, 1] 0) (.seq (.seq (.region [
  ⟨(some 17), (.mov (.t 0)), none⟩,
  ⟨(some 18), (.mov (.t 1)), none⟩,
  ⟨(some 19), (.bin .gtr .num (.t 17) (.t 18)), none⟩])
 (.seq (.kill [19] 0) (.cond (.t 19)
 (.seq (.region [
   ⟨(some 4), (.mov (.c (.c (.int .i64 1)))), none⟩])
  (.ret))
 (.skip))))
 (.seq (.kill [] 0) (.seq (.region [
  ⟨(some 4), (.mov (.c (.c (.int .i64 0)))), none⟩])
 (.ret)))))))))))))))⟩
/-- (*campanile/campanileref18.Graph).Quality -/
def n11 : NF := ⟨34, [6],
 .seq (.region [
  ⟨(some 6), (.mov (.c (.c (.int .i64 0)))), none⟩])
 (.seq (.kill [0, 1, 2] 0) (.seq (.seq (.region [
  ⟨(some 7), (.mov (.t 0)), none⟩,
  ⟨(some 8), (.mov (.t 1)), none⟩,
  ⟨(some 9), (.call 22 [(.t 7), (.t 8)]), none⟩,
  ⟨(some 10), (.un .not (.t 9)), none⟩,
  ⟨(some 11), (.mov (.t 10)), none⟩,
  ⟨(some 12), (.mov (.t 0)), (some (11, false))⟩,
  ⟨(some 13), (.mov (.t 2)), (some (11, false))⟩,
  ⟨(some 14), (.call 22 [(.t 12), (.t 13)]), (some (11, false))⟩,
  ⟨(some 15), (.un .not (.t 14)), (some (11, false))⟩,
  ⟨(some 16), (.pick (.t 11) (.c (.c (.bool true))) (.t 15)), none⟩])
 (.seq (.kill [0, 1, 2, 16] 0) (.cond (.t 16)
 (.seq (.region [
   ⟨(some 6), (.mov (.c (.c (.int .i64 0)))), none⟩])
  (.ret))
 (.skip))))
 (.seq (.kill [0, 1, 2] 0) (.seq (.draw 0 [
  ⟨0, none, ⟨(some 17), (.mov (.t 0)), none⟩, []⟩,
  ⟨1, none, ⟨(some 18), (.mov (.t 1)), none⟩, []⟩,
  ⟨2, none, ⟨(some 19), (.mov (.t 2)), none⟩, []⟩,
  ⟨3, none, ⟨(some 20), (.nilck (.t 17)), none⟩, []⟩,
  ⟨4, none, ⟨(some 21), (.faddr 1 (.t 20)), none⟩, []⟩,
  ⟨5, none, ⟨(some 22), (.iaddrA 16 16 (.t 21) (.t 18)), none⟩, []⟩,
  ⟨6, none, ⟨(some 23), (.iaddrA 16 1 (.t 22) (.t 19)), none⟩, []⟩,
  ⟨7, none, ⟨(some 24), (.load none (.t 23)), none⟩, []⟩,
  ⟨8, none, ⟨(some 25), (.mov (.t 0)), none⟩, []⟩,
  ⟨9, none, ⟨(some 26), (.mov (.t 2)), none⟩, []⟩,
  ⟨10, none, ⟨(some 27), (.mov (.t 1)), none⟩, []⟩,
  ⟨11, none, ⟨(some 28), (.nilck (.t 25)), none⟩, []⟩,
  ⟨12, none, ⟨(some 29), (.faddr 1 (.t 28)), none⟩, []⟩,
  ⟨13, none, ⟨(some 30), (.iaddrA 16 16 (.t 29) (.t 26)), none⟩, []⟩,
  ⟨14, none, ⟨(some 31), (.iaddrA 16 1 (.t 30) (.t 27)), none⟩, []⟩,
  ⟨15, none, ⟨(some 32), (.load none (.t 31)), none⟩, []⟩,
  ⟨16, none, ⟨(some 33), (.min [(.t 24), (.t 32)]), none⟩, []⟩,
  ⟨17, none, ⟨(some 6), (.mov (.t 33)), none⟩, []⟩])
 (.ret)))))⟩
/-- slices.insertionSortOrdered[int] -/
def n87 : NF := ⟨49, [],
 .seq (.region [
  ⟨(some 8), (.mov (.t 1)), none⟩,
  ⟨(some 9), (.bin .add .num (.t 8) (.c (.c (.int .i64 1)))), none⟩,
  ⟨(some 6), (.mov (.t 9)), none⟩])
 (.seq (.kill [0, 1, 2, 6] 0) (.block 0 (.loop (.seq (.kill [0, 1, 2, 6] 0) (.seq (.seq (.region [
   ⟨(some 10), (.mov (.t 6)), none⟩,
   ⟨(some 11), (.mov (.t 2)), none⟩,
   ⟨(some 12), (.bin .lss .num (.t 10) (.t 11)), none⟩])
  (.seq (.kill [0, 1, 2, 6, 12] 0) (.cond (.t 12)
  (.skip)
  (.exit 0))))
  (.seq (.kill [0, 1, 2, 6] 0) (.seq (.block 1 (.seq (.region [
   ⟨(some 15), (.mov (.t 6)), none⟩,
   ⟨(some 7), (.mov (.t 15)), none⟩])
  (.seq (.kill [0, 1, 2, 6, 7] 0) (.block 2 (.loop (.seq (.kill [0, 1, 2, 6, 7] 0) (.seq (.seq (.draw 0 [
    ⟨0, none, ⟨(some 16), (.mov (.t 7)), none⟩, []⟩,
    ⟨1, none, ⟨(some 17), (.mov (.t 1)), none⟩, []⟩,
    ⟨2, none, ⟨(some 18), (.bin .gtr .num (.t 16) (.t 17)), none⟩, []⟩,
    ⟨3, none, ⟨(some 19), (.mov (.t 18)), none⟩, []⟩,
    ⟨4, none, ⟨(some 20), (.mov (.t 0)), (some (19, true))⟩, []⟩,
    ⟨5, none, ⟨(some 21), (.mov (.t 7)), (some (19, true))⟩, []⟩,
    ⟨6, none, ⟨(some 22), (.iaddr 1 (.t 20) (.t 21)), (some (19, true))⟩, []⟩,
    ⟨7, none, ⟨(some 23), (.load none (.t 22)), (some (19, true))⟩, []⟩,
    ⟨8, none, ⟨(some 24), (.mov (.t 0)), (some (19, true))⟩, []⟩,
    ⟨9, none, ⟨(some 25), (.mov (.t 7)), (some (19, true))⟩, []⟩,
    ⟨10, none, ⟨(some 26), (.bin .sub .num (.t 25) (.c (.c (.int .i64 1)))), (some (19, true))⟩, []⟩,
    ⟨11, none, ⟨(some 27), (.iaddr 1 (.t 24) (.t 26)), (some (19, true))⟩, []⟩,
    ⟨12, none, ⟨(some 28), (.load none (.t 27)), (some (19, true))⟩, []⟩,
    ⟨13, none, ⟨(some 29), (.call 93 [(.t 23), (.t 28)]), (some (19, true))⟩, []⟩,
    ⟨14, none, ⟨(some 30), (.pick (.t 19) (.t 29) (.c (.c (.bool false)))), none⟩, []⟩])
   (.seq (.kill [0, 1, 2, 6, 7, 30] 0) (.cond (.t 30)
   (.skip)
   (.exit 2))))
   (.seq (.kill [0, 1, 2, 6, 7] 0) (.seq (.block 3 (.draw 0 [
    ⟨0, none, ⟨(some 33), (.mov (.t 0)), none⟩, []⟩,
    ⟨1, none, ⟨(some 34), (.mov (.t 7)), none⟩, []⟩,
    ⟨2, none, ⟨(some 35), (.mov (.t 0)), none⟩, []⟩,
    ⟨3, none, ⟨(some 36), (.mov (.t 7)), none⟩, []⟩,
    ⟨4, none, ⟨(some 37), (.bin .sub .num (.t 36) (.c (.c (.int .i64 1)))), none⟩, []⟩,
    ⟨5, none, ⟨(some 38), (.mov (.t 0)), none⟩, []⟩,
    ⟨6, none, ⟨(some 39), (.mov (.t 7)), none⟩, []⟩,
    ⟨7, none, ⟨(some 40), (.bin .sub .num (.t 39) (.c (.c (.int .i64 1)))), none⟩, []⟩,
    ⟨8, none, ⟨(some 41), (.iaddr 1 (.t 38) (.t 40)), none⟩, []⟩,
    ⟨9, none, ⟨(some 42), (.load none (.t 41)), none⟩, []⟩,
    ⟨10, none, ⟨(some 43), (.mov (.t 0)), none⟩, []⟩,
    ⟨11, none, ⟨(some 44), (.mov (.t 7)), none⟩, []⟩,
    ⟨12, none, ⟨(some 45), (.iaddr 1 (.t 43) (.t 44)), none⟩, []⟩,
    ⟨13, none, ⟨(some 46), (.load none (.t 45)), none⟩, []⟩,
    ⟨14, none, ⟨(some 47), (.iaddr 1 (.t 33) (.t 34)), none⟩, []⟩,
    ⟨15, none, ⟨none, (.store 1 (.t 47) (.t 42)), none⟩, []⟩,
    ⟨16, none, ⟨(some 48), (.iaddr 1 (.t 35) (.t 37)), none⟩, []⟩,
    ⟨17, none, ⟨none, (.store 1 (.t 48) (.t 46)), none⟩, []⟩]))
   (.seq (.kill [0, 1, 2, 6, 7] 0) (.region [
    ⟨(some 31), (.mov (.t 7)), none⟩,
    ⟨(some 32), (.bin .sub .num (.t 31) (.c (.c (.int .i64 1)))), none⟩,
    ⟨(some 7), (.mov (.t 32)), none⟩])))))))))))
  (.seq (.kill [0, 1, 2, 6] 0) (.region [
   ⟨(some 13), (.mov (.t 6)), none⟩,
   ⟨(some 14), (.bin .add .num (.t 13) (.c (.c (.int .i64 1)))), none⟩,
   ⟨(some 6), (.mov (.t 14)), none⟩])))))))))⟩
/-- slices.heapSortOrdered[int] -/
def n88 : NF := ⟨56, [],
 .seq (.region [
  ⟨(some 11), (.mov (.t 1)), none⟩,
  ⟨(some 6), (.mov (.t 11)), none⟩])
 (.seq (.kill [0, 1, 2, 6] 0) (.seq (.region [
  ⟨(some 7), (.mov (.c (.c (.int .i64 0)))), none⟩])
 (.seq (.kill [0, 1, 2, 6, 7] 0) (.seq (.region [
  ⟨(some 12), (.mov (.t 2)), none⟩,
  ⟨(some 13), (.mov (.t 1)), none⟩,
  ⟨(some 14), (.bin .sub .num (.t 12) (.t 13)), none⟩,
  ⟨(some 8), (.mov (.t 14)), none⟩])
 (.seq (.kill [0, 6, 7, 8] 0) (.seq (.seq (.region [
  ⟨(some 15), (.mov (.t 8)), none⟩,
  ⟨(some 16), (.bin .sub .num (.t 15) (.c (.c (.int .i64 1)))), none⟩,
  ⟨(some 17), (.bin .quo .num (.t 16) (.c (.c (.int .i64 2)))), none⟩,
  ⟨(some 9), (.mov (.t 17)), none⟩])
 (.seq (.kill [0, 6, 7, 8, 9] 0) (.block 0 (.loop (.seq (.kill [0, 6, 7, 8, 9] 0) (.seq (.seq (.region [
   ⟨(some 18), (.mov (.t 9)), none⟩,
   ⟨(some 19), (.bin .geq .num (.t 18) (.c (.c (.int .i64 0)))), none⟩])
  (.seq (.kill [0, 6, 7, 8, 9, 19] 0) (.cond (.t 19)
  (.skip)
  (.exit 0))))
  (.seq (.kill [0, 6, 7, 8, 9] 0) (.seq (.block 1 (.region [
   ⟨(some 22), (.mov (.t 0)), none⟩,
   ⟨(some 23), (.mov (.t 9)), none⟩,
   ⟨(some 24), (.mov (.t 8)), none⟩,
   ⟨(some 25), (.mov (.t 6)), none⟩,
   ⟨(some 26), (.call 107 [(.t 22), (.t 23), (.t 24), (.t 25)]), none⟩]))
  (.seq (.kill [0, 6, 7, 8, 9] 0) (.region [
   ⟨(some 20), (.mov (.t 9)), none⟩,
   ⟨(some 21), (.bin .sub .num (.t 20) (.c (.c (.int .i64 1)))), none⟩,
   ⟨(some 9), (.mov (.t 21)), none⟩]))))))))))
 (.seq (.kill [0, 6, 7, 8] 0) (.seq (.region [
  ⟨(some 27), (.mov (.t 8)), none⟩,
  ⟨(some 28), (.bin .sub .num (.t 27) (.c (.c (.int .i64 1)))), none⟩,
  ⟨(some 10), (.mov (.t 28)), none⟩])
 (.seq (.kill [0, 6, 7, 10] 0) (.block 2 (.loop (.seq (.kill [0, 6, 7, 10] 0) (.seq (.seq (.region [
   ⟨(some 29), (.mov (.t 10)), none⟩,
   ⟨(some 30), (.bin .geq .num (.t 29) (.c (.c (.int .i64 0)))), none⟩])
  (.seq (.kill [0, 6, 7, 10, 30] 0) (.cond (.t 30)
  (.skip)
  (.exit 2))))
  (.seq (.kill [0, 6, 7, 10] 0) (.seq (.block 3 (.seq (.draw 0 [
   ⟨0, none, ⟨(some 33), (.mov (.t 0)), none⟩, []⟩,
   ⟨1, none, ⟨(some 34), (.mov (.t 6)), none⟩, []⟩,
   ⟨2, none, ⟨(some 35), (.mov (.t 0)), none⟩, []⟩,
   ⟨3, none, ⟨(some 36), (.mov (.t 6)), none⟩, []⟩,
   ⟨4, none, ⟨(some 37), (.mov (.t 10)), none⟩, []⟩,
   ⟨5, none, ⟨(some 38), (.bin .add .num (.t 36) (.t 37)), none⟩, []⟩,
   ⟨6, none, ⟨(some 39), (.mov (.t 0)), none⟩, []⟩,
   ⟨7, none, ⟨(some 40), (.mov (.t 6)), none⟩, []⟩,
   ⟨8, none, ⟨(some 41), (.mov (.t 10)), none⟩, []⟩,
   ⟨9, none, ⟨(some 42), (.bin .add .num (.t 40) (.t 41)), none⟩, []⟩,
   ⟨10, none, ⟨(some 43), (.iaddr 1 (.t 39) (.t 42)), none⟩, []⟩,
   ⟨11, none, ⟨(some 44), (.load none (.t 43)), none⟩, []⟩,
   ⟨12, none, ⟨(some 45), (.mov (.t 0)), none⟩, []⟩,
   ⟨13, none, ⟨(some 46), (.mov (.t 6)), none⟩, []⟩,
   ⟨14, none, ⟨(some 47), (.iaddr 1 (.t 45) (.t 46)), none⟩, []⟩,
   ⟨15, none, ⟨(some 48), (.load none (.t 47)), none⟩, []⟩,
   ⟨16, none, ⟨(some 49), (.iaddr 1 (.t 33) (.t 34)), none⟩, []⟩,
   ⟨17, none, ⟨none, (.store 1 (.t 49) (.t 44)), none⟩, []⟩,
   ⟨18, none, ⟨(some 50), (.iaddr 1 (.t 35) (.t 38)), none⟩, []⟩,
   ⟨19, none, ⟨none, (.store 1 (.t 50) (.t 48)), none⟩, []⟩])
  (.seq (.kill [0, 6, 7, 10] 0) (.region [
   ⟨(some 51), (.mov (.t 0)), none⟩,
   ⟨(some 52), (.mov (.t 7)), none⟩,
   ⟨(some 53), (.mov (.t 10)), none⟩,
   ⟨(some 54), (.mov (.t 6)), none⟩,
   ⟨(some 55), (.call 107 [(.t 51), (.t 52), (.t 53), (.t 54)]), none⟩]))))
  (.seq (.kill [0, 6, 7, 10] 0) (.region [
   ⟨(some 31), (.mov (.t 10)), none⟩,
   ⟨(some 32), (.bin .sub .num (.t 31) (.c (.c (.int .i64 1)))), none⟩,
   ⟨(some 10), (.mov (.t 32)), none⟩])))))))))))))))))⟩
/-- slices.breakPatternsOrdered[int] -/
def n89 : NF := ⟨65, [],
 .seq (.region [
  ⟨(some 11), (.mov (.t 2)), none⟩,
  ⟨(some 12), (.mov (.t 1)), none⟩,
  ⟨(some 13), (.bin .sub .num (.t 11) (.t 12)), none⟩,
  ⟨(some 6), (.mov (.t 13)), none⟩])
 (.seq (.kill [0, 1, 6] 0) (.seq (.region [
  ⟨(some 14), (.mov (.t 6)), none⟩,
  ⟨(some 15), (.bin .geq .num (.t 14) (.c (.c (.int .i64 8)))), none⟩])
 (.seq (.kill [0, 1, 6, 15] 0) (.cond (.t 15)
 (.seq (.region [
   ⟨(some 16), (.mov (.t 6)), none⟩,
   ⟨(some 17), (.conv (.toInt .u64) (.t 16)), none⟩,
   ⟨(some 7), (.box false 1 (.c (.c (.int .u64 0)))), none⟩,
   ⟨none, (.store 1 (.t 7) (.t 17)), none⟩])
  (.seq (.kill [0, 1, 6, 7] 0) (.seq (.region [
   ⟨(some 18), (.mov (.t 6)), none⟩,
   ⟨(some 19), (.call 108 [(.t 18)]), none⟩,
   ⟨(some 8), (.mov (.t 19)), none⟩])
  (.seq (.kill [0, 1, 6, 7, 8] 0) (.seq (.region [
   ⟨(some 20), (.mov (.t 1)), none⟩,
   ⟨(some 21), (.mov (.t 6)), none⟩,
   ⟨(some 22), (.bin .quo .num (.t 21) (.c (.c (.int .i64 4)))), none⟩,
   ⟨(some 23), (.bin .mul .num (.t 22) (.c (.c (.int .i64 2)))), none⟩,
   ⟨(some 24), (.bin .add .num (.t 20) (.t 23)), none⟩,
   ⟨(some 25), (.bin .sub .num (.t 24) (.c (.c (.int .i64 1)))), none⟩,
   ⟨(some 9), (.mov (.t 25)), none⟩])
  (.seq (.kill [0, 1, 6, 7, 8, 9] 0) (.block 0 (.loop (.seq (.kill [0, 1, 6, 7, 8, 9] 0) (.seq (.seq (.region [
    ⟨(some 26), (.mov (.t 9)), none⟩,
    ⟨(some 27), (.mov (.t 1)), none⟩,
    ⟨(some 28), (.mov (.t 6)), none⟩,
    ⟨(some 29), (.bin .quo .num (.t 28) (.c (.c (.int .i64 4)))), none⟩,
    ⟨(some 30), (.bin .mul .num (.t 29) (.c (.c (.int .i64 2)))), none⟩,
    ⟨(some 31), (.bin .add .num (.t 27) (.t 30)), none⟩,
    ⟨(some 32), (.bin .add .num (.t 31) (.c (.c (.int .i64 1)))), none⟩,
    ⟨(some 33), (.bin .leq .num (.t 26) (.t 32)), none⟩])
   (.seq (.kill [0, 1, 6, 7, 8, 9, 33] 0) (.cond (.t 33)
   (.skip)
   (.exit 0))))
   (.seq (.kill [0, 1, 6, 7, 8, 9] 0) (.seq (.block 1 (.seq (.region [
    ⟨(some 36), (.call 109 [(.t 7)]), none⟩,
    ⟨(some 37), (.mov (.t 8)), none⟩,
    ⟨(some 38), (.bin .sub .num (.t 37) (.c (.c (.int .u64 1)))), none⟩,
    ⟨(some 39), (.bin .and .num (.t 36) (.t 38)), none⟩,
    ⟨(some 40), (.conv (.toInt .i64) (.t 39)), none⟩,
    ⟨(some 10), (.mov (.t 40)), none⟩])
   (.seq (.kill [0, 1, 6, 7, 8, 9, 10] 0) (.seq (.seq (.region [
    ⟨(some 41), (.mov (.t 10)), none⟩,
    ⟨(some 42), (.mov (.t 6)), none⟩,
    ⟨(some 43), (.bin .geq .num (.t 41) (.t 42)), none⟩])
   (.seq (.kill [0, 1, 6, 7, 8, 9, 10, 43] 0) (.cond (.t 43)
   (.region [
     ⟨(some 44), (.mov (.t 10)), none⟩,
     ⟨(some 45), (.mov (.t 6)), none⟩,
     ⟨(some 46), (.bin .sub .num (.t 44) (.t 45)), none⟩,
     ⟨(some 10), (.mov (.t 46)), none⟩])
   (.skip))))
   (.seq (.kill [0, 1, 6, 7, 8, 9, 10] 0) (.draw 0 [
    ⟨0, none, ⟨(some 47), (.mov (.t 0)), none⟩, []⟩,
    ⟨1, none, ⟨(some 48), (.mov (.t 9)), none⟩, []⟩,
    ⟨2, none, ⟨(some 49), (.mov (.t 0)), none⟩, []⟩,
    ⟨3, none, ⟨(some 50), (.mov (.t 1)), none⟩, []⟩,
    ⟨4, none, ⟨(some 51), (.mov (.t 10)), none⟩, []⟩,
    ⟨5, none, ⟨(some 52), (.bin .add .num (.t 50) (.t 51)), none⟩, []⟩,
    ⟨6, none, ⟨(some 53), (.mov (.t 0)), none⟩, []⟩,
    ⟨7, none, ⟨(some 54), (.mov (.t 1)), none⟩, []⟩,
    ⟨8, none, ⟨(some 55), (.mov (.t 10)), none⟩, []⟩,
    ⟨9, none, ⟨(some 56), (.bin .add .num (.t 54) (.t 55)), none⟩, []⟩,
    ⟨10, none, ⟨(some 57), (.iaddr 1 (.t 53) (.t 56)), none⟩, []⟩,
    ⟨11, none, ⟨(some 58), (.load none (.t 57)), none⟩, []⟩,
    ⟨12, none, ⟨(some 59), (.mov (.t 0)), none⟩, []⟩,
    ⟨13, none, ⟨(some 60), (.mov (.t 9)), none⟩, []⟩,
    ⟨14, none, ⟨(some 61), (.iaddr 1 (.t 59) (.t 60)), none⟩, []⟩,
    ⟨15, none, ⟨(some 62), (.load none (.t 61)), none⟩, []⟩,
    ⟨16, none, ⟨(some 63), (.iaddr 1 (.t 47) (.t 48)), none⟩, []⟩,
    ⟨17, none, ⟨none, (.store 1 (.t 63) (.t 58)), none⟩, []⟩,
    ⟨18, none, ⟨(some 64), (.iaddr 1 (.t 49) (.t 52)), none⟩, []⟩,
    ⟨19, none, ⟨none, (.store 1 (.t 64) (.t 62)), none⟩, []⟩]))))))
   (.seq (.kill [0, 1, 6, 7, 8, 9] 0) (.region [
    ⟨(some 34), (.mov (.t 9)), none⟩,
    ⟨(some 35), (.bin .add .num (.t 34) (.c (.c (.int .i64 1)))), none⟩,
    ⟨(some 9), (.mov (.t 35)), none⟩]))))))))))))))
 (.skip)))))⟩
/-- slices.choosePivotOrdered[int] -/
def n90 : NF := ⟨57, [6, 7],
 .seq (.region [
  ⟨(some 6), (.mov (.c (.c (.int .i64 0)))), none⟩,
  ⟨(some 7), (.mov (.c (.c (.int .i64 0)))), none⟩])
 (.seq (.kill [0, 1, 2] 0) (.seq (.region [
  ⟨(some 13), (.mov (.t 2)), none⟩,
  ⟨(some 14), (.mov (.t 1)), none⟩,
  ⟨(some 15), (.bin .sub .num (.t 13) (.t 14)), none⟩,
  ⟨(some 8), (.mov (.t 15)), none⟩])
 (.seq (.kill [0, 1, 8] 0) (.seq (.region [
  ⟨(some 9), (.box false 1 (.c (.c (.int .i64 0)))), none⟩])
 (.seq (.kill [0, 1, 8, 9] 0) (.seq (.region [
  ⟨(some 16), (.mov (.t 1)), none⟩,
  ⟨(some 17), (.mov (.t 8)), none⟩,
  ⟨(some 18), (.bin .quo .num (.t 17) (.c (.c (.int .i64 4)))), none⟩,
  ⟨(some 19), (.bin .mul .num (.t 18) (.c (.c (.int .i64 1)))), none⟩,
  ⟨(some 20), (.bin .add .num (.t 16) (.t 19)), none⟩,
  ⟨(some 10), (.mov (.t 20)), none⟩])
 (.seq (.kill [0, 1, 8, 9, 10] 0) (.seq (.region [
  ⟨(some 21), (.mov (.t 1)), none⟩,
  ⟨(some 22), (.mov (.t 8)), none⟩,
  ⟨(some 23), (.bin .quo .num (.t 22) (.c (.c (.int .i64 4)))), none⟩,
  ⟨(some 24), (.bin .mul .num (.t 23) (.c (.c (.int .i64 2)))), none⟩,
  ⟨(some 25), (.bin .add .num (.t 21) (.t 24)), none⟩,
  ⟨(some 11), (.mov (.t 25)), none⟩])
 (.seq (.kill [0, 1, 8, 9, 10, 11] 0) (.seq (.region [
  ⟨(some 26), (.mov (.t 1)), none⟩,
  ⟨(some 27), (.mov (.t 8)), none⟩,
  ⟨(some 28), (.bin .quo .num (.t 27) (.c (.c (.int .i64 4)))), none⟩,
  ⟨(some 29), (.bin .mul .num (.t 28) (.c (.c (.int .i64 3)))), none⟩,
  ⟨(some 30), (.bin .add .num (.t 26) (.t 29)), none⟩,
  ⟨(some 12), (.mov (.t 30)), none⟩])
 (.seq (.kill [0, 8, 9, 10, 11, 12] 0) (.seq (.seq (.region [
  ⟨(some 31), (.mov (.t 8)), none⟩,
  ⟨(some 32), (.bin .geq .num (.t 31) (.c (.c (.int .i64 8)))), none⟩])
 (.seq (.kill [0, 8, 9, 10, 11, 12, 32] 0) (.cond (.t 32)
 (.seq (.seq (.region [
   ⟨(some 33), (.mov (.t 8)), none⟩,
   ⟨(some 34), (.bin .geq .num (.t 33) (.c (.c (.int .i64 50)))), none⟩])
  (.seq (.kill [0, 9, 10, 11, 12, 34] 0) (.cond (.t 34)
  (.seq (.region [
    ⟨(some 35), (.mov (.t 0)), none⟩,
    ⟨(some 36), (.mov (.t 10)), none⟩,
    ⟨(some 37), (.call 110 [(.t 35), (.t 36), (.t 9)]), none⟩,
    ⟨(some 10), (.mov (.t 37)), none⟩])
   (.seq (.kill [0, 9, 10, 11, 12] 0) (.seq (.region [
    ⟨(some 38), (.mov (.t 0)), none⟩,
    ⟨(some 39), (.mov (.t 11)), none⟩,
    ⟨(some 40), (.call 110 [(.t 38), (.t 39), (.t 9)]), none⟩,
    ⟨(some 11), (.mov (.t 40)), none⟩])
   (.seq (.kill [0, 9, 10, 11, 12] 0) (.region [
    ⟨(some 41), (.mov (.t 0)), none⟩,
    ⟨(some 42), (.mov (.t 12)), none⟩,
    ⟨(some 43), (.call 110 [(.t 41), (.t 42), (.t 9)]), none⟩,
    ⟨(some 12), (.mov (.t 43)), none⟩])))))
  (.skip))))
  (.seq (.kill [0, 9, 10, 11, 12] 0) (.region [
   ⟨(some 44), (.mov (.t 0)), none⟩,
   ⟨(some 45), (.mov (.t 10)), none⟩,
   ⟨(some 46), (.mov (.t 11)), none⟩,
   ⟨(some 47), (.mov (.t 12)), none⟩,
   ⟨(some 48), (.call 111 [(.t 44), (.t 45), (.t 46), (.t 47), (.t 9)]), none⟩,
   ⟨(some 11), (.mov (.t 48)), none⟩])))
 (.skip))))
 (.seq (.kill [9, 11] 0) (.seq (.region [
  ⟨(some 49), (.load none (.t 9)), none⟩])
 (.seq (.kill [11, 49] 0) (.block 0 (.seq (.region [
  ⟨(some 52), (.bin .eql .num (.t 49) (.c (.c (.int .i64 0)))), none⟩,
  ⟨(some 51), (.mov (.t 52)), none⟩])
 (.seq (.kill [11, 49, 51] 0) (.cond (.t 51)
 (.seq (.region [
   ⟨(some 53), (.mov (.t 11)), none⟩,
   ⟨(some 6), (.mov (.t 53)), none⟩,
   ⟨(some 7), (.mov (.c (.c (.int .i64 1)))), none⟩])
  (.ret))
 (.seq (.region [
   ⟨(some 55), (.bin .eql .num (.t 49) (.c (.c (.int .i64 12)))), none⟩,
   ⟨(some 54), (.mov (.t 55)), none⟩])
  (.seq (.kill [11, 54] 0) (.cond (.t 54)
  (.seq (.region [
    ⟨(some 56), (.mov (.t 11)), none⟩,
    ⟨(some 6), (.mov (.t 56)), none⟩,
    ⟨(some 7), (.mov (.c (.c (.int .i64 2)))), none⟩])
   (.ret))
  (.seq (.region [
    ⟨(some 50), (.mov (.t 11)), none⟩,
    ⟨(some 6), (.mov (.t 50)), none⟩,
    ⟨(some 7), (.mov (.c (.c (.int .i64 0)))), none⟩])
   (.ret))))))))))))))))))))))))⟩
/-- slices.reverseRangeOrdered[int] -/
def n91 : NF := ⟨32, [],
 .seq (.region [
  ⟨(some 8), (.mov (.t 1)), none⟩,
  ⟨(some 6), (.mov (.t 8)), none⟩])
 (.seq (.kill [0, 2, 6] 0) (.seq (.region [
  ⟨(some 9), (.mov (.t 2)), none⟩,
  ⟨(some 10), (.bin .sub .num (.t 9) (.c (.c (.int .i64 1)))), none⟩,
  ⟨(some 7), (.mov (.t 10)), none⟩])
 (.seq (.kill [0, 6, 7] 0) (.block 0 (.loop (.seq (.kill [0, 6, 7] 0) (.seq (.seq (.region [
   ⟨(some 11), (.mov (.t 6)), none⟩,
   ⟨(some 12), (.mov (.t 7)), none⟩,
   ⟨(some 13), (.bin .lss .num (.t 11) (.t 12)), none⟩])
  (.seq (.kill [0, 6, 7, 13] 0) (.cond (.t 13)
  (.skip)
  (.exit 0))))
  (.seq (.kill [0, 6, 7] 0) (.block 1 (.seq (.draw 0 [
   ⟨0, none, ⟨(some 14), (.mov (.t 0)), none⟩, []⟩,
   ⟨1, none, ⟨(some 15), (.mov (.t 6)), none⟩, []⟩,
   ⟨2, none, ⟨(some 16), (.mov (.t 0)), none⟩, []⟩,
   ⟨3, none, ⟨(some 17), (.mov (.t 7)), none⟩, []⟩,
   ⟨4, none, ⟨(some 18), (.mov (.t 0)), none⟩, []⟩,
   ⟨5, none, ⟨(some 19), (.mov (.t 7)), none⟩, []⟩,
   ⟨6, none, ⟨(some 20), (.iaddr 1 (.t 18) (.t 19)), none⟩, []⟩,
   ⟨7, none, ⟨(some 21), (.load none (.t 20)), none⟩, []⟩,
   ⟨8, none, ⟨(some 22), (.mov (.t 0)), none⟩, []⟩,
   ⟨9, none, ⟨(some 23), (.mov (.t 6)), none⟩, []⟩,
   ⟨10, none, ⟨(some 24), (.iaddr 1 (.t 22) (.t 23)), none⟩, []⟩,
   ⟨11, none, ⟨(some 25), (.load none (.t 24)), none⟩, []⟩,
   ⟨12, none, ⟨(some 26), (.iaddr 1 (.t 14) (.t 15)), none⟩, []⟩,
   ⟨13, none, ⟨none, (.store 1 (.t 26) (.t 21)), none⟩, []⟩,
   ⟨14, none, ⟨(some 27), (.iaddr 1 (.t 16) (.t 17)), none⟩, []⟩,
   ⟨15, none, ⟨none, (.store 1 (.t 27) (.t 25)), none⟩, []⟩])
  (.seq (.kill [0, 6, 7] 0) (.seq (.region [
   ⟨(some 28), (.mov (.t 6)), none⟩,
   ⟨(some 29), (.bin .add .num (.t 28) (.c (.c (.int .i64 1)))), none⟩,
   ⟨(some 6), (.mov (.t 29)), none⟩])
  (.seq (.kill [0, 6, 7] 0) (.region [
   ⟨(some 30), (.mov (.t 7)), none⟩,
   ⟨(some 31), (.bin .sub .num (.t 30) (.c (.c (.int .i64 1)))), none⟩,
   ⟨(some 7), (.mov (.t 31)), none⟩]))))))))))))))⟩
/-- slices.partialInsertionSortOrdered[int] -/
def n92 : NF := ⟨133, [6],
 .seq (.region [
  ⟨(some 6), (.mov (.c (.c (.bool false)))), none⟩])
 (.seq (.kill [0, 1, 2] 0) (.seq (.region [
  ⟨(some 11), (.mov (.t 1)), none⟩,
  ⟨(some 12), (.bin .add .num (.t 11) (.c (.c (.int .i64 1)))), none⟩,
  ⟨(some 7), (.mov (.t 12)), none⟩])
 (.seq (.kill [0, 1, 2, 7] 0) (.seq (.seq (.region [
  ⟨(some 8), (.mov (.c (.c (.int .i64 0)))), none⟩])
 (.seq (.kill [0, 1, 2, 7, 8] 0) (.block 0 (.loop (.seq (.kill [0, 1, 2, 7, 8] 0) (.seq (.seq (.region [
   ⟨(some 13), (.mov (.t 8)), none⟩,
   ⟨(some 14), (.bin .lss .num (.t 13) (.c (.c (.int .i64 5)))), none⟩])
  (.seq (.kill [0, 1, 2, 7, 8, 14] 0) (.cond (.t 14)
  (.skip)
  (.exit 0))))
  (.seq (.kill [0, 1, 2, 7, 8] 0) (.seq (.block 1 (.seq (.block 2 (.loop (.seq (.kill [0, 1, 2, 7, 8] 0) (.seq (.seq (.draw 0 [
    ⟨0, none, ⟨(some 17), (.mov (.t 7)), none⟩, []⟩,
    ⟨1, none, ⟨(some 18), (.mov (.t 2)), none⟩, []⟩,
    ⟨2, none, ⟨(some 19), (.bin .lss .num (.t 17) (.t 18)), none⟩, []⟩,
    ⟨3, none, ⟨(some 20), (.mov (.t 19)), none⟩, []⟩,
    ⟨4, none, ⟨(some 21), (.mov (.t 0)), (some (20, true))⟩, []⟩,
    ⟨5, none, ⟨(some 22), (.mov (.t 7)), (some (20, true))⟩, []⟩,
    ⟨6, none, ⟨(some 23), (.iaddr 1 (.t 21) (.t 22)), (some (20, true))⟩, []⟩,
    ⟨7, none, ⟨(some 24), (.load none (.t 23)), (some (20, true))⟩, []⟩,
    ⟨8, none, ⟨(some 25), (.mov (.t 0)), (some (20, true))⟩, []⟩,
    ⟨9, none, ⟨(some 26), (.mov (.t 7)), (some (20, true))⟩, []⟩,
    ⟨10, none, ⟨(some 27), (.bin .sub .num (.t 26) (.c (.c (.int .i64 1)))), (some (20, true))⟩, []⟩,
    ⟨11, none, ⟨(some 28), (.iaddr 1 (.t 25) (.t 27)), (some (20, true))⟩, []⟩,
    ⟨12, none, ⟨(some 29), (.load none (.t 28)), (some (20, true))⟩, []⟩,
    ⟨13, none, ⟨(some 30), (.call 93 [(.t 24), (.t 29)]), (some (20, true))⟩, []⟩,
    ⟨14, none, ⟨(some 31), (.un .not (.t 30)), (some (20, true))⟩, []⟩,
    ⟨15, none, ⟨(some 32), (.pick (.t 20) (.t 31) (.c (.c (.bool false)))), none⟩, []⟩])
   (.seq (.kill [0, 1, 2, 7, 8, 32] 0) (.cond (.t 32)
   (.skip)
   (.exit 2))))
   (.seq (.kill [0, 1, 2, 7, 8] 0) (.block 3 (.region [
    ⟨(some 33), (.mov (.t 7)), none⟩,
    ⟨(some 34), (.bin .add .num (.t 33) (.c (.c (.int .i64 1)))), none⟩,
    ⟨(some 7), (.mov (.t 34)), none⟩])))))))
  (.seq (.kill [0, 1, 2, 7, 8] 0) (.seq (.seq (.region [
   ⟨(some 35), (.mov (.t 7)), none⟩,
   ⟨(some 36), (.mov (.t 2)), none⟩,
   ⟨(some 37), (.bin .eql .num (.t 35) (.t 36)), none⟩])
  (.seq (.kill [0, 1, 2, 7, 8, 37] 0) (.cond (.t 37)
  (.seq (.region [
    ⟨(some 6), (.mov (.c (.c (.bool true)))), none⟩])
   (.ret))
  (.skip))))
  (.seq (.kill [0, 1, 2, 7, 8] 0) (.seq (.seq (.region [
   ⟨(some 38), (.mov (.t 2)), none⟩,
   ⟨(some 39), (.mov (.t 1)), none⟩,
   ⟨(some 40), (.bin .sub .num (.t 38) (.t 39)), none⟩,
   ⟨(some 41), (.bin .lss .num (.t 40) (.c (.c (.int .i64 50)))), none⟩])
  (.seq (.kill [0, 1, 2, 7, 8, 41] 0) (.cond (.t 41)
  (.seq (.region [
    ⟨(some 6), (.mov (.c (.c (.bool false)))), none⟩])
   (.ret))
  (.skip))))
  (.seq (.kill [0, 1, 2, 7, 8] 0) (.seq (.draw 0 [
   ⟨0, none, ⟨(some 42), (.mov (.t 0)), none⟩, []⟩,
   ⟨1, none, ⟨(some 43), (.mov (.t 7)), none⟩, []⟩,
   ⟨2, none, ⟨(some 44), (.mov (.t 0)), none⟩, []⟩,
   ⟨3, none, ⟨(some 45), (.mov (.t 7)), none⟩, []⟩,
   ⟨4, none, ⟨(some 46), (.bin .sub .num (.t 45) (.c (.c (.int .i64 1)))), none⟩, []⟩,
   ⟨5, none, ⟨(some 47), (.mov (.t 0)), none⟩, []⟩,
   ⟨6, none, ⟨(some 48), (.mov (.t 7)), none⟩, []⟩,
   ⟨7, none, ⟨(some 49), (.bin .sub .num (.t 48) (.c (.c (.int .i64 1)))), none⟩, []⟩,
   ⟨8, none, ⟨(some 50), (.iaddr 1 (.t 47) (.t 49)), none⟩, []⟩,
   ⟨9, none, ⟨(some 51), (.load none (.t 50)), none⟩, []⟩,
   ⟨10, none, ⟨(some 52), (.mov (.t 0)), none⟩, []⟩,
   ⟨11, none, ⟨(some 53), (.mov (.t 7)), none⟩, []⟩,
   ⟨12, none, ⟨(some 54), (.iaddr 1 (.t 52) (.t 53)), none⟩, []⟩,
   ⟨13, none, ⟨(some 55), (.load none (.t 54)), none⟩, []⟩,
   ⟨14, none, ⟨(some 56), (.iaddr 1 (.t 42) (.t 43)), none⟩, []⟩,
   ⟨15, none, ⟨none, (.store 1 (.t 56) (.t 51)), none⟩, []⟩,
   ⟨16, none, ⟨(some 57), (.iaddr 1 (.t 44) (.t 46)), none⟩, []⟩,
   ⟨17, none, ⟨none, (.store 1 (.t 57) (.t 55)), none⟩, []⟩])
  (.seq (.kill [0, 1, 2, 7, 8] 0) (.seq (.seq (.region [
   ⟨(some 58), (.mov (.t 7)), none⟩,
   ⟨(some 59), (.mov (.t 1)), none⟩,
   ⟨(some 60), (.bin .sub .num (.t 58) (.t 59)), none⟩,
   ⟨(some 61), (.bin .geq .num (.t 60) (.c (.c (.int .i64 2)))), none⟩])
  (.seq (.kill [0, 1, 2, 7, 8, 61] 0) (.cond (.t 61)
  (.seq (.region [
    ⟨(some 62), (.mov (.t 7)), none⟩,
    ⟨(some 63), (.bin .sub .num (.t 62) (.c (.c (.int .i64 1)))), none⟩,
    ⟨(some 9), (.mov (.t 63)), none⟩])
   (.seq (.kill [0, 1, 2, 7, 8, 9] 0) (.block 4 (.loop (.seq (.kill [0, 1, 2, 7, 8, 9] 0) (.seq (.seq (.region [
     ⟨(some 64), (.mov (.t 9)), none⟩,
     ⟨(some 65), (.bin .geq .num (.t 64) (.c (.c (.int .i64 1)))), none⟩])
    (.seq (.kill [0, 1, 2, 7, 8, 9, 65] 0) (.cond (.t 65)
    (.skip)
    (.exit 4))))
    (.seq (.kill [0, 1, 2, 7, 8, 9] 0) (.seq (.block 5 (.seq (.seq (.draw 0 [
     ⟨0, none, ⟨(some 68), (.mov (.t 0)), none⟩, []⟩,
     ⟨1, none, ⟨(some 69), (.mov (.t 9)), none⟩, []⟩,
     ⟨2, none, ⟨(some 70), (.iaddr 1 (.t 68) (.t 69)), none⟩, []⟩,
     ⟨3, none, ⟨(some 71), (.load none (.t 70)), none⟩, []⟩,
     ⟨4, none, ⟨(some 72), (.mov (.t 0)), none⟩, []⟩,
     ⟨5, none, ⟨(some 73), (.mov (.t 9)), none⟩, []⟩,
     ⟨6, none, ⟨(some 74), (.bin .sub .num (.t 73) (.c (.c (.int .i64 1)))), none⟩, []⟩,
     ⟨7, none, ⟨(some 75), (.iaddr 1 (.t 72) (.t 74)), none⟩, []⟩,
     ⟨8, none, ⟨(some 76), (.load none (.t 75)), none⟩, []⟩,
     ⟨9, none, ⟨(some 77), (.call 93 [(.t 71), (.t 76)]), none⟩, []⟩,
     ⟨10, none, ⟨(some 78), (.un .not (.t 77)), none⟩, []⟩])
    (.seq (.kill [0, 1, 2, 7, 8, 9, 78] 0) (.cond (.t 78)
    (.exit 4)
    (.skip))))
    (.seq (.kill [0, 1, 2, 7, 8, 9] 0) (.draw 0 [
     ⟨0, none, ⟨(some 79), (.mov (.t 0)), none⟩, []⟩,
     ⟨1, none, ⟨(some 80), (.mov (.t 9)), none⟩, []⟩,
     ⟨2, none, ⟨(some 81), (.mov (.t 0)), none⟩, []⟩,
     ⟨3, none, ⟨(some 82), (.mov (.t 9)), none⟩, []⟩,
     ⟨4, none, ⟨(some 83), (.bin .sub .num (.t 82) (.c (.c (.int .i64 1)))), none⟩, []⟩,
     ⟨5, none, ⟨(some 84), (.mov (.t 0)), none⟩, []⟩,
     ⟨6, none, ⟨(some 85), (.mov (.t 9)), none⟩, []⟩,
     ⟨7, none, ⟨(some 86), (.bin .sub .num (.t 85) (.c (.c (.int .i64 1)))), none⟩, []⟩,
     ⟨8, none, ⟨(some 87), (.iaddr 1 (.t 84) (.t 86)), none⟩, []⟩,
     ⟨9, none, ⟨(some 88), (.load none (.t 87)), none⟩, []⟩,
     ⟨10, none, ⟨(some 89), (.mov (.t 0)), none⟩, []⟩,
     ⟨11, none, ⟨(some 90), (.mov (.t 9)), none⟩, []⟩,
     ⟨12, none, ⟨(some 91), (.iaddr 1 (.t 89) (.t 90)), none⟩, []⟩,
     ⟨13, none, ⟨(some 92), (.load none (.t 91)), none⟩, []⟩,
     ⟨14, none, ⟨(some 93), (.iaddr 1 (.t 79) (.t 80)), none⟩, []⟩,
     ⟨15, none, ⟨none, (.store 1 (.t 93) (.t 88)), none⟩, []⟩,
     ⟨16, none, ⟨(some 94), (.iaddr 1 (.t 81) (.t 83)), none⟩, []⟩,
     ⟨17, none, ⟨none, (.store 1 (.t 94) (.t 92)), none⟩, []⟩]))))
    (.seq (.kill [0, 1, 2, 7, 8, 9] 0) (.region [
     ⟨(some 66), (.mov (.t 9)), none⟩,
     ⟨(some 67), (.bin .sub .num (.t 66) (.c (.c (.int .i64 1)))), none⟩,
     ⟨(some 9), (.mov (.t 67)), none⟩]))))))))))
  (.skip))))
  (.seq (.kill [0, 1, 2, 7, 8] 0) (.seq (.region [
   ⟨(some 95), (.mov (.t 2)), none⟩,
   ⟨(some 96), (.mov (.t 7)), none⟩,
   ⟨(some 97), (.bin .sub .num (.t 95) (.t 96)), none⟩,
   ⟨(some 98), (.bin .geq .num (.t 97) (.c (.c (.int .i64 2)))), none⟩])
  (.seq (.kill [0, 1, 2, 7, 8, 98] 0) (.cond (.t 98)
  (.seq (.region [
    ⟨(some 99), (.mov (.t 7)), none⟩,
    ⟨(some 100), (.bin .add .num (.t 99) (.c (.c (.int .i64 1)))), none⟩,
    ⟨(some 10), (.mov (.t 100)), none⟩])
   (.seq (.kill [0, 1, 2, 7, 8, 10] 0) (.block 6 (.loop (.seq (.kill [0, 1, 2, 7, 8, 10] 0) (.seq (.seq (.region [
     ⟨(some 101), (.mov (.t 10)), none⟩,
     ⟨(some 102), (.mov (.t 2)), none⟩,
     ⟨(some 103), (.bin .lss .num (.t 101) (.t 102)), none⟩])
    (.seq (.kill [0, 1, 2, 7, 8, 10, 103] 0) (.cond (.t 103)
    (.skip)
    (.exit 6))))
    (.seq (.kill [0, 1, 2, 7, 8, 10] 0) (.seq (.block 7 (.seq (.seq (.draw 0 [
     ⟨0, none, ⟨(some 106), (.mov (.t 0)), none⟩, []⟩,
     ⟨1, none, ⟨(some 107), (.mov (.t 10)), none⟩, []⟩,
     ⟨2, none, ⟨(some 108), (.iaddr 1 (.t 106) (.t 107)), none⟩, []⟩,
     ⟨3, none, ⟨(some 109), (.load none (.t 108)), none⟩, []⟩,
     ⟨4, none, ⟨(some 110), (.mov (.t 0)), none⟩, []⟩,
     ⟨5, none, ⟨(some 111), (.mov (.t 10)), none⟩, []⟩,
     ⟨6, none, ⟨(some 112), (.bin .sub .num (.t 111) (.c (.c (.int .i64 1)))), none⟩, []⟩,
     ⟨7, none, ⟨(some 113), (.iaddr 1 (.t 110) (.t 112)), none⟩, []⟩,
     ⟨8, none, ⟨(some 114), (.load none (.t 113)), none⟩, []⟩,
     ⟨9, none, ⟨(some 115), (.call 93 [(.t 109), (.t 114)]), none⟩, []⟩,
     ⟨10, none, ⟨(some 116), (.un .not (.t 115)), none⟩, []⟩])
    (.seq (.kill [0, 1, 2, 7, 8, 10, 116] 0) (.cond (.t 116)
    (.exit 6)
    (.skip))))
    (.seq (.kill [0, 1, 2, 7, 8, 10] 0) (.draw 0 [
     ⟨0, none, ⟨(some 117), (.mov (.t 0)), none⟩, []⟩,
     ⟨1, none, ⟨(some 118), (.mov (.t 10)), none⟩, []⟩,
     ⟨2, none, ⟨(some 119), (.mov (.t 0)), none⟩, []⟩,
     ⟨3, none, ⟨(some 120), (.mov (.t 10)), none⟩, []⟩,
     ⟨4, none, ⟨(some 121), (.bin .sub .num (.t 120) (.c (.c (.int .i64 1)))), none⟩, []⟩,
     ⟨5, none, ⟨(some 122), (.mov (.t 0)), none⟩, []⟩,
     ⟨6, none, ⟨(some 123), (.mov (.t 10)), none⟩, []⟩,
     ⟨7, none, ⟨(some 124), (.bin .sub .num (.t 123) (.c (.c (.int .i64 1)))), none⟩, []⟩,
     ⟨8, none, ⟨(some 125), (.iaddr 1 (.t 122) (.t 124)), none⟩, []⟩,
     ⟨9, none, ⟨(some 126), (.load none (.t 125)), none⟩, []⟩,
     ⟨10, none, ⟨(some 127), (.mov (.t 0)), none⟩, []⟩,
     ⟨11, none, ⟨(some 128), (.mov (.t 10)), none⟩, []⟩,
     ⟨12, none, ⟨(some 129), (.iaddr 1 (.t 127) (.t 128)), none⟩, []⟩,
     ⟨13, none, ⟨(some 130), (.load none (.t 129)), none⟩, []⟩,
     ⟨14, none, ⟨(some 131), (.iaddr 1 (.t 117) (.t 118)), none⟩, []⟩,
     ⟨15, none, ⟨none, (.store 1 (.t 131) (.t 126)), none⟩, []⟩,
     ⟨16, none, ⟨(some 132), (.iaddr 1 (.t 119) (.t 121)), none⟩, []⟩,
     ⟨17, none, ⟨none, (.store 1 (.t 132) (.t 130)), none⟩, []⟩]))))
    (.seq (.kill [0, 1, 2, 7, 8, 10] 0) (.region [
     ⟨(some 104), (.mov (.t 10)), none⟩,
     ⟨(some 105), (.bin .add .num (.t 104) (.c (.c (.int .i64 1)))), none⟩,
     ⟨(some 10), (.mov (.t 105)), none⟩]))))))))))
  (.skip)))))))))))))))
  (.seq (.kill [0, 1, 2, 7, 8] 0) (.region [
   ⟨(some 15), (.mov (.t 8)), none⟩,
   ⟨(some 16), (.bin .add .num (.t 15) (.c (.c (.int .i64 1)))), none⟩,
   ⟨(some 8), (.mov (.t 16)), none⟩]))))))))))
 (.seq (.kill [] 0) (.seq (.region [
  ⟨(some 6), (.mov (.c (.c (.bool false)))), none⟩])
 (.ret)))))))⟩
/-- cmp.Less[int] -/
def n93 : NF := ⟨17, [4],
 .seq (.region [
  ⟨(some 4), (.mov (.c (.c (.bool false)))), none⟩])
 (.seq (.kill [0, 1] 0) (.seq (.region [
  ⟨(some 5), (.mov (.t 0)), none⟩,
  ⟨(some 6), (.call 47 [(.t 5)]), none⟩,
  ⟨(some 7), (.mov (.t 6)), none⟩,
  ⟨(some 8), (.mov (.t 1)), (some (7, true))⟩,
  ⟨(some 9), (.call 47 [(.t 8)]), (some (7, true))⟩,
  ⟨(some 10), (.un .not (.t 9)), (some (7, true))⟩,
  ⟨(some 11), (.pick (.t 7) (.t 10) (.c (.c (.bool false)))), none⟩,
  ⟨(some 12), (.mov (.t 11)), none⟩,
  ⟨(some 13), (.mov (.t 0)), (some (12, false))⟩,
  ⟨(some 14), (.mov (.t 1)), (some (12, false))⟩,
  ⟨(some 15), (.bin .lss .num (.t 13) (.t 14)), (some (12, false))⟩,
  ⟨(some 16), (.pick (.t 12) (.c (.c (.bool true))) (.t 15)), none⟩,
  ⟨(some 4), (.mov (.t 16)), none⟩])
 (.ret)))⟩
/-- slices.partitionEqualOrdered[int] -/
def n94 : NF := ⟨84, [8],
 .seq (.region [
  ⟨(some 8), (.mov (.c (.c (.int .i64 0)))), none⟩])
 (.seq (.kill [0, 1, 2, 3] 0) (.seq (.draw 0 [
  ⟨0, none, ⟨(some 11), (.mov (.t 0)), none⟩, []⟩,
  ⟨1, none, ⟨(some 12), (.mov (.t 1)), none⟩, []⟩,
  ⟨2, none, ⟨(some 13), (.mov (.t 0)), none⟩, []⟩,
  ⟨3, none, ⟨(some 14), (.mov (.t 3)), none⟩, []⟩,
  ⟨4, none, ⟨(some 15), (.mov (.t 0)), none⟩, []⟩,
  ⟨5, none, ⟨(some 16), (.mov (.t 3)), none⟩, []⟩,
  ⟨6, none, ⟨(some 17), (.iaddr 1 (.t 15) (.t 16)), none⟩, []⟩,
  ⟨7, none, ⟨(some 18), (.load none (.t 17)), none⟩, []⟩,
  ⟨8, none, ⟨(some 19), (.mov (.t 0)), none⟩, []⟩,
  ⟨9, none, ⟨(some 20), (.mov (.t 1)), none⟩, []⟩,
  ⟨10, none, ⟨(some 21), (.iaddr 1 (.t 19) (.t 20)), none⟩, []⟩,
  ⟨11, none, ⟨(some 22), (.load none (.t 21)), none⟩, []⟩,
  ⟨12, none, ⟨(some 23), (.iaddr 1 (.t 11) (.t 12)), none⟩, []⟩,
  ⟨13, none, ⟨none, (.store 1 (.t 23) (.t 18)), none⟩, []⟩,
  ⟨14, none, ⟨(some 24), (.iaddr 1 (.t 13) (.t 14)), none⟩, []⟩,
  ⟨15, none, ⟨none, (.store 1 (.t 24) (.t 22)), none⟩, []⟩])
 (.seq (.kill [0, 1, 2] 0) (.seq (.region [
  ⟨(some 25), (.mov (.t 1)), none⟩,
  ⟨(some 26), (.bin .add .num (.t 25) (.c (.c (.int .i64 1)))), none⟩,
  ⟨(some 27), (.mov (.t 2)), none⟩,
  ⟨(some 28), (.bin .sub .num (.t 27) (.c (.c (.int .i64 1)))), none⟩,
  ⟨(some 9), (.mov (.t 26)), none⟩,
  ⟨(some 10), (.mov (.t 28)), none⟩])
 (.seq (.kill [0, 1, 9, 10] 0) (.seq (.block 0 (.loop (.seq (.kill [0, 1, 9, 10] 0) (.block 1 (.seq (.block 2 (.loop (.seq (.kill [0, 1, 9, 10] 0) (.seq (.seq (.draw 0 [
    ⟨0, none, ⟨(some 29), (.mov (.t 9)), none⟩, []⟩,
    ⟨1, none, ⟨(some 30), (.mov (.t 10)), none⟩, []⟩,
    ⟨2, none, ⟨(some 31), (.bin .leq .num (.t 29) (.t 30)), none⟩, []⟩,
    ⟨3, none, ⟨(some 32), (.mov (.t 31)), none⟩, []⟩,
    ⟨4, none, ⟨(some 33), (.mov (.t 0)), (some (32, true))⟩, []⟩,
    ⟨5, none, ⟨(some 34), (.mov (.t 1)), (some (32, true))⟩, []⟩,
    ⟨6, none, ⟨(some 35), (.iaddr 1 (.t 33) (.t 34)), (some (32, true))⟩, []⟩,
    ⟨7, none, ⟨(some 36), (.load none (.t 35)), (some (32, true))⟩, []⟩,
    ⟨8, none, ⟨(some 37), (.mov (.t 0)), (some (32, true))⟩, []⟩,
    ⟨9, none, ⟨(some 38), (.mov (.t 9)), (some (32, true))⟩, []⟩,
    ⟨10, none, ⟨(some 39), (.iaddr 1 (.t 37) (.t 38)), (some (32, true))⟩, []⟩,
    ⟨11, none, ⟨(some 40), (.load none (.t 39)), (some (32, true))⟩, []⟩,
    ⟨12, none, ⟨(some 41), (.call 93 [(.t 36), (.t 40)]), (some (32, true))⟩, []⟩,
    ⟨13, none, ⟨(some 42), (.un .not (.t 41)), (some (32, true))⟩, []⟩,
    ⟨14, none, ⟨(some 43), (.pick (.t 32) (.t 42) (.c (.c (.bool false)))), none⟩, []⟩])
   (.seq (.kill [0, 1, 9, 10, 43] 0) (.cond (.t 43)
   (.skip)
   (.exit 2))))
   (.seq (.kill [0, 1, 9, 10] 0) (.block 3 (.region [
    ⟨(some 44), (.mov (.t 9)), none⟩,
    ⟨(some 45), (.bin .add .num (.t 44) (.c (.c (.int .i64 1)))), none⟩,
    ⟨(some 9), (.mov (.t 45)), none⟩])))))))
  (.seq (.kill [0, 1, 9, 10] 0) (.seq (.block 4 (.loop (.seq (.kill [0, 1, 9, 10] 0) (.seq (.seq (.draw 0 [
    ⟨0, none, ⟨(some 46), (.mov (.t 9)), none⟩, []⟩,
    ⟨1, none, ⟨(some 47), (.mov (.t 10)), none⟩, []⟩,
    ⟨2, none, ⟨(some 48), (.bin .leq .num (.t 46) (.t 47)), none⟩, []⟩,
    ⟨3, none, ⟨(some 49), (.mov (.t 48)), none⟩, []⟩,
    ⟨4, none, ⟨(some 50), (.mov (.t 0)), (some (49, true))⟩, []⟩,
    ⟨5, none, ⟨(some 51), (.mov (.t 1)), (some (49, true))⟩, []⟩,
    ⟨6, none, ⟨(some 52), (.iaddr 1 (.t 50) (.t 51)), (some (49, true))⟩, []⟩,
    ⟨7, none, ⟨(some 53), (.load none (.t 52)), (some (49, true))⟩, []⟩,
    ⟨8, none, ⟨(some 54), (.mov (.t 0)), (some (49, true))⟩, []⟩,
    ⟨9, none, ⟨(some 55), (.mov (.t 10)), (some (49, true))⟩, []⟩,
    ⟨10, none, ⟨(some 56), (.iaddr 1 (.t 54) (.t 55)), (some (49, true))⟩, []⟩,
    ⟨11, none, ⟨(some 57), (.load none (.t 56)), (some (49, true))⟩, []⟩,
    ⟨12, none, ⟨(some 58), (.call 93 [(.t 53), (.t 57)]), (some (49, true))⟩, []⟩,
    ⟨13, none, ⟨(some 59), (.pick (.t 49) (.t 58) (.c (.c (.bool false)))), none⟩, []⟩])
   (.seq (.kill [0, 1, 9, 10, 59] 0) (.cond (.t 59)
   (.skip)
   (.exit 4))))
   (.seq (.kill [0, 1, 9, 10] 0) (.block 5 (.region [
    ⟨(some 60), (.mov (.t 10)), none⟩,
    ⟨(some 61), (.bin .sub .num (.t 60) (.c (.c (.int .i64 1)))), none⟩,
    ⟨(some 10), (.mov (.t 61)), none⟩])))))))
  (.seq (.kill [0, 1, 9, 10] 0) (.seq (.seq (.region [
   ⟨(some 62), (.mov (.t 9)), none⟩,
   ⟨(some 63), (.mov (.t 10)), none⟩,
   ⟨(some 64), (.bin .gtr .num (.t 62) (.t 63)), none⟩])
  (.seq (.kill [0, 1, 9, 10, 64] 0) (.cond (.t 64)
  (.exit 0)
  (.skip))))
  (.seq (.kill [0, 1, 9, 10] 0) (.seq (.draw 0 [
   ⟨0, none, ⟨(some 65), (.mov (.t 0)), none⟩, []⟩,
   ⟨1, none, ⟨(some 66), (.mov (.t 9)), none⟩, []⟩,
   ⟨2, none, ⟨(some 67), (.mov (.t 0)), none⟩, []⟩,
   ⟨3, none, ⟨(some 68), (.mov (.t 10)), none⟩, []⟩,
   ⟨4, none, ⟨(some 69), (.mov (.t 0)), none⟩, []⟩,
   ⟨5, none, ⟨(some 70), (.mov (.t 10)), none⟩, []⟩,
   ⟨6, none, ⟨(some 71), (.iaddr 1 (.t 69) (.t 70)), none⟩, []⟩,
   ⟨7, none, ⟨(some 72), (.load none (.t 71)), none⟩, []⟩,
   ⟨8, none, ⟨(some 73), (.mov (.t 0)), none⟩, []⟩,
   ⟨9, none, ⟨(some 74), (.mov (.t 9)), none⟩, []⟩,
   ⟨10, none, ⟨(some 75), (.iaddr 1 (.t 73) (.t 74)), none⟩, []⟩,
   ⟨11, none, ⟨(some 76), (.load none (.t 75)), none⟩, []⟩,
   ⟨12, none, ⟨(some 77), (.iaddr 1 (.t 65) (.t 66)), none⟩, []⟩,
   ⟨13, none, ⟨none, (.store 1 (.t 77) (.t 72)), none⟩, []⟩,
   ⟨14, none, ⟨(some 78), (.iaddr 1 (.t 67) (.t 68)), none⟩, []⟩,
   ⟨15, none, ⟨none, (.store 1 (.t 78) (.t 76)), none⟩, []⟩])
  (.seq (.kill [0, 1, 9, 10] 0) (.seq (.region [
   ⟨(some 79), (.mov (.t 9)), none⟩,
   ⟨(some 80), (.bin .add .num (.t 79) (.c (.c (.int .i64 1)))), none⟩,
   ⟨(some 9), (.mov (.t 80)), none⟩])
  (.seq (.kill [0, 1, 9, 10] 0) (.region [
   ⟨(some 81), (.mov (.t 10)), none⟩,
   ⟨(some 82), (.bin .sub .num (.t 81) (.c (.c (.int .i64 1)))), none⟩,
   ⟨(some 10), (.mov (.t 82)), none⟩])))))))))))))))
 (.seq (.kill [9] 0) (.seq (.region [
  ⟨(some 83), (.mov (.t 9)), none⟩,
  ⟨(some 8), (.mov (.t 83)), none⟩])
 (.ret)))))))))⟩
/-- slices.partitionOrdered[int] -/
def n95 : NF := ⟨168, [8, 9],
 .seq (.region [
  ⟨(some 8), (.mov (.c (.c (.int .i64 0)))), none⟩,
  ⟨(some 9), (.mov (.c (.c (.bool false)))), none⟩])
 (.seq (.kill [0, 1, 2, 3] 0) (.seq (.draw 0 [
  ⟨0, none, ⟨(some 12), (.mov (.t 0)), none⟩, []⟩,
  ⟨1, none, ⟨(some 13), (.mov (.t 1)), none⟩, []⟩,
  ⟨2, none, ⟨(some 14), (.mov (.t 0)), none⟩, []⟩,
  ⟨3, none, ⟨(some 15), (.mov (.t 3)), none⟩, []⟩,
  ⟨4, none, ⟨(some 16), (.mov (.t 0)), none⟩, []⟩,
  ⟨5, none, ⟨(some 17), (.mov (.t 3)), none⟩, []⟩,
  ⟨6, none, ⟨(some 18), (.iaddr 1 (.t 16) (.t 17)), none⟩, []⟩,
  ⟨7, none, ⟨(some 19), (.load none (.t 18)), none⟩, []⟩,
  ⟨8, none, ⟨(some 20), (.mov (.t 0)), none⟩, []⟩,
  ⟨9, none, ⟨(some 21), (.mov (.t 1)), none⟩, []⟩,
  ⟨10, none, ⟨(some 22), (.iaddr 1 (.t 20) (.t 21)), none⟩, []⟩,
  ⟨11, none, ⟨(some 23), (.load none (.t 22)), none⟩, []⟩,
  ⟨12, none, ⟨(some 24), (.iaddr 1 (.t 12) (.t 13)), none⟩, []⟩,
  ⟨13, none, ⟨none, (.store 1 (.t 24) (.t 19)), none⟩, []⟩,
  ⟨14, none, ⟨(some 25), (.iaddr 1 (.t 14) (.t 15)), none⟩, []⟩,
  ⟨15, none, ⟨none, (.store 1 (.t 25) (.t 23)), none⟩, []⟩])
 (.seq (.kill [0, 1, 2] 0) (.seq (.region [
  ⟨(some 26), (.mov (.t 1)), none⟩,
  ⟨(some 27), (.bin .add .num (.t 26) (.c (.c (.int .i64 1)))), none⟩,
  ⟨(some 28), (.mov (.t 2)), none⟩,
  ⟨(some 29), (.bin .sub .num (.t 28) (.c (.c (.int .i64 1)))), none⟩,
  ⟨(some 10), (.mov (.t 27)), none⟩,
  ⟨(some 11), (.mov (.t 29)), none⟩])
 (.seq (.kill [0, 1, 10, 11] 0) (.seq (.block 0 (.loop (.seq (.kill [0, 1, 10, 11] 0) (.seq (.seq (.draw 0 [
   ⟨0, none, ⟨(some 30), (.mov (.t 10)), none⟩, []⟩,
   ⟨1, none, ⟨(some 31), (.mov (.t 11)), none⟩, []⟩,
   ⟨2, none, ⟨(some 32), (.bin .leq .num (.t 30) (.t 31)), none⟩, []⟩,
   ⟨3, none, ⟨(some 33), (.mov (.t 32)), none⟩, []⟩,
   ⟨4, none, ⟨(some 34), (.mov (.t 0)), (some (33, true))⟩, []⟩,
   ⟨5, none, ⟨(some 35), (.mov (.t 10)), (some (33, true))⟩, []⟩,
   ⟨6, none, ⟨(some 36), (.iaddr 1 (.t 34) (.t 35)), (some (33, true))⟩, []⟩,
   ⟨7, none, ⟨(some 37), (.load none (.t 36)), (some (33, true))⟩, []⟩,
   ⟨8, none, ⟨(some 38), (.mov (.t 0)), (some (33, true))⟩, []⟩,
   ⟨9, none, ⟨(some 39), (.mov (.t 1)), (some (33, true))⟩, []⟩,
   ⟨10, none, ⟨(some 40), (.iaddr 1 (.t 38) (.t 39)), (some (33, true))⟩, []⟩,
   ⟨11, none, ⟨(some 41), (.load none (.t 40)), (some (33, true))⟩, []⟩,
   ⟨12, none, ⟨(some 42), (.call 93 [(.t 37), (.t 41)]), (some (33, true))⟩, []⟩,
   ⟨13, none, ⟨(some 43), (.pick (.t 33) (.t 42) (.c (.c (.bool false)))), none⟩, []⟩])
  (.seq (.kill [0, 1, 10, 11, 43] 0) (.cond (.t 43)
  (.skip)
  (.exit 0))))
  (.seq (.kill [0, 1, 10, 11] 0) (.block 1 (.region [
   ⟨(some 44), (.mov (.t 10)), none⟩,
   ⟨(some 45), (.bin .add .num (.t 44) (.c (.c (.int .i64 1)))), none⟩,
   ⟨(some 10), (.mov (.t 45)), none⟩])))))))
 (.seq (.kill [0, 1, 10, 11] 0) (.seq (.block 2 (.loop (.seq (.kill [0, 1, 10, 11] 0) (.seq (.seq (.draw 0 [
   ⟨0, none, ⟨(some 46), (.mov (.t 10)), none⟩, []⟩,
   ⟨1, none, ⟨(some 47), (.mov (.t 11)), none⟩, []⟩,
   ⟨2, none, ⟨(some 48), (.bin .leq .num (.t 46) (.t 47)), none⟩, []⟩,
   ⟨3, none, ⟨(some 49), (.mov (.t 48)), none⟩, []⟩,
   ⟨4, none, ⟨(some 50), (.mov (.t 0)), (some (49, true))⟩, []⟩,
   ⟨5, none, ⟨(some 51), (.mov (.t 11)), (some (49, true))⟩, []⟩,
   ⟨6, none, ⟨(some 52), (.iaddr 1 (.t 50) (.t 51)), (some (49, true))⟩, []⟩,
   ⟨7, none, ⟨(some 53), (.load none (.t 52)), (some (49, true))⟩, []⟩,
   ⟨8, none, ⟨(some 54), (.mov (.t 0)), (some (49, true))⟩, []⟩,
   ⟨9, none, ⟨(some 55), (.mov (.t 1)), (some (49, true))⟩, []⟩,
   ⟨10, none, ⟨(some 56), (.iaddr 1 (.t 54) (.t 55)), (some (49, true))⟩, []⟩,
   ⟨11, none, ⟨(some 57), (.load none (.t 56)), (some (49, true))⟩, []⟩,
   ⟨12, none, ⟨(some 58), (.call 93 [(.t 53), (.t 57)]), (some (49, true))⟩, []⟩,
   ⟨13, none, ⟨(some 59), (.un .not (.t 58)), (some (49, true))⟩, []⟩,
   ⟨14, none, ⟨(some 60), (.pick (.t 49) (.t 59) (.c (.c (.bool false)))), none⟩, []⟩])
  (.seq (.kill [0, 1, 10, 11, 60] 0) (.cond (.t 60)
  (.skip)
  (.exit 2))))
  (.seq (.kill [0, 1, 10, 11] 0) (.block 3 (.region [
   ⟨(some 61), (.mov (.t 11)), none⟩,
   ⟨(some 62), (.bin .sub .num (.t 61) (.c (.c (.int .i64 1)))), none⟩,
   ⟨(some 11), (.mov (.t 62)), none⟩])))))))
 (.seq (.kill [0, 1, 10, 11] 0) (.seq (.seq (.region [
  ⟨(some 63), (.mov (.t 10)), none⟩,
  ⟨(some 64), (.mov (.t 11)), none⟩,
  ⟨(some 65), (.bin .gtr .num (.t 63) (.t 64)), none⟩])
 (.seq (.kill [0, 1, 10, 11, 65] 0) (.cond (.t 65)
 (.seq (.draw 0 [
   ⟨0, none, ⟨(some 66), (.mov (.t 0)), none⟩, []⟩,
   ⟨1, none, ⟨(some 67), (.mov (.t 11)), none⟩, []⟩,
   ⟨2, none, ⟨(some 68), (.mov (.t 0)), none⟩, []⟩,
   ⟨3, none, ⟨(some 69), (.mov (.t 1)), none⟩, []⟩,
   ⟨4, none, ⟨(some 70), (.mov (.t 0)), none⟩, []⟩,
   ⟨5, none, ⟨(some 71), (.mov (.t 1)), none⟩, []⟩,
   ⟨6, none, ⟨(some 72), (.iaddr 1 (.t 70) (.t 71)), none⟩, []⟩,
   ⟨7, none, ⟨(some 73), (.load none (.t 72)), none⟩, []⟩,
   ⟨8, none, ⟨(some 74), (.mov (.t 0)), none⟩, []⟩,
   ⟨9, none, ⟨(some 75), (.mov (.t 11)), none⟩, []⟩,
   ⟨10, none, ⟨(some 76), (.iaddr 1 (.t 74) (.t 75)), none⟩, []⟩,
   ⟨11, none, ⟨(some 77), (.load none (.t 76)), none⟩, []⟩,
   ⟨12, none, ⟨(some 78), (.iaddr 1 (.t 66) (.t 67)), none⟩, []⟩,
   ⟨13, none, ⟨none, (.store 1 (.t 78) (.t 73)), none⟩, []⟩,
   ⟨14, none, ⟨(some 79), (.iaddr 1 (.t 68) (.t 69)), none⟩, []⟩,
   ⟨15, none, ⟨none, (.store 1 (.t 79) (.t 77)), none⟩, []⟩])
  (.seq (.kill [11] 0) (.seq (.region [
   ⟨(some 80), (.mov (.t 11)), none⟩,
   ⟨(some 8), (.mov (.t 80)), none⟩,
   ⟨(some 9), (.mov (.c (.c (.bool true)))), none⟩])
  (.ret))))
 (.skip))))
 (.seq (.kill [0, 1, 10, 11] 0) (.seq (.draw 0 [
  ⟨0, none, ⟨(some 81), (.mov (.t 0)), none⟩, []⟩,
  ⟨1, none, ⟨(some 82), (.mov (.t 10)), none⟩, []⟩,
  ⟨2, none, ⟨(some 83), (.mov (.t 0)), none⟩, []⟩,
  ⟨3, none, ⟨(some 84), (.mov (.t 11)), none⟩, []⟩,
  ⟨4, none, ⟨(some 85), (.mov (.t 0)), none⟩, []⟩,
  ⟨5, none, ⟨(some 86), (.mov (.t 11)), none⟩, []⟩,
  ⟨6, none, ⟨(some 87), (.iaddr 1 (.t 85) (.t 86)), none⟩, []⟩,
  ⟨7, none, ⟨(some 88), (.load none (.t 87)), none⟩, []⟩,
  ⟨8, none, ⟨(some 89), (.mov (.t 0)), none⟩, []⟩,
  ⟨9, none, ⟨(some 90), (.mov (.t 10)), none⟩, []⟩,
  ⟨10, none, ⟨(some 91), (.iaddr 1 (.t 89) (.t 90)), none⟩, []⟩,
  ⟨11, none, ⟨(some 92), (.load none (.t 91)), none⟩, []⟩,
  ⟨12, none, ⟨(some 93), (.iaddr 1 (.t 81) (.t 82)), none⟩, []⟩,
  ⟨13, none, ⟨none, (.store 1 (.t 93) (.t 88)), none⟩, []⟩,
  ⟨14, none, ⟨(some 94), (.iaddr 1 (.t 83) (.t 84)), none⟩, []⟩,
  ⟨15, none, ⟨none, (.store 1 (.t 94) (.t 92)), none⟩, []⟩])
 (.seq (.kill [0, 1, 10, 11] 0) (.seq (.region [
  ⟨(some 95), (.mov (.t 10)), none⟩,
  ⟨(some 96), (.bin .add .num (.t 95) (.c (.c (.int .i64 1)))), none⟩,
  ⟨(some 10), (.mov (.t 96)), none⟩])
 (.seq (.kill [0, 1, 10, 11] 0) (.seq (.region [
  ⟨(some 97), (.mov (.t 11)), none⟩,
  ⟨(some 98), (.bin .sub .num (.t 97) (.c (.c (.int .i64 1)))), none⟩,
  ⟨(some 11), (.mov (.t 98)), none⟩])
 (.seq (.kill [0, 1, 10, 11] 0) (.seq (.block 4 (.loop (.seq (.kill [0, 1, 10, 11] 0) (.block 5 (.seq (.block 6 (.loop (.seq (.kill [0, 1, 10, 11] 0) (.seq (.seq (.draw 0 [
    ⟨0, none, ⟨(some 99), (.mov (.t 10)), none⟩, []⟩,
    ⟨1, none, ⟨(some 100), (.mov (.t 11)), none⟩, []⟩,
    ⟨2, none, ⟨(some 101), (.bin .leq .num (.t 99) (.t 100)), none⟩, []⟩,
    ⟨3, none, ⟨(some 102), (.mov (.t 101)), none⟩, []⟩,
    ⟨4, none, ⟨(some 103), (.mov (.t 0)), (some (102, true))⟩, []⟩,
    ⟨5, none, ⟨(some 104), (.mov (.t 10)), (some (102, true))⟩, []⟩,
    ⟨6, none, ⟨(some 105), (.iaddr 1 (.t 103) (.t 104)), (some (102, true))⟩, []⟩,
    ⟨7, none, ⟨(some 106), (.load none (.t 105)), (some (102, true))⟩, []⟩,
    ⟨8, none, ⟨(some 107), (.mov (.t 0)), (some (102, true))⟩, []⟩,
    ⟨9, none, ⟨(some 108), (.mov (.t 1)), (some (102, true))⟩, []⟩,
    ⟨10, none, ⟨(some 109), (.iaddr 1 (.t 107) (.t 108)), (some (102, true))⟩, []⟩,
    ⟨11, none, ⟨(some 110), (.load none (.t 109)), (some (102, true))⟩, []⟩,
    ⟨12, none, ⟨(some 111), (.call 93 [(.t 106), (.t 110)]), (some (102, true))⟩, []⟩,
    ⟨13, none, ⟨(some 112), (.pick (.t 102) (.t 111) (.c (.c (.bool false)))), none⟩, []⟩])
   (.seq (.kill [0, 1, 10, 11, 112] 0) (.cond (.t 112)
   (.skip)
   (.exit 6))))
   (.seq (.kill [0, 1, 10, 11] 0) (.block 7 (.region [
    ⟨(some 113), (.mov (.t 10)), none⟩,
    ⟨(some 114), (.bin .add .num (.t 113) (.c (.c (.int .i64 1)))), none⟩,
    ⟨(some 10), (.mov (.t 114)), none⟩])))))))
  (.seq (.kill [0, 1, 10, 11] 0) (.seq (.block 8 (.loop (.seq (.kill [0, 1, 10, 11] 0) (.seq (.seq (.draw 0 [
    ⟨0, none, ⟨(some 115), (.mov (.t 10)), none⟩, []⟩,
    ⟨1, none, ⟨(some 116), (.mov (.t 11)), none⟩, []⟩,
    ⟨2, none, ⟨(some 117), (.bin .leq .num (.t 115) (.t 116)), none⟩, []⟩,
    ⟨3, none, ⟨(some 118), (.mov (.t 117)), none⟩, []⟩,
    ⟨4, none, ⟨(some 119), (.mov (.t 0)), (some (118, true))⟩, []⟩,
    ⟨5, none, ⟨(some 120), (.mov (.t 11)), (some (118, true))⟩, []⟩,
    ⟨6, none, ⟨(some 121), (.iaddr 1 (.t 119) (.t 120)), (some (118, true))⟩, []⟩,
    ⟨7, none, ⟨(some 122), (.load none (.t 121)), (some (118, true))⟩, []⟩,
    ⟨8, none, ⟨(some 123), (.mov (.t 0)), (some (118, true))⟩, []⟩,
    ⟨9, none, ⟨(some 124), (.mov (.t 1)), (some (118, true))⟩, []⟩,
    ⟨10, none, ⟨(some 125), (.iaddr 1 (.t 123) (.t 124)), (some (118, true))⟩, []⟩,
    ⟨11, none, ⟨(some 126), (.load none (.t 125)), (some (118, true))⟩, []⟩,
    ⟨12, none, ⟨(some 127), (.call 93 [(.t 122), (.t 126)]), (some (118, true))⟩, []⟩,
    ⟨13, none, ⟨(some 128), (.un .not (.t 127)), (some (118, true))⟩, []⟩,
    ⟨14, none, ⟨(some 129), (.pick (.t 118) (.t 128) (.c (.c (.bool false)))), none⟩, []⟩])
   (.seq (.kill [0, 1, 10, 11, 129] 0) (.cond (.t 129)
   (.skip)
   (.exit 8))))
   (.seq (.kill [0, 1, 10, 11] 0) (.block 9 (.region [
    ⟨(some 130), (.mov (.t 11)), none⟩,
    ⟨(some 131), (.bin .sub .num (.t 130) (.c (.c (.int .i64 1)))), none⟩,
    ⟨(some 11), (.mov (.t 131)), none⟩])))))))
  (.seq (.kill [0, 1, 10, 11] 0) (.seq (.seq (.region [
   ⟨(some 132), (.mov (.t 10)), none⟩,
   ⟨(some 133), (.mov (.t 11)), none⟩,
   ⟨(some 134), (.bin .gtr .num (.t 132) (.t 133)), none⟩])
  (.seq (.kill [0, 1, 10, 11, 134] 0) (.cond (.t 134)
  (.exit 4)
  (.skip))))
  (.seq (.kill [0, 1, 10, 11] 0) (.seq (.draw 0 [
   ⟨0, none, ⟨(some 135), (.mov (.t 0)), none⟩, []⟩,
   ⟨1, none, ⟨(some 136), (.mov (.t 10)), none⟩, []⟩,
   ⟨2, none, ⟨(some 137), (.mov (.t 0)), none⟩, []⟩,
   ⟨3, none, ⟨(some 138), (.mov (.t 11)), none⟩, []⟩,
   ⟨4, none, ⟨(some 139), (.mov (.t 0)), none⟩, []⟩,
   ⟨5, none, ⟨(some 140), (.mov (.t 11)), none⟩, []⟩,
   ⟨6, none, ⟨(some 141), (.iaddr 1 (.t 139) (.t 140)), none⟩, []⟩,
   ⟨7, none, ⟨(some 142), (.load none (.t 141)), none⟩, []⟩,
   ⟨8, none, ⟨(some 143), (.mov (.t 0)), none⟩, []⟩,
   ⟨9, none, ⟨(some 144), (.mov (.t 10)), none⟩, []⟩,
   ⟨10, none, ⟨(some 145), (.iaddr 1 (.t 143) (.t 144)), none⟩, []⟩,
   ⟨11, none, ⟨(some 146), (.load none (.t 145)), none⟩, []⟩,
   ⟨12, none, ⟨(some 147), (.iaddr 1 (.t 135) (.t 136)), none⟩, []⟩,
   ⟨13, none, ⟨none, (.store 1 (.t 147) (.t 142)), none⟩, []⟩,
   ⟨14, none, ⟨(some 148), (.iaddr 1 (.t 137) (.t 138)), none⟩, []⟩,
   ⟨15, none, ⟨none, (.store 1 (.t 148) (.t 146)), none⟩, []⟩])
  (.seq (.kill [0, 1, 10, 11] 0) (.seq (.region [
   ⟨(some 149), (.mov (.t 10)), none⟩,
   ⟨(some 150), (.bin .add .num (.t 149) (.c (.c (.int .i64 1)))), none⟩,
   ⟨(some 10), (.mov (.t 150)), none⟩])
  (.seq (.kill [0, 1, 10, 11] 0) (.region [
   ⟨(some 151), (.mov (.t 11)), none⟩,
   ⟨(some 152), (.bin .sub .num (.t 151) (.c (.c (.int .i64 1)))), none⟩,
   ⟨(some 11), (.mov (.t 152)), none⟩])))))))))))))))
 (.seq (.kill [0, 1, 11] 0) (.seq (.draw 0 [
  ⟨0, none, ⟨(some 153), (.mov (.t 0)), none⟩, []⟩,
  ⟨1, none, ⟨(some 154), (.mov (.t 11)), none⟩, []⟩,
  ⟨2, none, ⟨(some 155), (.mov (.t 0)), none⟩, []⟩,
  ⟨3, none, ⟨(some 156), (.mov (.t 1)), none⟩, []⟩,
  ⟨4, none, ⟨(some 157), (.mov (.t 0)), none⟩, []⟩,
  ⟨5, none, ⟨(some 158), (.mov (.t 1)), none⟩, []⟩,
  ⟨6, none, ⟨(some 159), (.iaddr 1 (.t 157) (.t 158)), none⟩, []⟩,
  ⟨7, none, ⟨(some 160), (.load none (.t 159)), none⟩, []⟩,
  ⟨8, none, ⟨(some 161), (.mov (.t 0)), none⟩, []⟩,
  ⟨9, none, ⟨(some 162), (.mov (.t 11)), none⟩, []⟩,
  ⟨10, none, ⟨(some 163), (.iaddr 1 (.t 161) (.t 162)), none⟩, []⟩,
  ⟨11, none, ⟨(some 164), (.load none (.t 163)), none⟩, []⟩,
  ⟨12, none, ⟨(some 165), (.iaddr 1 (.t 153) (.t 154)), none⟩, []⟩,
  ⟨13, none, ⟨none, (.store 1 (.t 165) (.t 160)), none⟩, []⟩,
  ⟨14, none, ⟨(some 166), (.iaddr 1 (.t 155) (.t 156)), none⟩, []⟩,
  ⟨15, none, ⟨none, (.store 1 (.t 166) (.t 164)), none⟩, []⟩])
 (.seq (.kill [11] 0) (.seq (.region [
  ⟨(some 167), (.mov (.t 11)), none⟩,
  ⟨(some 8), (.mov (.t 167)), none⟩,
  ⟨(some 9), (.mov (.c (.c (.bool false)))), none⟩])
 (.ret)))))))))))))))))))))))⟩
/-- math/bits.Len32 -/
def n96 : NF := ⟨19, [2],
 .seq (.region [
  ⟨(some 2), (.mov (.c (.c (.int .i64 0)))), none⟩])
 (.seq (.kill [0, 2] 0) (.seq (.seq (.region [
  ⟨(some 3), (.mov (.t 0)), none⟩,
  ⟨(some 4), (.bin .geq .num (.t 3) (.c (.c (.int .u32 65536)))), none⟩])
 (.seq (.kill [0, 2, 4] 0) (.cond (.t 4)
 (.seq (.region [
   ⟨(some 5), (.mov (.t 0)), none⟩,
   ⟨(some 6), (.bin .shr .num (.t 5) (.c (.c (.int .u64 16)))), none⟩,
   ⟨(some 0), (.mov (.t 6)), none⟩])
  (.seq (.kill [0] 0) (.region [
   ⟨(some 2), (.mov (.c (.c (.int .i64 16)))), none⟩])))
 (.skip))))
 (.seq (.kill [0, 2] 0) (.seq (.seq (.region [
  ⟨(some 7), (.mov (.t 0)), none⟩,
  ⟨(some 8), (.bin .geq .num (.t 7) (.c (.c (.int .u32 256)))), none⟩])
 (.seq (.kill [0, 2, 8] 0) (.cond (.t 8)
 (.seq (.region [
   ⟨(some 9), (.mov (.t 0)), none⟩,
   ⟨(some 10), (.bin .shr .num (.t 9) (.c (.c (.int .u64 8)))), none⟩,
   ⟨(some 0), (.mov (.t 10)), none⟩])
  (.seq (.kill [0, 2] 0) (.region [
   ⟨(some 11), (.mov (.t 2)), none⟩,
   ⟨(some 12), (.bin .add .num (.t 11) (.c (.c (.int .i64 8)))), none⟩,
   ⟨(some 2), (.mov (.t 12)), none⟩])))
 (.skip))))
 (.seq (.kill [0, 2] 0) (.seq (.region [
  ⟨(some 13), (.mov (.t 2)), none⟩,
  ⟨(some 14), (.mov (.t 0)), none⟩,
  ⟨(some 15), (.conv (.toInt .u8) (.t 14)), none⟩,
  ⟨(some 16), (.indexS (.c (.c (.str (bs [0, 1, 2, 2, 3, 3, 3, 3, 4, 4, 4, 4, 4, 4, 4, 4, 5, 5, 5, 5, 5, 5, 5, 5, 5, 5, 5, 5, 5, 5, 5, 5, 6, 6, 6, 6, 6, 6, 6, 6, 6, 6, 6, 6, 6, 6, 6, 6, 6, 6, 6, 6, 6, 6, 6, 6, 6, 6, 6, 6, 6, 6, 6, 6, 7, 7, 7, 7, 7, 7, 7, 7, 7, 7, 7, 7, 7, 7, 7, 7, 7, 7, 7, 7, 7, 7, 7, 7, 7, 7, 7, 7, 7, 7, 7, 7, 7, 7, 7, 7, 7, 7, 7, 7, 7, 7, 7, 7, 7, 7, 7, 7, 7, 7, 7, 7, 7, 7, 7, 7, 7, 7, 7, 7, 7, 7, 7, 7, 8, 8, 8, 8, 8, 8, 8, 8, 8, 8, 8, 8, 8, 8, 8, 8, 8, 8, 8, 8, 8, 8, 8, 8, 8, 8, 8, 8, 8, 8, 8, 8, 8, 8, 8, 8, 8, 8, 8, 8, 8, 8, 8, 8, 8, 8, 8, 8, 8, 8, 8, 8, 8, 8, 8, 8, 8, 8, 8, 8, 8, 8, 8, 8, 8, 8, 8, 8, 8, 8, 8, 8, 8, 8, 8, 8, 8, 8, 8, 8, 8, 8, 8, 8, 8, 8, 8, 8, 8, 8, 8, 8, 8, 8, 8, 8, 8, 8, 8, 8, 8, 8, 8, 8, 8, 8, 8, 8, 8, 8, 8, 8, 8, 8, 8, 8, 8, 8, 8, 8, 8, 8, 8, 8, 8, 8, 8, 8])))) (.t 15)), none⟩,
  ⟨(some 17), (.conv (.toInt .i64) (.t 16)), none⟩,
  ⟨(some 18), (.bin .add .num (.t 13) (.t 17)), none⟩,
  ⟨(some 2), (.mov (.t 18)), none⟩])
 (.ret)))))))⟩
/-- math/bits.Len64 -/
def n97 : NF := ⟨25, [2],
 .seq (.region [
  ⟨(some 2), (.mov (.c (.c (.int .i64 0)))), none⟩])
 (.seq (.kill [0, 2] 0) (.seq (.seq (.region [
  ⟨(some 3), (.mov (.t 0)), none⟩,
  ⟨(some 4), (.bin .geq .num (.t 3) (.c (.c (.int .u64 4294967296)))), none⟩])
 (.seq (.kill [0, 2, 4] 0) (.cond (.t 4)
 (.seq (.region [
   ⟨(some 5), (.mov (.t 0)), none⟩,
   ⟨(some 6), (.bin .shr .num (.t 5) (.c (.c (.int .u64 32)))), none⟩,
   ⟨(some 0), (.mov (.t 6)), none⟩])
  (.seq (.kill [0] 0) (.region [
   ⟨(some 2), (.mov (.c (.c (.int .i64 32)))), none⟩])))
 (.skip))))
 (.seq (.kill [0, 2] 0) (.seq (.seq (.region [
  ⟨(some 7), (.mov (.t 0)), none⟩,
  ⟨(some 8), (.bin .geq .num (.t 7) (.c (.c (.int .u64 65536)))), none⟩])
 (.seq (.kill [0, 2, 8] 0) (.cond (.t 8)
 (.seq (.region [
   ⟨(some 9), (.mov (.t 0)), none⟩,
   ⟨(some 10), (.bin .shr .num (.t 9) (.c (.c (.int .u64 16)))), none⟩,
   ⟨(some 0), (.mov (.t 10)), none⟩])
  (.seq (.kill [0, 2] 0) (.region [
   ⟨(some 11), (.mov (.t 2)), none⟩,
   ⟨(some 12), (.bin .add .num (.t 11) (.c (.c (.int .i64 16)))), none⟩,
   ⟨(some 2), (.mov (.t 12)), none⟩])))
 (.skip))))
 (.seq (.kill [0, 2] 0) (.seq (.seq (.region [
  ⟨(some 13), (.mov (.t 0)), none⟩,
  ⟨(some 14), (.bin .geq .num (.t 13) (.c (.c (.int .u64 256)))), none⟩])
 (.seq (.kill [0, 2, 14] 0) (.cond (.t 14)
 (.seq (.region [
   ⟨(some 15), (.mov (.t 0)), none⟩,
   ⟨(some 16), (.bin .shr .num (.t 15) (.c (.c (.int .u64 8)))), none⟩,
   ⟨(some 0), (.mov (.t 16)), none⟩])
  (.seq (.kill [0, 2] 0) (.region [
   ⟨(some 17), (.mov (.t 2)), none⟩,
   ⟨(some 18), (.bin .add .num (.t 17) (.c (.c (.int .i64 8)))), none⟩,
   ⟨(some 2), (.mov (.t 18)), none⟩])))
 (.skip))))
 (.seq (.kill [0, 2] 0) (.seq (.region [
  ⟨(some 19), (.mov (.t 2)), none⟩,
  ⟨(some 20), (.mov (.t 0)), none⟩,
  ⟨(some 21), (.conv (.toInt .u8) (.t 20)), none⟩,
  ⟨(some 22), (.indexS (.c (.c (.str (bs [0, 1, 2, 2, 3, 3, 3, 3, 4, 4, 4, 4, 4, 4, 4, 4, 5, 5, 5, 5, 5, 5, 5, 5, 5, 5, 5, 5, 5, 5, 5, 5, 6, 6, 6, 6, 6, 6, 6, 6, 6, 6, 6, 6, 6, 6, 6, 6, 6, 6, 6, 6, 6, 6, 6, 6, 6, 6, 6, 6, 6, 6, 6, 6, 7, 7, 7, 7, 7, 7, 7, 7, 7, 7, 7, 7, 7, 7, 7, 7, 7, 7, 7, 7, 7, 7, 7, 7, 7, 7, 7, 7, 7, 7, 7, 7, 7, 7, 7, 7, 7, 7, 7, 7, 7, 7, 7, 7, 7, 7, 7, 7, 7, 7, 7, 7, 7, 7, 7, 7, 7, 7, 7, 7, 7, 7, 7, 7, 8, 8, 8, 8, 8, 8, 8, 8, 8, 8, 8, 8, 8, 8, 8, 8, 8, 8, 8, 8, 8, 8, 8, 8, 8, 8, 8, 8, 8, 8, 8, 8, 8, 8, 8, 8, 8, 8, 8, 8, 8, 8, 8, 8, 8, 8, 8, 8, 8, 8, 8, 8, 8, 8, 8, 8, 8, 8, 8, 8, 8, 8, 8, 8, 8, 8, 8, 8, 8, 8, 8, 8, 8, 8, 8, 8, 8, 8, 8, 8, 8, 8, 8, 8, 8, 8, 8, 8, 8, 8, 8, 8, 8, 8, 8, 8, 8, 8, 8, 8, 8, 8, 8, 8, 8, 8, 8, 8, 8, 8, 8, 8, 8, 8, 8, 8, 8, 8, 8, 8, 8, 8, 8, 8, 8, 8, 8, 8])))) (.t 21)), none⟩,
  ⟨(some 23), (.conv (.toInt .i64) (.t 22)), none⟩,
  ⟨(some 24), (.bin .add .num (.t 19) (.t 23)), none⟩,
  ⟨(some 2), (.mov (.t 24)), none⟩])
 (.ret)))))))))⟩
/-- slices.stableCmpFunc[int] -/
def n208 : NF := ⟨63, [],
 .seq (.region [
  ⟨(some 6), (.mov (.c (.c (.int .i64 20)))), none⟩])
 (.seq (.kill [0, 1, 2, 6] 0) (.seq (.region [
  ⟨(some 10), (.mov (.t 6)), none⟩,
  ⟨(some 7), (.mov (.c (.c (.int .i64 0)))), none⟩,
  ⟨(some 8), (.mov (.t 10)), none⟩])
 (.seq (.kill [0, 1, 2, 6, 7, 8] 0) (.seq (.block 0 (.loop (.seq (.kill [0, 1, 2, 6, 7, 8] 0) (.seq (.seq (.region [
   ⟨(some 11), (.mov (.t 8)), none⟩,
   ⟨(some 12), (.mov (.t 1)), none⟩,
   ⟨(some 13), (.bin .leq .num (.t 11) (.t 12)), none⟩])
  (.seq (.kill [0, 1, 2, 6, 7, 8, 13] 0) (.cond (.t 13)
  (.skip)
  (.exit 0))))
  (.seq (.kill [0, 1, 2, 6, 7, 8] 0) (.block 1 (.seq (.region [
   ⟨(some 14), (.mov (.t 0)), none⟩,
   ⟨(some 15), (.mov (.t 7)), none⟩,
   ⟨(some 16), (.mov (.t 8)), none⟩,
   ⟨(some 17), (.mov (.t 2)), none⟩,
   ⟨(some 18), (.call 209 [(.t 14), (.t 15), (.t 16), (.t 17)]), none⟩])
  (.seq (.kill [0, 1, 2, 6, 8] 0) (.seq (.region [
   ⟨(some 19), (.mov (.t 8)), none⟩,
   ⟨(some 7), (.mov (.t 19)), none⟩])
  (.seq (.kill [0, 1, 2, 6, 7, 8] 0) (.region [
   ⟨(some 20), (.mov (.t 8)), none⟩,
   ⟨(some 21), (.mov (.t 6)), none⟩,
   ⟨(some 22), (.bin .add .num (.t 20) (.t 21)), none⟩,
   ⟨(some 8), (.mov (.t 22)), none⟩])))))))))))
 (.seq (.kill [0, 1, 2, 6, 7] 0) (.seq (.region [
  ⟨(some 23), (.mov (.t 0)), none⟩,
  ⟨(some 24), (.mov (.t 7)), none⟩,
  ⟨(some 25), (.mov (.t 1)), none⟩,
  ⟨(some 26), (.mov (.t 2)), none⟩,
  ⟨(some 27), (.call 209 [(.t 23), (.t 24), (.t 25), (.t 26)]), none⟩])
 (.seq (.kill [0, 1, 2, 6] 0) (.block 2 (.loop (.seq (.kill [0, 1, 2, 6] 0) (.seq (.seq (.region [
   ⟨(some 28), (.mov (.t 6)), none⟩,
   ⟨(some 29), (.mov (.t 1)), none⟩,
   ⟨(some 30), (.bin .lss .num (.t 28) (.t 29)), none⟩])
  (.seq (.kill [0, 1, 2, 6, 30] 0) (.cond (.t 30)
  (.skip)
  (.exit 2))))
  (.seq (.kill [0, 1, 2, 6] 0) (.block 3 (.seq (.region [
   ⟨(some 31), (.mov (.t 6)), none⟩,
   ⟨(some 32), (.bin .mul .num (.c (.c (.int .i64 2))) (.t 31)), none⟩,
   ⟨(some 7), (.mov (.c (.c (.int .i64 0)))), none⟩,
   ⟨(some 8), (.mov (.t 32)), none⟩])
  (.seq (.kill [0, 1, 2, 6, 7, 8] 0) (.seq (.block 4 (.loop (.seq (.kill [0, 1, 2, 6, 7, 8] 0) (.seq (.seq (.region [
    ⟨(some 33), (.mov (.t 8)), none⟩,
    ⟨(some 34), (.mov (.t 1)), none⟩,
    ⟨(some 35), (.bin .leq .num (.t 33) (.t 34)), none⟩])
   (.seq (.kill [0, 1, 2, 6, 7, 8, 35] 0) (.cond (.t 35)
   (.skip)
   (.exit 4))))
   (.seq (.kill [0, 1, 2, 6, 7, 8] 0) (.block 5 (.seq (.region [
    ⟨(some 36), (.mov (.t 0)), none⟩,
    ⟨(some 37), (.mov (.t 7)), none⟩,
    ⟨(some 38), (.mov (.t 7)), none⟩,
    ⟨(some 39), (.mov (.t 6)), none⟩,
    ⟨(some 40), (.bin .add .num (.t 38) (.t 39)), none⟩,
    ⟨(some 41), (.mov (.t 8)), none⟩,
    ⟨(some 42), (.mov (.t 2)), none⟩,
    ⟨(some 43), (.call 210 [(.t 36), (.t 37), (.t 40), (.t 41), (.t 42)]), none⟩])
   (.seq (.kill [0, 1, 2, 6, 8] 0) (.seq (.region [
    ⟨(some 44), (.mov (.t 8)), none⟩,
    ⟨(some 7), (.mov (.t 44)), none⟩])
   (.seq (.kill [0, 1, 2, 6, 7, 8] 0) (.region [
    ⟨(some 45), (.mov (.t 8)), none⟩,
    ⟨(some 46), (.mov (.t 6)), none⟩,
    ⟨(some 47), (.bin .mul .num (.c (.c (.int .i64 2))) (.t 46)), none⟩,
    ⟨(some 48), (.bin .add .num (.t 45) (.t 47)), none⟩,
    ⟨(some 8), (.mov (.t 48)), none⟩])))))))))))
  (.seq (.kill [0, 1, 2, 6, 7] 0) (.seq (.seq (.region [
   ⟨(some 49), (.mov (.t 7)), none⟩,
   ⟨(some 50), (.mov (.t 6)), none⟩,
   ⟨(some 51), (.bin .add .num (.t 49) (.t 50)), none⟩,
   ⟨(some 9), (.mov (.t 51)), none⟩])
  (.seq (.kill [0, 1, 2, 6, 7, 9] 0) (.seq (.region [
   ⟨(some 52), (.mov (.t 9)), none⟩,
   ⟨(some 53), (.mov (.t 1)), none⟩,
   ⟨(some 54), (.bin .lss .num (.t 52) (.t 53)), none⟩])
  (.seq (.kill [0, 1, 2, 6, 7, 9, 54] 0) (.cond (.t 54)
  (.region [
    ⟨(some 55), (.mov (.t 0)), none⟩,
    ⟨(some 56), (.mov (.t 7)), none⟩,
    ⟨(some 57), (.mov (.t 9)), none⟩,
    ⟨(some 58), (.mov (.t 1)), none⟩,
    ⟨(some 59), (.mov (.t 2)), none⟩,
    ⟨(some 60), (.call 210 [(.t 55), (.t 56), (.t 57), (.t 58), (.t 59)]), none⟩])
  (.skip))))))
  (.seq (.kill [0, 1, 2, 6] 0) (.region [
   ⟨(some 61), (.mov (.t 6)), none⟩,
   ⟨(some 62), (.bin .mul .num (.t 61) (.c (.c (.int .i64 2)))), none⟩,
   ⟨(some 6), (.mov (.t 62)), none⟩]))))))))))))))))))))⟩
/-- cmp.isNaN[int] -/
def n47 : NF := ⟨6, [2],
 .seq (.region [
  ⟨(some 2), (.mov (.c (.c (.bool false)))), none⟩])
 (.seq (.kill [0] 0) (.seq (.region [
  ⟨(some 3), (.mov (.t 0)), none⟩,
  ⟨(some 4), (.mov (.t 0)), none⟩,
  ⟨(some 5), (.bin .neq .num (.t 3) (.t 4)), none⟩,
  ⟨(some 2), (.mov (.t 5)), none⟩])
 (.ret)))⟩
/-- slices.siftDownOrdered[int] -/
def n107 : NF := ⟨76, [],
 .seq (.region [
  ⟨(some 10), (.mov (.t 1)), none⟩,
  ⟨(some 8), (.mov (.t 10)), none⟩])
 (.seq (.kill [0, 2, 3, 8] 0) (.block 0 (.loop (.seq (.kill [0, 2, 3, 8] 0) (.block 1 (.seq (.region [
   ⟨(some 11), (.mov (.t 8)), none⟩,
   ⟨(some 12), (.bin .mul .num (.c (.c (.int .i64 2))) (.t 11)), none⟩,
   ⟨(some 13), (.bin .add .num (.t 12) (.c (.c (.int .i64 1)))), none⟩,
   ⟨(some 9), (.mov (.t 13)), none⟩])
  (.seq (.kill [0, 2, 3, 8, 9] 0) (.seq (.seq (.region [
   ⟨(some 14), (.mov (.t 9)), none⟩,
   ⟨(some 15), (.mov (.t 2)), none⟩,
   ⟨(some 16), (.bin .geq .num (.t 14) (.t 15)), none⟩])
  (.seq (.kill [0, 2, 3, 8, 9, 16] 0) (.cond (.t 16)
  (.exit 0)
  (.skip))))
  (.seq (.kill [0, 2, 3, 8, 9] 0) (.seq (.seq (.draw 0 [
   ⟨0, none, ⟨(some 17), (.mov (.t 9)), none⟩, []⟩,
   ⟨1, none, ⟨(some 18), (.bin .add .num (.t 17) (.c (.c (.int .i64 1)))), none⟩, []⟩,
   ⟨2, none, ⟨(some 19), (.mov (.t 2)), none⟩, []⟩,
   ⟨3, none, ⟨(some 20), (.bin .lss .num (.t 18) (.t 19)), none⟩, []⟩,
   ⟨4, none, ⟨(some 21), (.mov (.t 20)), none⟩, []⟩,
   ⟨5, none, ⟨(some 22), (.mov (.t 0)), (some (21, true))⟩, []⟩,
   ⟨6, none, ⟨(some 23), (.mov (.t 3)), (some (21, true))⟩, []⟩,
   ⟨7, none, ⟨(some 24), (.mov (.t 9)), (some (21, true))⟩, []⟩,
   ⟨8, none, ⟨(some 25), (.bin .add .num (.t 23) (.t 24)), (some (21, true))⟩, []⟩,
   ⟨9, none, ⟨(some 26), (.iaddr 1 (.t 22) (.t 25)), (some (21, true))⟩, []⟩,
   ⟨10, none, ⟨(some 27), (.load none (.t 26)), (some (21, true))⟩, []⟩,
   ⟨11, none, ⟨(some 28), (.mov (.t 0)), (some (21, true))⟩, []⟩,
   ⟨12, none, ⟨(some 29), (.mov (.t 3)), (some (21, true))⟩, []⟩,
   ⟨13, none, ⟨(some 30), (.mov (.t 9)), (some (21, true))⟩, []⟩,
   ⟨14, none, ⟨(some 31), (.bin .add .num (.t 29) (.t 30)), (some (21, true))⟩, []⟩,
   ⟨15, none, ⟨(some 32), (.bin .add .num (.t 31) (.c (.c (.int .i64 1)))), (some (21, true))⟩, []⟩,
   ⟨16, none, ⟨(some 33), (.iaddr 1 (.t 28) (.t 32)), (some (21, true))⟩, []⟩,
   ⟨17, none, ⟨(some 34), (.load none (.t 33)), (some (21, true))⟩, []⟩,
   ⟨18, none, ⟨(some 35), (.call 93 [(.t 27), (.t 34)]), (some (21, true))⟩, []⟩,
   ⟨19, none, ⟨(some 36), (.pick (.t 21) (.t 35) (.c (.c (.bool false)))), none⟩, []⟩])
  (.seq (.kill [0, 2, 3, 8, 9, 36] 0) (.cond (.t 36)
  (.region [
    ⟨(some 37), (.mov (.t 9)), none⟩,
    ⟨(some 38), (.bin .add .num (.t 37) (.c (.c (.int .i64 1)))), none⟩,
    ⟨(some 9), (.mov (.t 38)), none⟩])
  (.skip))))
  (.seq (.kill [0, 2, 3, 8, 9] 0) (.seq (.seq (.draw 0 [
   ⟨0, none, ⟨(some 39), (.mov (.t 0)), none⟩, []⟩,
   ⟨1, none, ⟨(some 40), (.mov (.t 3)), none⟩, []⟩,
   ⟨2, none, ⟨(some 41), (.mov (.t 8)), none⟩, []⟩,
   ⟨3, none, ⟨(some 42), (.bin .add .num (.t 40) (.t 41)), none⟩, []⟩,
   ⟨4, none, ⟨(some 43), (.iaddr 1 (.t 39) (.t 42)), none⟩, []⟩,
   ⟨5, none, ⟨(some 44), (.load none (.t 43)), none⟩, []⟩,
   ⟨6, none, ⟨(some 45), (.mov (.t 0)), none⟩, []⟩,
   ⟨7, none, ⟨(some 46), (.mov (.t 3)), none⟩, []⟩,
   ⟨8, none, ⟨(some 47), (.mov (.t 9)), none⟩, []⟩,
   ⟨9, none, ⟨(some 48), (.bin .add .num (.t 46) (.t 47)), none⟩, []⟩,
   ⟨10, none, ⟨(some 49), (.iaddr 1 (.t 45) (.t 48)), none⟩, []⟩,
   ⟨11, none, ⟨(some 50), (.load none (.t 49)), none⟩, []⟩,
   ⟨12, none, ⟨(some 51), (.call 93 [(.t 44), (.t 50)]), none⟩, []⟩,
   ⟨13, none, ⟨(some 52), (.un .not (.t 51)), none⟩, []⟩])
  (.seq (.kill [0, 2, 3, 8, 9, 52] 0) (.cond (.t 52)
  (.ret)
  (.skip))))
  (.seq (.kill [0, 2, 3, 8, 9] 0) (.seq (.draw 0 [
   ⟨0, none, ⟨(some 53), (.mov (.t 0)), none⟩, []⟩,
   ⟨1, none, ⟨(some 54), (.mov (.t 3)), none⟩, []⟩,
   ⟨2, none, ⟨(some 55), (.mov (.t 8)), none⟩, []⟩,
   ⟨3, none, ⟨(some 56), (.bin .add .num (.t 54) (.t 55)), none⟩, []⟩,
   ⟨4, none, ⟨(some 57), (.mov (.t 0)), none⟩, []⟩,
   ⟨5, none, ⟨(some 58), (.mov (.t 3)), none⟩, []⟩,
   ⟨6, none, ⟨(some 59), (.mov (.t 9)), none⟩, []⟩,
   ⟨7, none, ⟨(some 60), (.bin .add .num (.t 58) (.t 59)), none⟩, []⟩,
   ⟨8, none, ⟨(some 61), (.mov (.t 0)), none⟩, []⟩,
   ⟨9, none, ⟨(some 62), (.mov (.t 3)), none⟩, []⟩,
   ⟨10, none, ⟨(some 63), (.mov (.t 9)), none⟩, []⟩,
   ⟨11, none, ⟨(some 64), (.bin .add .num (.t 62) (.t 63)), none⟩, []⟩,
   ⟨12, none, ⟨(some 65), (.iaddr 1 (.t 61) (.t 64)), none⟩, []⟩,
   ⟨13, none, ⟨(some 66), (.load none (.t 65)), none⟩, []⟩,
   ⟨14, none, ⟨(some 67), (.mov (.t 0)), none⟩, []⟩,
   ⟨15, none, ⟨(some 68), (.mov (.t 3)), none⟩, []⟩,
   ⟨16, none, ⟨(some 69), (.mov (.t 8)), none⟩, []⟩,
   ⟨17, none, ⟨(some 70), (.bin .add .num (.t 68) (.t 69)), none⟩, []⟩,
   ⟨18, none, ⟨(some 71), (.iaddr 1 (.t 67) (.t 70)), none⟩, []⟩,
   ⟨19, none, ⟨(some 72), (.load none (.t 71)), none⟩, []⟩,
   ⟨20, none, ⟨(some 73), (.iaddr 1 (.t 53) (.t 56)), none⟩, []⟩,
   ⟨21, none, ⟨none, (.store 1 (.t 73) (.t 66)), none⟩, []⟩,
   ⟨22, none, ⟨(some 74), (.iaddr 1 (.t 57) (.t 60)), none⟩, []⟩,
   ⟨23, none, ⟨none, (.store 1 (.t 74) (.t 72)), none⟩, []⟩])
  (.seq (.kill [0, 2, 3, 9] 0) (.region [
   ⟨(some 75), (.mov (.t 9)), none⟩,
   ⟨(some 8), (.mov (.t 75)), none⟩]))))))))))))))))⟩
/-- slices.nextPowerOfTwo -/
def n108 : NF := ⟨7, [2],
 .seq (.region [
  ⟨(some 2), (.mov (.c (.c (.int .u64 0)))), none⟩])
 (.seq (.kill [0] 0) (.seq (.region [
  ⟨(some 3), (.mov (.t 0)), none⟩,
  ⟨(some 4), (.conv (.toInt .u64) (.t 3)), none⟩,
  ⟨(some 5), (.call 82 [(.t 4)]), none⟩,
  ⟨(some 6), (.bin .shl .num (.c (.c (.int .u64 1))) (.t 5)), none⟩,
  ⟨(some 2), (.mov (.t 6)), none⟩])
 (.ret)))⟩
/-- (*slices.xorshift).Next -/
def n109 : NF := ⟨33, [2],
 .seq (.region [
  ⟨(some 2), (.mov (.c (.c (.int .u64 0)))), none⟩])
 (.seq (.kill [0] 0) (.seq (.draw 0 [
  ⟨0, none, ⟨(some 3), (.mov (.t 0)), none⟩, []⟩,
  ⟨1, none, ⟨(some 4), (.nilck (.t 3)), none⟩, []⟩,
  ⟨2, none, ⟨(some 5), (.load none (.t 4)), none⟩, []⟩,
  ⟨3, none, ⟨(some 6), (.mov (.t 0)), none⟩, []⟩,
  ⟨4, none, ⟨(some 7), (.nilck (.t 6)), none⟩, []⟩,
  ⟨5, none, ⟨(some 8), (.load none (.t 7)), none⟩, []⟩,
  ⟨6, none, ⟨(some 9), (.bin .shl .num (.t 8) (.c (.c (.int .u64 13)))), none⟩, []⟩,
  ⟨7, none, ⟨(some 10), (.bin .xor .num (.t 5) (.t 9)), none⟩, []⟩,
  ⟨8, none, ⟨(some 11), (.nilck (.t 3)), none⟩, []⟩,
  ⟨9, none, ⟨none, (.store 1 (.t 11) (.t 10)), none⟩, []⟩])
 (.seq (.kill [0] 0) (.seq (.draw 0 [
  ⟨0, none, ⟨(some 12), (.mov (.t 0)), none⟩, []⟩,
  ⟨1, none, ⟨(some 13), (.nilck (.t 12)), none⟩, []⟩,
  ⟨2, none, ⟨(some 14), (.load none (.t 13)), none⟩, []⟩,
  ⟨3, none, ⟨(some 15), (.mov (.t 0)), none⟩, []⟩,
  ⟨4, none, ⟨(some 16), (.nilck (.t 15)), none⟩, []⟩,
  ⟨5, none, ⟨(some 17), (.load none (.t 16)), none⟩, []⟩,
  ⟨6, none, ⟨(some 18), (.bin .shr .num (.t 17) (.c (.c (.int .u64 7)))), none⟩, []⟩,
  ⟨7, none, ⟨(some 19), (.bin .xor .num (.t 14) (.t 18)), none⟩, []⟩,
  ⟨8, none, ⟨(some 20), (.nilck (.t 12)), none⟩, []⟩,
  ⟨9, none, ⟨none, (.store 1 (.t 20) (.t 19)), none⟩, []⟩])
 (.seq (.kill [0] 0) (.seq (.draw 0 [
  ⟨0, none, ⟨(some 21), (.mov (.t 0)), none⟩, []⟩,
  ⟨1, none, ⟨(some 22), (.nilck (.t 21)), none⟩, []⟩,
  ⟨2, none, ⟨(some 23), (.load none (.t 22)), none⟩, []⟩,
  ⟨3, none, ⟨(some 24), (.mov (.t 0)), none⟩, []⟩,
  ⟨4, none, ⟨(some 25), (.nilck (.t 24)), none⟩, []⟩,
  ⟨5, none, ⟨(some 26), (.load none (.t 25)), none⟩, []⟩,
  ⟨6, none, ⟨(some 27), (.bin .shl .num (.t 26) (.c (.c (.int .u64 17)))), none⟩, []⟩,
  ⟨7, none, ⟨(some 28), (.bin .xor .num (.t 23) (.t 27)), none⟩, []⟩,
  ⟨8, none, ⟨(some 29), (.nilck (.t 21)), none⟩, []⟩,
  ⟨9, none, ⟨none, (.store 1 (.t 29) (.t 28)), none⟩, []⟩])
 (.seq (.kill [0] 0) (.seq (.region [
  ⟨(some 30), (.mov (.t 0)), none⟩,
  ⟨(some 31), (.nilck (.t 30)), none⟩,
  ⟨(some 32), (.load none (.t 31)), none⟩,
  ⟨(some 2), (.mov (.t 32)), none⟩])
 (.ret)))))))))⟩
/-- slices.medianAdjacentOrdered[int] -/
def n110 : NF := ⟨15, [6],
 .seq (.region [
  ⟨(some 6), (.mov (.c (.c (.int .i64 0)))), none⟩])
 (.seq (.kill [0, 1, 2] 0) (.seq (.region [
  ⟨(some 7), (.mov (.t 0)), none⟩,
  ⟨(some 8), (.mov (.t 1)), none⟩,
  ⟨(some 9), (.bin .sub .num (.t 8) (.c (.c (.int .i64 1)))), none⟩,
  ⟨(some 10), (.mov (.t 1)), none⟩,
  ⟨(some 11), (.mov (.t 1)), none⟩,
  ⟨(some 12), (.bin .add .num (.t 11) (.c (.c (.int .i64 1)))), none⟩,
  ⟨(some 13), (.mov (.t 2)), none⟩,
  ⟨(some 14), (.call 111 [(.t 7), (.t 9), (.t 10), (.t 12), (.t 13)]), none⟩,
  ⟨(some 6), (.mov (.t 14)), none⟩])
 (.ret)))⟩
/-- slices.medianOrdered[int] -/
def n111 : NF := ⟨36, [10],
 .seq (.region [
  ⟨(some 10), (.mov (.c (.c (.int .i64 0)))), none⟩])
 (.seq (.kill [0, 1, 2, 3, 4] 0) (.seq (.region [
  ⟨(some 12), (.mov (.t 0)), none⟩,
  ⟨(some 13), (.mov (.t 1)), none⟩,
  ⟨(some 14), (.mov (.t 2)), none⟩,
  ⟨(some 15), (.mov (.t 4)), none⟩,
  ⟨(some 16), (.call 115 [(.t 12), (.t 13), (.t 14), (.t 15)]), none⟩,
  ⟨(some 11), (.mov (.t 16)), none⟩,
  ⟨(some 17), (.ext (.t 11) 0), none⟩,
  ⟨(some 18), (.ext (.t 11) 1), none⟩,
  ⟨(some 1), (.mov (.t 17)), none⟩,
  ⟨(some 2), (.mov (.t 18)), none⟩])
 (.seq (.kill [0, 1, 2, 3, 4] 0) (.seq (.region [
  ⟨(some 20), (.mov (.t 0)), none⟩,
  ⟨(some 21), (.mov (.t 2)), none⟩,
  ⟨(some 22), (.mov (.t 3)), none⟩,
  ⟨(some 23), (.mov (.t 4)), none⟩,
  ⟨(some 24), (.call 115 [(.t 20), (.t 21), (.t 22), (.t 23)]), none⟩,
  ⟨(some 19), (.mov (.t 24)), none⟩,
  ⟨(some 25), (.ext (.t 19) 0), none⟩,
  ⟨(some 26), (.ext (.t 19) 1), none⟩,
  ⟨(some 2), (.mov (.t 25)), none⟩,
  ⟨(some 3), (.mov (.t 26)), none⟩])
 (.seq (.kill [0, 1, 2, 4] 0) (.seq (.region [
  ⟨(some 28), (.mov (.t 0)), none⟩,
  ⟨(some 29), (.mov (.t 1)), none⟩,
  ⟨(some 30), (.mov (.t 2)), none⟩,
  ⟨(some 31), (.mov (.t 4)), none⟩,
  ⟨(some 32), (.call 115 [(.t 28), (.t 29), (.t 30), (.t 31)]), none⟩,
  ⟨(some 27), (.mov (.t 32)), none⟩,
  ⟨(some 33), (.ext (.t 27) 0), none⟩,
  ⟨(some 34), (.ext (.t 27) 1), none⟩,
  ⟨(some 1), (.mov (.t 33)), none⟩,
  ⟨(some 2), (.mov (.t 34)), none⟩])
 (.seq (.kill [2] 0) (.seq (.region [
  ⟨(some 35), (.mov (.t 2)), none⟩,
  ⟨(some 10), (.mov (.t 35)), none⟩])
 (.ret)))))))))⟩
/-- slices.insertionSortCmpFunc[int] -/
def n209 : NF := ⟨53, [],
 .seq (.region [
  ⟨(some 10), (.mov (.t 1)), none⟩,
  ⟨(some 11), (.bin .add .num (.t 10) (.c (.c (.int .i64 1)))), none⟩,
  ⟨(some 8), (.mov (.t 11)), none⟩])
 (.seq (.kill [0, 1, 2, 3, 8] 0) (.block 0 (.loop (.seq (.kill [0, 1, 2, 3, 8] 0) (.seq (.seq (.region [
   ⟨(some 12), (.mov (.t 8)), none⟩,
   ⟨(some 13), (.mov (.t 2)), none⟩,
   ⟨(some 14), (.bin .lss .num (.t 12) (.t 13)), none⟩])
  (.seq (.kill [0, 1, 2, 3, 8, 14] 0) (.cond (.t 14)
  (.skip)
  (.exit 0))))
  (.seq (.kill [0, 1, 2, 3, 8] 0) (.seq (.block 1 (.seq (.region [
   ⟨(some 17), (.mov (.t 8)), none⟩,
   ⟨(some 9), (.mov (.t 17)), none⟩])
  (.seq (.kill [0, 1, 2, 3, 8, 9] 0) (.block 2 (.loop (.seq (.kill [0, 1, 2, 3, 8, 9] 0) (.seq (.seq (.draw 0 [
    ⟨0, none, ⟨(some 18), (.mov (.t 9)), none⟩, []⟩,
    ⟨1, none, ⟨(some 19), (.mov (.t 1)), none⟩, []⟩,
    ⟨2, none, ⟨(some 20), (.bin .gtr .num (.t 18) (.t 19)), none⟩, []⟩,
    ⟨3, none, ⟨(some 21), (.mov (.t 20)), none⟩, []⟩,
    ⟨4, none, ⟨(some 22), (.mov (.t 3)), (some (21, true))⟩, []⟩,
    ⟨5, none, ⟨(some 23), (.mov (.t 0)), (some (21, true))⟩, []⟩,
    ⟨6, none, ⟨(some 24), (.mov (.t 9)), (some (21, true))⟩, []⟩,
    ⟨7, none, ⟨(some 25), (.iaddr 1 (.t 23) (.t 24)), (some (21, true))⟩, []⟩,
    ⟨8, none, ⟨(some 26), (.load none (.t 25)), (some (21, true))⟩, []⟩,
    ⟨9, none, ⟨(some 27), (.mov (.t 0)), (some (21, true))⟩, []⟩,
    ⟨10, none, ⟨(some 28), (.mov (.t 9)), (some (21, true))⟩, []⟩,
    ⟨11, none, ⟨(some 29), (.bin .sub .num (.t 28) (.c (.c (.int .i64 1)))), (some (21, true))⟩, []⟩,
    ⟨12, none, ⟨(some 30), (.iaddr 1 (.t 27) (.t 29)), (some (21, true))⟩, []⟩,
    ⟨13, none, ⟨(some 31), (.load none (.t 30)), (some (21, true))⟩, []⟩,
    ⟨14, none, ⟨(some 32), (.dyn (.t 22) [(.t 26), (.t 31)]), (some (21, true))⟩, []⟩,
    ⟨15, none, ⟨(some 33), (.bin .lss .num (.t 32) (.c (.c (.int .i64 0)))), (some (21, true))⟩, []⟩,
    ⟨16, none, ⟨(some 34), (.pick (.t 21) (.t 33) (.c (.c (.bool false)))), none⟩, []⟩])
   (.seq (.kill [0, 1, 2, 3, 8, 9, 34] 0) (.cond (.t 34)
   (.skip)
   (.exit 2))))
   (.seq (.kill [0, 1, 2, 3, 8, 9] 0) (.seq (.block 3 (.draw 0 [
    ⟨0, none, ⟨(some 37), (.mov (.t 0)), none⟩, []⟩,
    ⟨1, none, ⟨(some 38), (.mov (.t 9)), none⟩, []⟩,
    ⟨2, none, ⟨(some 39), (.mov (.t 0)), none⟩, []⟩,
    ⟨3, none, ⟨(some 40), (.mov (.t 9)), none⟩, []⟩,
    ⟨4, none, ⟨(some 41), (.bin .sub .num (.t 40) (.c (.c (.int .i64 1)))), none⟩, []⟩,
    ⟨5, none, ⟨(some 42), (.mov (.t 0)), none⟩, []⟩,
    ⟨6, none, ⟨(some 43), (.mov (.t 9)), none⟩, []⟩,
    ⟨7, none, ⟨(some 44), (.bin .sub .num (.t 43) (.c (.c (.int .i64 1)))), none⟩, []⟩,
    ⟨8, none, ⟨(some 45), (.iaddr 1 (.t 42) (.t 44)), none⟩, []⟩,
    ⟨9, none, ⟨(some 46), (.load none (.t 45)), none⟩, []⟩,
    ⟨10, none, ⟨(some 47), (.mov (.t 0)), none⟩, []⟩,
    ⟨11, none, ⟨(some 48), (.mov (.t 9)), none⟩, []⟩,
    ⟨12, none, ⟨(some 49), (.iaddr 1 (.t 47) (.t 48)), none⟩, []⟩,
    ⟨13, none, ⟨(some 50), (.load none (.t 49)), none⟩, []⟩,
    ⟨14, none, ⟨(some 51), (.iaddr 1 (.t 37) (.t 38)), none⟩, []⟩,
    ⟨15, none, ⟨none, (.store 1 (.t 51) (.t 46)), none⟩, []⟩,
    ⟨16, none, ⟨(some 52), (.iaddr 1 (.t 39) (.t 41)), none⟩, []⟩,
    ⟨17, none, ⟨none, (.store 1 (.t 52) (.t 50)), none⟩, []⟩]))
   (.seq (.kill [0, 1, 2, 3, 8, 9] 0) (.region [
    ⟨(some 35), (.mov (.t 9)), none⟩,
    ⟨(some 36), (.bin .sub .num (.t 35) (.c (.c (.int .i64 1)))), none⟩,
    ⟨(some 9), (.mov (.t 36)), none⟩])))))))))))
  (.seq (.kill [0, 1, 2, 3, 8] 0) (.region [
   ⟨(some 15), (.mov (.t 8)), none⟩,
   ⟨(some 16), (.bin .add .num (.t 15) (.c (.c (.int .i64 1)))), none⟩,
   ⟨(some 8), (.mov (.t 16)), none⟩])))))))))⟩
/-- slices.symMergeCmpFunc[int] -/
def n210 : NF := ⟨220, [],
 .seq (.seq (.region [
  ⟨(some 25), (.mov (.t 2)), none⟩,
  ⟨(some 26), (.mov (.t 1)), none⟩,
  ⟨(some 27), (.bin .sub .num (.t 25) (.t 26)), none⟩,
  ⟨(some 28), (.bin .eql .num (.t 27) (.c (.c (.int .i64 1)))), none⟩])
 (.seq (.kill [0, 1, 2, 3, 4, 28] 0) (.cond (.t 28)
 (.seq (.region [
   ⟨(some 29), (.mov (.t 2)), none⟩,
   ⟨(some 10), (.mov (.t 29)), none⟩])
  (.seq (.kill [0, 1, 3, 4, 10] 0) (.seq (.region [
   ⟨(some 30), (.mov (.t 3)), none⟩,
   ⟨(some 11), (.mov (.t 30)), none⟩])
  (.seq (.kill [0, 1, 4, 10, 11] 0) (.seq (.block 0 (.loop (.seq (.kill [0, 1, 4, 10, 11] 0) (.seq (.seq (.region [
    ⟨(some 31), (.mov (.t 10)), none⟩,
    ⟨(some 32), (.mov (.t 11)), none⟩,
    ⟨(some 33), (.bin .lss .num (.t 31) (.t 32)), none⟩])
   (.seq (.kill [0, 1, 4, 10, 11, 33] 0) (.cond (.t 33)
   (.skip)
   (.exit 0))))
   (.seq (.kill [0, 1, 4, 10, 11] 0) (.block 1 (.seq (.region [
    ⟨(some 34), (.mov (.t 10)), none⟩,
    ⟨(some 35), (.mov (.t 11)), none⟩,
    ⟨(some 36), (.bin .add .num (.t 34) (.t 35)), none⟩,
    ⟨(some 37), (.conv (.toInt .u64) (.t 36)), none⟩,
    ⟨(some 38), (.bin .shr .num (.t 37) (.c (.c (.int .u64 1)))), none⟩,
    ⟨(some 39), (.conv (.toInt .i64) (.t 38)), none⟩,
    ⟨(some 12), (.mov (.t 39)), none⟩])
   (.seq (.kill [0, 1, 4, 10, 11, 12] 0) (.seq (.draw 0 [
    ⟨0, none, ⟨(some 40), (.mov (.t 4)), none⟩, []⟩,
    ⟨1, none, ⟨(some 41), (.mov (.t 0)), none⟩, []⟩,
    ⟨2, none, ⟨(some 42), (.mov (.t 12)), none⟩, []⟩,
    ⟨3, none, ⟨(some 43), (.iaddr 1 (.t 41) (.t 42)), none⟩, []⟩,
    ⟨4, none, ⟨(some 44), (.load none (.t 43)), none⟩, []⟩,
    ⟨5, none, ⟨(some 45), (.mov (.t 0)), none⟩, []⟩,
    ⟨6, none, ⟨(some 46), (.mov (.t 1)), none⟩, []⟩,
    ⟨7, none, ⟨(some 47), (.iaddr 1 (.t 45) (.t 46)), none⟩, []⟩,
    ⟨8, none, ⟨(some 48), (.load none (.t 47)), none⟩, []⟩,
    ⟨9, none, ⟨(some 49), (.dyn (.t 40) [(.t 44), (.t 48)]), none⟩, []⟩,
    ⟨10, none, ⟨(some 50), (.bin .lss .num (.t 49) (.c (.c (.int .i64 0)))), none⟩, []⟩])
   (.seq (.kill [0, 1, 4, 10, 11, 12, 50] 0) (.cond (.t 50)
   (.region [
     ⟨(some 51), (.mov (.t 12)), none⟩,
     ⟨(some 52), (.bin .add .num (.t 51) (.c (.c (.int .i64 1)))), none⟩,
     ⟨(some 10), (.mov (.t 52)), none⟩])
   (.region [
     ⟨(some 53), (.mov (.t 12)), none⟩,
     ⟨(some 11), (.mov (.t 53)), none⟩]))))))))))))
  (.seq (.kill [0, 1, 10] 0) (.seq (.seq (.region [
   ⟨(some 54), (.mov (.t 1)), none⟩,
   ⟨(some 13), (.mov (.t 54)), none⟩])
  (.seq (.kill [0, 10, 13] 0) (.block 2 (.loop (.seq (.kill [0, 10, 13] 0) (.seq (.seq (.region [
    ⟨(some 55), (.mov (.t 13)), none⟩,
    ⟨(some 56), (.mov (.t 10)), none⟩,
    ⟨(some 57), (.bin .sub .num (.t 56) (.c (.c (.int .i64 1)))), none⟩,
    ⟨(some 58), (.bin .lss .num (.t 55) (.t 57)), none⟩])
   (.seq (.kill [0, 10, 13, 58] 0) (.cond (.t 58)
   (.skip)
   (.exit 2))))
   (.seq (.kill [0, 10, 13] 0) (.seq (.block 3 (.draw 0 [
    ⟨0, none, ⟨(some 61), (.mov (.t 0)), none⟩, []⟩,
    ⟨1, none, ⟨(some 62), (.mov (.t 13)), none⟩, []⟩,
    ⟨2, none, ⟨(some 63), (.mov (.t 0)), none⟩, []⟩,
    ⟨3, none, ⟨(some 64), (.mov (.t 13)), none⟩, []⟩,
    ⟨4, none, ⟨(some 65), (.bin .add .num (.t 64) (.c (.c (.int .i64 1)))), none⟩, []⟩,
    ⟨5, none, ⟨(some 66), (.mov (.t 0)), none⟩, []⟩,
    ⟨6, none, ⟨(some 67), (.mov (.t 13)), none⟩, []⟩,
    ⟨7, none, ⟨(some 68), (.bin .add .num (.t 67) (.c (.c (.int .i64 1)))), none⟩, []⟩,
    ⟨8, none, ⟨(some 69), (.iaddr 1 (.t 66) (.t 68)), none⟩, []⟩,
    ⟨9, none, ⟨(some 70), (.load none (.t 69)), none⟩, []⟩,
    ⟨10, none, ⟨(some 71), (.mov (.t 0)), none⟩, []⟩,
    ⟨11, none, ⟨(some 72), (.mov (.t 13)), none⟩, []⟩,
    ⟨12, none, ⟨(some 73), (.iaddr 1 (.t 71) (.t 72)), none⟩, []⟩,
    ⟨13, none, ⟨(some 74), (.load none (.t 73)), none⟩, []⟩,
    ⟨14, none, ⟨(some 75), (.iaddr 1 (.t 61) (.t 62)), none⟩, []⟩,
    ⟨15, none, ⟨none, (.store 1 (.t 75) (.t 70)), none⟩, []⟩,
    ⟨16, none, ⟨(some 76), (.iaddr 1 (.t 63) (.t 65)), none⟩, []⟩,
    ⟨17, none, ⟨none, (.store 1 (.t 76) (.t 74)), none⟩, []⟩]))
   (.seq (.kill [0, 10, 13] 0) (.region [
    ⟨(some 59), (.mov (.t 13)), none⟩,
    ⟨(some 60), (.bin .add .num (.t 59) (.c (.c (.int .i64 1)))), none⟩,
    ⟨(some 13), (.mov (.t 60)), none⟩]))))))))))
  (.ret))))))))
 (.skip))))
 (.seq (.kill [0, 1, 2, 3, 4] 0) (.seq (.seq (.region [
  ⟨(some 77), (.mov (.t 3)), none⟩,
  ⟨(some 78), (.mov (.t 2)), none⟩,
  ⟨(some 79), (.bin .sub .num (.t 77) (.t 78)), none⟩,
  ⟨(some 80), (.bin .eql .num (.t 79) (.c (.c (.int .i64 1)))), none⟩])
 (.seq (.kill [0, 1, 2, 3, 4, 80] 0) (.cond (.t 80)
 (.seq (.region [
   ⟨(some 81), (.mov (.t 1)), none⟩,
   ⟨(some 14), (.mov (.t 81)), none⟩])
  (.seq (.kill [0, 2, 4, 14] 0) (.seq (.region [
   ⟨(some 82), (.mov (.t 2)), none⟩,
   ⟨(some 15), (.mov (.t 82)), none⟩])
  (.seq (.kill [0, 2, 4, 14, 15] 0) (.seq (.block 4 (.loop (.seq (.kill [0, 2, 4, 14, 15] 0) (.seq (.seq (.region [
    ⟨(some 83), (.mov (.t 14)), none⟩,
    ⟨(some 84), (.mov (.t 15)), none⟩,
    ⟨(some 85), (.bin .lss .num (.t 83) (.t 84)), none⟩])
   (.seq (.kill [0, 2, 4, 14, 15, 85] 0) (.cond (.t 85)
   (.skip)
   (.exit 4))))
   (.seq (.kill [0, 2, 4, 14, 15] 0) (.block 5 (.seq (.region [
    ⟨(some 86), (.mov (.t 14)), none⟩,
    ⟨(some 87), (.mov (.t 15)), none⟩,
    ⟨(some 88), (.bin .add .num (.t 86) (.t 87)), none⟩,
    ⟨(some 89), (.conv (.toInt .u64) (.t 88)), none⟩,
    ⟨(some 90), (.bin .shr .num (.t 89) (.c (.c (.int .u64 1)))), none⟩,
    ⟨(some 91), (.conv (.toInt .i64) (.t 90)), none⟩,
    ⟨(some 16), (.mov (.t 91)), none⟩])
   (.seq (.kill [0, 2, 4, 14, 15, 16] 0) (.seq (.draw 0 [
    ⟨0, none, ⟨(some 92), (.mov (.t 4)), none⟩, []⟩,
    ⟨1, none, ⟨(some 93), (.mov (.t 0)), none⟩, []⟩,
    ⟨2, none, ⟨(some 94), (.mov (.t 2)), none⟩, []⟩,
    ⟨3, none, ⟨(some 95), (.iaddr 1 (.t 93) (.t 94)), none⟩, []⟩,
    ⟨4, none, ⟨(some 96), (.load none (.t 95)), none⟩, []⟩,
    ⟨5, none, ⟨(some 97), (.mov (.t 0)), none⟩, []⟩,
    ⟨6, none, ⟨(some 98), (.mov (.t 16)), none⟩, []⟩,
    ⟨7, none, ⟨(some 99), (.iaddr 1 (.t 97) (.t 98)), none⟩, []⟩,
    ⟨8, none, ⟨(some 100), (.load none (.t 99)), none⟩, []⟩,
    ⟨9, none, ⟨(some 101), (.dyn (.t 92) [(.t 96), (.t 100)]), none⟩, []⟩,
    ⟨10, none, ⟨(some 102), (.bin .lss .num (.t 101) (.c (.c (.int .i64 0)))), none⟩, []⟩,
    ⟨11, none, ⟨(some 103), (.un .not (.t 102)), none⟩, []⟩])
   (.seq (.kill [0, 2, 4, 14, 15, 16, 103] 0) (.cond (.t 103)
   (.region [
     ⟨(some 104), (.mov (.t 16)), none⟩,
     ⟨(some 105), (.bin .add .num (.t 104) (.c (.c (.int .i64 1)))), none⟩,
     ⟨(some 14), (.mov (.t 105)), none⟩])
   (.region [
     ⟨(some 106), (.mov (.t 16)), none⟩,
     ⟨(some 15), (.mov (.t 106)), none⟩]))))))))))))
  (.seq (.kill [0, 2, 14] 0) (.seq (.seq (.region [
   ⟨(some 107), (.mov (.t 2)), none⟩,
   ⟨(some 17), (.mov (.t 107)), none⟩])
  (.seq (.kill [0, 14, 17] 0) (.block 6 (.loop (.seq (.kill [0, 14, 17] 0) (.seq (.seq (.region [
    ⟨(some 108), (.mov (.t 17)), none⟩,
    ⟨(some 109), (.mov (.t 14)), none⟩,
    ⟨(some 110), (.bin .gtr .num (.t 108) (.t 109)), none⟩])
   (.seq (.kill [0, 14, 17, 110] 0) (.cond (.t 110)
   (.skip)
   (.exit 6))))
   (.seq (.kill [0, 14, 17] 0) (.seq (.block 7 (.draw 0 [
    ⟨0, none, ⟨(some 113), (.mov (.t 0)), none⟩, []⟩,
    ⟨1, none, ⟨(some 114), (.mov (.t 17)), none⟩, []⟩,
    ⟨2, none, ⟨(some 115), (.mov (.t 0)), none⟩, []⟩,
    ⟨3, none, ⟨(some 116), (.mov (.t 17)), none⟩, []⟩,
    ⟨4, none, ⟨(some 117), (.bin .sub .num (.t 116) (.c (.c (.int .i64 1)))), none⟩, []⟩,
    ⟨5, none, ⟨(some 118), (.mov (.t 0)), none⟩, []⟩,
    ⟨6, none, ⟨(some 119), (.mov (.t 17)), none⟩, []⟩,
    ⟨7, none, ⟨(some 120), (.bin .sub .num (.t 119) (.c (.c (.int .i64 1)))), none⟩, []⟩,
    ⟨8, none, ⟨(some 121), (.iaddr 1 (.t 118) (.t 120)), none⟩, []⟩,
    ⟨9, none, ⟨(some 122), (.load none (.t 121)), none⟩, []⟩,
    ⟨10, none, ⟨(some 123), (.mov (.t 0)), none⟩, []⟩,
    ⟨11, none, ⟨(some 124), (.mov (.t 17)), none⟩, []⟩,
    ⟨12, none, ⟨(some 125), (.iaddr 1 (.t 123) (.t 124)), none⟩, []⟩,
    ⟨13, none, ⟨(some 126), (.load none (.t 125)), none⟩, []⟩,
    ⟨14, none, ⟨(some 127), (.iaddr 1 (.t 113) (.t 114)), none⟩, []⟩,
    ⟨15, none, ⟨none, (.store 1 (.t 127) (.t 122)), none⟩, []⟩,
    ⟨16, none, ⟨(some 128), (.iaddr 1 (.t 115) (.t 117)), none⟩, []⟩,
    ⟨17, none, ⟨none, (.store 1 (.t 128) (.t 126)), none⟩, []⟩]))
   (.seq (.kill [0, 14, 17] 0) (.region [
    ⟨(some 111), (.mov (.t 17)), none⟩,
    ⟨(some 112), (.bin .sub .num (.t 111) (.c (.c (.int .i64 1)))), none⟩,
    ⟨(some 17), (.mov (.t 112)), none⟩]))))))))))
  (.ret))))))))
 (.skip))))
 (.seq (.kill [0, 1, 2, 3, 4] 0) (.seq (.region [
  ⟨(some 129), (.mov (.t 1)), none⟩,
  ⟨(some 130), (.mov (.t 3)), none⟩,
  ⟨(some 131), (.bin .add .num (.t 129) (.t 130)), none⟩,
  ⟨(some 132), (.conv (.toInt .u64) (.t 131)), none⟩,
  ⟨(some 133), (.bin .shr .num (.t 132) (.c (.c (.int .u64 1)))), none⟩,
  ⟨(some 134), (.conv (.toInt .i64) (.t 133)), none⟩,
  ⟨(some 18), (.mov (.t 134)), none⟩])
 (.seq (.kill [0, 1, 2, 3, 4, 18] 0) (.seq (.region [
  ⟨(some 135), (.mov (.t 18)), none⟩,
  ⟨(some 136), (.mov (.t 2)), none⟩,
  ⟨(some 137), (.bin .add .num (.t 135) (.t 136)), none⟩,
  ⟨(some 19), (.mov (.t 137)), none⟩])
 (.seq (.kill [0, 1, 2, 3, 4, 18, 19] 0) (.seq (.region [
  ⟨(some 20), (.mov (.c (.c (.int .i64 0)))), none⟩,
  ⟨(some 21), (.mov (.c (.c (.int .i64 0)))), none⟩])
 (.seq (.kill [0, 1, 2, 3, 4, 18, 19] 0) (.seq (.seq (.region [
  ⟨(some 138), (.mov (.t 2)), none⟩,
  ⟨(some 139), (.mov (.t 18)), none⟩,
  ⟨(some 140), (.bin .gtr .num (.t 138) (.t 139)), none⟩])
 (.seq (.kill [0, 1, 2, 3, 4, 18, 19, 140] 0) (.cond (.t 140)
 (.seq (.region [
   ⟨(some 141), (.mov (.t 19)), none⟩,
   ⟨(some 142), (.mov (.t 3)), none⟩,
   ⟨(some 143), (.bin .sub .num (.t 141) (.t 142)), none⟩,
   ⟨(some 20), (.mov (.t 143)), none⟩])
  (.seq (.kill [0, 1, 2, 3, 4, 18, 19, 20] 0) (.region [
   ⟨(some 144), (.mov (.t 18)), none⟩,
   ⟨(some 21), (.mov (.t 144)), none⟩])))
 (.seq (.region [
   ⟨(some 145), (.mov (.t 1)), none⟩,
   ⟨(some 20), (.mov (.t 145)), none⟩])
  (.seq (.kill [0, 1, 2, 3, 4, 18, 19, 20] 0) (.region [
   ⟨(some 146), (.mov (.t 2)), none⟩,
   ⟨(some 21), (.mov (.t 146)), none⟩]))))))
 (.seq (.kill [0, 1, 2, 3, 4, 18, 19, 20, 21] 0) (.seq (.region [
  ⟨(some 147), (.mov (.t 19)), none⟩,
  ⟨(some 148), (.bin .sub .num (.t 147) (.c (.c (.int .i64 1)))), none⟩,
  ⟨(some 22), (.mov (.t 148)), none⟩])
 (.seq (.kill [0, 1, 2, 3, 4, 18, 19, 20, 21, 22] 0) (.seq (.block 8 (.loop (.seq (.kill [0, 1, 2, 3, 4, 18, 19, 20, 21, 22] 0) (.seq (.seq (.region [
   ⟨(some 149), (.mov (.t 20)), none⟩,
   ⟨(some 150), (.mov (.t 21)), none⟩,
   ⟨(some 151), (.bin .lss .num (.t 149) (.t 150)), none⟩])
  (.seq (.kill [0, 1, 2, 3, 4, 18, 19, 20, 21, 22, 151] 0) (.cond (.t 151)
  (.skip)
  (.exit 8))))
  (.seq (.kill [0, 1, 2, 3, 4, 18, 19, 20, 21, 22] 0) (.block 9 (.seq (.region [
   ⟨(some 152), (.mov (.t 20)), none⟩,
   ⟨(some 153), (.mov (.t 21)), none⟩,
   ⟨(some 154), (.bin .add .num (.t 152) (.t 153)), none⟩,
   ⟨(some 155), (.conv (.toInt .u64) (.t 154)), none⟩,
   ⟨(some 156), (.bin .shr .num (.t 155) (.c (.c (.int .u64 1)))), none⟩,
   ⟨(some 157), (.conv (.toInt .i64) (.t 156)), none⟩,
   ⟨(some 23), (.mov (.t 157)), none⟩])
  (.seq (.kill [0, 1, 2, 3, 4, 18, 19, 20, 21, 22, 23] 0) (.seq (.draw 0 [
   ⟨0, none, ⟨(some 158), (.mov (.t 4)), none⟩, []⟩,
   ⟨1, none, ⟨(some 159), (.mov (.t 0)), none⟩, []⟩,
   ⟨2, none, ⟨(some 160), (.mov (.t 22)), none⟩, []⟩,
   ⟨3, none, ⟨(some 161), (.mov (.t 23)), none⟩, []⟩,
   ⟨4, none, ⟨(some 162), (.bin .sub .num (.t 160) (.t 161)), none⟩, []⟩,
   ⟨5, none, ⟨(some 163), (.iaddr 1 (.t 159) (.t 162)), none⟩, []⟩,
   ⟨6, none, ⟨(some 164), (.load none (.t 163)), none⟩, []⟩,
   ⟨7, none, ⟨(some 165), (.mov (.t 0)), none⟩, []⟩,
   ⟨8, none, ⟨(some 166), (.mov (.t 23)), none⟩, []⟩,
   ⟨9, none, ⟨(some 167), (.iaddr 1 (.t 165) (.t 166)), none⟩, []⟩,
   ⟨10, none, ⟨(some 168), (.load none (.t 167)), none⟩, []⟩,
   ⟨11, none, ⟨(some 169), (.dyn (.t 158) [(.t 164), (.t 168)]), none⟩, []⟩,
   ⟨12, none, ⟨(some 170), (.bin .lss .num (.t 169) (.c (.c (.int .i64 0)))), none⟩, []⟩,
   ⟨13, none, ⟨(some 171), (.un .not (.t 170)), none⟩, []⟩])
  (.seq (.kill [0, 1, 2, 3, 4, 18, 19, 20, 21, 22, 23, 171] 0) (.cond (.t 171)
  (.region [
    ⟨(some 172), (.mov (.t 23)), none⟩,
    ⟨(some 173), (.bin .add .num (.t 172) (.c (.c (.int .i64 1)))), none⟩,
    ⟨(some 20), (.mov (.t 173)), none⟩])
  (.region [
    ⟨(some 174), (.mov (.t 23)), none⟩,
    ⟨(some 21), (.mov (.t 174)), none⟩]))))))))))))
 (.seq (.kill [0, 1, 2, 3, 4, 18, 19, 20] 0) (.seq (.region [
  ⟨(some 175), (.mov (.t 19)), none⟩,
  ⟨(some 176), (.mov (.t 20)), none⟩,
  ⟨(some 177), (.bin .sub .num (.t 175) (.t 176)), none⟩,
  ⟨(some 24), (.mov (.t 177)), none⟩])
 (.seq (.kill [0, 1, 2, 3, 4, 18, 20, 24] 0) (.seq (.seq (.region [
  ⟨(some 178), (.mov (.t 20)), none⟩,
  ⟨(some 179), (.mov (.t 2)), none⟩,
  ⟨(some 180), (.bin .lss .num (.t 178) (.t 179)), none⟩,
  ⟨(some 181), (.mov (.t 180)), none⟩,
  ⟨(some 182), (.mov (.t 2)), (some (181, true))⟩,
  ⟨(some 183), (.mov (.t 24)), (some (181, true))⟩,
  ⟨(some 184), (.bin .lss .num (.t 182) (.t 183)), (some (181, true))⟩,
  ⟨(some 185), (.pick (.t 181) (.t 184) (.c (.c (.bool false)))), none⟩])
 (.seq (.kill [0, 1, 2, 3, 4, 18, 20, 24, 185] 0) (.cond (.t 185)
 (.region [
   ⟨(some 186), (.mov (.t 0)), none⟩,
   ⟨(some 187), (.mov (.t 20)), none⟩,
   ⟨(some 188), (.mov (.t 2)), none⟩,
   ⟨(some 189), (.mov (.t 24)), none⟩,
   ⟨(some 190), (.mov (.t 4)), none⟩,
   ⟨(some 191), (.call 211 [(.t 186), (.t 187), (.t 188), (.t 189), (.t 190)]), none⟩])
 (.skip))))
 (.seq (.kill [0, 1, 3, 4, 18, 20, 24] 0) (.seq (.seq (.region [
  ⟨(some 192), (.mov (.t 1)), none⟩,
  ⟨(some 193), (.mov (.t 20)), none⟩,
  ⟨(some 194), (.bin .lss .num (.t 192) (.t 193)), none⟩,
  ⟨(some 195), (.mov (.t 194)), none⟩,
  ⟨(some 196), (.mov (.t 20)), (some (195, true))⟩,
  ⟨(some 197), (.mov (.t 18)), (some (195, true))⟩,
  ⟨(some 198), (.bin .lss .num (.t 196) (.t 197)), (some (195, true))⟩,
  ⟨(some 199), (.pick (.t 195) (.t 198) (.c (.c (.bool false)))), none⟩])
 (.seq (.kill [0, 1, 3, 4, 18, 20, 24, 199] 0) (.cond (.t 199)
 (.region [
   ⟨(some 200), (.mov (.t 0)), none⟩,
   ⟨(some 201), (.mov (.t 1)), none⟩,
   ⟨(some 202), (.mov (.t 20)), none⟩,
   ⟨(some 203), (.mov (.t 18)), none⟩,
   ⟨(some 204), (.mov (.t 4)), none⟩,
   ⟨(some 205), (.call 210 [(.t 200), (.t 201), (.t 202), (.t 203), (.t 204)]), none⟩])
 (.skip))))
 (.seq (.kill [0, 3, 4, 18, 24] 0) (.seq (.region [
  ⟨(some 206), (.mov (.t 18)), none⟩,
  ⟨(some 207), (.mov (.t 24)), none⟩,
  ⟨(some 208), (.bin .lss .num (.t 206) (.t 207)), none⟩,
  ⟨(some 209), (.mov (.t 208)), none⟩,
  ⟨(some 210), (.mov (.t 24)), (some (209, true))⟩,
  ⟨(some 211), (.mov (.t 3)), (some (209, true))⟩,
  ⟨(some 212), (.bin .lss .num (.t 210) (.t 211)), (some (209, true))⟩,
  ⟨(some 213), (.pick (.t 209) (.t 212) (.c (.c (.bool false)))), none⟩])
 (.seq (.kill [0, 3, 4, 18, 24, 213] 0) (.cond (.t 213)
 (.region [
   ⟨(some 214), (.mov (.t 0)), none⟩,
   ⟨(some 215), (.mov (.t 18)), none⟩,
   ⟨(some 216), (.mov (.t 24)), none⟩,
   ⟨(some 217), (.mov (.t 3)), none⟩,
   ⟨(some 218), (.mov (.t 4)), none⟩,
   ⟨(some 219), (.call 210 [(.t 214), (.t 215), (.t 216), (.t 217), (.t 218)]), none⟩])
 (.skip)))))))))))))))))))))))))⟩
/-- slices.order2Ordered[int] -/
def n115 : NF := ⟨28, [8, 9],
 .seq (.region [
  ⟨(some 8), (.mov (.c (.c (.int .i64 0)))), none⟩,
  ⟨(some 9), (.mov (.c (.c (.int .i64 0)))), none⟩])
 (.seq (.kill [0, 1, 2, 3] 0) (.seq (.seq (.draw 0 [
  ⟨0, none, ⟨(some 10), (.mov (.t 0)), none⟩, []⟩,
  ⟨1, none, ⟨(some 11), (.mov (.t 2)), none⟩, []⟩,
  ⟨2, none, ⟨(some 12), (.iaddr 1 (.t 10) (.t 11)), none⟩, []⟩,
  ⟨3, none, ⟨(some 13), (.load none (.t 12)), none⟩, []⟩,
  ⟨4, none, ⟨(some 14), (.mov (.t 0)), none⟩, []⟩,
  ⟨5, none, ⟨(some 15), (.mov (.t 1)), none⟩, []⟩,
  ⟨6, none, ⟨(some 16), (.iaddr 1 (.t 14) (.t 15)), none⟩, []⟩,
  ⟨7, none, ⟨(some 17), (.load none (.t 16)), none⟩, []⟩,
  ⟨8, none, ⟨(some 18), (.call 93 [(.t 13), (.t 17)]), none⟩, []⟩])
 (.seq (.kill [1, 2, 3, 18] 0) (.cond (.t 18)
 (.seq (.region [
   ⟨(some 19), (.mov (.t 3)), none⟩,
   ⟨(some 20), (.nilck (.t 19)), none⟩,
   ⟨(some 21), (.load none (.t 20)), none⟩,
   ⟨(some 22), (.bin .add .num (.t 21) (.c (.c (.int .i64 1)))), none⟩,
   ⟨(some 23), (.nilck (.t 19)), none⟩,
   ⟨none, (.store 1 (.t 23) (.t 22)), none⟩])
  (.seq (.kill [1, 2] 0) (.seq (.region [
   ⟨(some 24), (.mov (.t 2)), none⟩,
   ⟨(some 25), (.mov (.t 1)), none⟩,
   ⟨(some 8), (.mov (.t 24)), none⟩,
   ⟨(some 9), (.mov (.t 25)), none⟩])
  (.ret))))
 (.skip))))
 (.seq (.kill [1, 2] 0) (.seq (.region [
  ⟨(some 26), (.mov (.t 1)), none⟩,
  ⟨(some 27), (.mov (.t 2)), none⟩,
  ⟨(some 8), (.mov (.t 26)), none⟩,
  ⟨(some 9), (.mov (.t 27)), none⟩])
 (.ret)))))⟩
/-- slices.rotateCmpFunc[int] -/
def n211 : NF := ⟨58, [],
 .seq (.region [
  ⟨(some 12), (.mov (.t 2)), none⟩,
  ⟨(some 13), (.mov (.t 1)), none⟩,
  ⟨(some 14), (.bin .sub .num (.t 12) (.t 13)), none⟩,
  ⟨(some 10), (.mov (.t 14)), none⟩])
 (.seq (.kill [0, 2, 3, 4, 10] 0) (.seq (.region [
  ⟨(some 15), (.mov (.t 3)), none⟩,
  ⟨(some 16), (.mov (.t 2)), none⟩,
  ⟨(some 17), (.bin .sub .num (.t 15) (.t 16)), none⟩,
  ⟨(some 11), (.mov (.t 17)), none⟩])
 (.seq (.kill [0, 2, 4, 10, 11] 0) (.seq (.block 0 (.loop (.seq (.kill [0, 2, 4, 10, 11] 0) (.seq (.seq (.region [
   ⟨(some 18), (.mov (.t 10)), none⟩,
   ⟨(some 19), (.mov (.t 11)), none⟩,
   ⟨(some 20), (.bin .neq .num (.t 18) (.t 19)), none⟩])
  (.seq (.kill [0, 2, 4, 10, 11, 20] 0) (.cond (.t 20)
  (.skip)
  (.exit 0))))
  (.seq (.kill [0, 2, 4, 10, 11] 0) (.block 1 (.seq (.region [
   ⟨(some 21), (.mov (.t 10)), none⟩,
   ⟨(some 22), (.mov (.t 11)), none⟩,
   ⟨(some 23), (.bin .gtr .num (.t 21) (.t 22)), none⟩])
  (.seq (.kill [0, 2, 4, 10, 11, 23] 0) (.cond (.t 23)
  (.seq (.region [
    ⟨(some 24), (.mov (.t 0)), none⟩,
    ⟨(some 25), (.mov (.t 2)), none⟩,
    ⟨(some 26), (.mov (.t 10)), none⟩,
    ⟨(some 27), (.bin .sub .num (.t 25) (.t 26)), none⟩,
    ⟨(some 28), (.mov (.t 2)), none⟩,
    ⟨(some 29), (.mov (.t 11)), none⟩,
    ⟨(some 30), (.mov (.t 4)), none⟩,
    ⟨(some 31), (.call 212 [(.t 24), (.t 27), (.t 28), (.t 29), (.t 30)]), none⟩])
   (.seq (.kill [0, 2, 4, 10, 11] 0) (.region [
    ⟨(some 32), (.mov (.t 10)), none⟩,
    ⟨(some 33), (.mov (.t 11)), none⟩,
    ⟨(some 34), (.bin .sub .num (.t 32) (.t 33)), none⟩,
    ⟨(some 10), (.mov (.t 34)), none⟩])))
  (.seq (.region [
    ⟨(some 35), (.mov (.t 0)), none⟩,
    ⟨(some 36), (.mov (.t 2)), none⟩,
    ⟨(some 37), (.mov (.t 10)), none⟩,
    ⟨(some 38), (.bin .sub .num (.t 36) (.t 37)), none⟩,
    ⟨(some 39), (.mov (.t 2)), none⟩,
    ⟨(some 40), (.mov (.t 11)), none⟩,
    ⟨(some 41), (.bin .add .num (.t 39) (.t 40)), none⟩,
    ⟨(some 42), (.mov (.t 10)), none⟩,
    ⟨(some 43), (.bin .sub .num (.t 41) (.t 42)), none⟩,
    ⟨(some 44), (.mov (.t 10)), none⟩,
    ⟨(some 45), (.mov (.t 4)), none⟩,
    ⟨(some 46), (.call 212 [(.t 35), (.t 38), (.t 43), (.t 44), (.t 45)]), none⟩])
   (.seq (.kill [0, 2, 4, 10, 11] 0) (.region [
    ⟨(some 47), (.mov (.t 11)), none⟩,
    ⟨(some 48), (.mov (.t 10)), none⟩,
    ⟨(some 49), (.bin .sub .num (.t 47) (.t 48)), none⟩,
    ⟨(some 11), (.mov (.t 49)), none⟩]))))))))))))
 (.seq (.kill [0, 2, 4, 10] 0) (.region [
  ⟨(some 50), (.mov (.t 0)), none⟩,
  ⟨(some 51), (.mov (.t 2)), none⟩,
  ⟨(some 52), (.mov (.t 10)), none⟩,
  ⟨(some 53), (.bin .sub .num (.t 51) (.t 52)), none⟩,
  ⟨(some 54), (.mov (.t 2)), none⟩,
  ⟨(some 55), (.mov (.t 10)), none⟩,
  ⟨(some 56), (.mov (.t 4)), none⟩,
  ⟨(some 57), (.call 212 [(.t 50), (.t 53), (.t 54), (.t 55), (.t 56)]), none⟩]))))))⟩
/-- slices.swapRangeCmpFunc[int] -/
def n212 : NF := ⟨38, [],
 .seq (.region [
  ⟨(some 10), (.mov (.c (.c (.int .i64 0)))), none⟩])
 (.seq (.kill [0, 1, 2, 3, 10] 0) (.block 0 (.loop (.seq (.kill [0, 1, 2, 3, 10] 0) (.seq (.seq (.region [
   ⟨(some 11), (.mov (.t 10)), none⟩,
   ⟨(some 12), (.mov (.t 3)), none⟩,
   ⟨(some 13), (.bin .lss .num (.t 11) (.t 12)), none⟩])
  (.seq (.kill [0, 1, 2, 3, 10, 13] 0) (.cond (.t 13)
  (.skip)
  (.exit 0))))
  (.seq (.kill [0, 1, 2, 3, 10] 0) (.seq (.block 1 (.draw 0 [
   ⟨0, none, ⟨(some 16), (.mov (.t 0)), none⟩, []⟩,
   ⟨1, none, ⟨(some 17), (.mov (.t 1)), none⟩, []⟩,
   ⟨2, none, ⟨(some 18), (.mov (.t 10)), none⟩, []⟩,
   ⟨3, none, ⟨(some 19), (.bin .add .num (.t 17) (.t 18)), none⟩, []⟩,
   ⟨4, none, ⟨(some 20), (.mov (.t 0)), none⟩, []⟩,
   ⟨5, none, ⟨(some 21), (.mov (.t 2)), none⟩, []⟩,
   ⟨6, none, ⟨(some 22), (.mov (.t 10)), none⟩, []⟩,
   ⟨7, none, ⟨(some 23), (.bin .add .num (.t 21) (.t 22)), none⟩, []⟩,
   ⟨8, none, ⟨(some 24), (.mov (.t 0)), none⟩, []⟩,
   ⟨9, none, ⟨(some 25), (.mov (.t 2)), none⟩, []⟩,
   ⟨10, none, ⟨(some 26), (.mov (.t 10)), none⟩, []⟩,
   ⟨11, none, ⟨(some 27), (.bin .add .num (.t 25) (.t 26)), none⟩, []⟩,
   ⟨12, none, ⟨(some 28), (.iaddr 1 (.t 24) (.t 27)), none⟩, []⟩,
   ⟨13, none, ⟨(some 29), (.load none (.t 28)), none⟩, []⟩,
   ⟨14, none, ⟨(some 30), (.mov (.t 0)), none⟩, []⟩,
   ⟨15, none, ⟨(some 31), (.mov (.t 1)), none⟩, []⟩,
   ⟨16, none, ⟨(some 32), (.mov (.t 10)), none⟩, []⟩,
   ⟨17, none, ⟨(some 33), (.bin .add .num (.t 31) (.t 32)), none⟩, []⟩,
   ⟨18, none, ⟨(some 34), (.iaddr 1 (.t 30) (.t 33)), none⟩, []⟩,
   ⟨19, none, ⟨(some 35), (.load none (.t 34)), none⟩, []⟩,
   ⟨20, none, ⟨(some 36), (.iaddr 1 (.t 16) (.t 19)), none⟩, []⟩,
   ⟨21, none, ⟨none, (.store 1 (.t 36) (.t 29)), none⟩, []⟩,
   ⟨22, none, ⟨(some 37), (.iaddr 1 (.t 20) (.t 23)), none⟩, []⟩,
   ⟨23, none, ⟨none, (.store 1 (.t 37) (.t 35)), none⟩, []⟩]))
  (.seq (.kill [0, 1, 2, 3, 10] 0) (.region [
   ⟨(some 14), (.mov (.t 10)), none⟩,
   ⟨(some 15), (.bin .add .num (.t 14) (.c (.c (.int .i64 1)))), none⟩,
   ⟨(some 10), (.mov (.t 15)), none⟩])))))))))⟩
def N0 : Nat → Option NF
  | 2 => some n2
  | 3 => some n3
  | 4 => some n4
  | 5 => some n5
  | 7 => some n7
  | 11 => some n11
  | 12 => some n12
  | 13 => some n13
  | 15 => some n15
  | 17 => some n17
  | 18 => some n18
  | 19 => some n19
  | 20 => some n20
  | 21 => some n21
  | 22 => some n22
  | 44 => some n44
  | 46 => some n46
  | 47 => some n47
  | 74 => some n74
  | 82 => some n82
  | 83 => some n83
  | 87 => some n87
  | 88 => some n88
  | 89 => some n89
  | 90 => some n90
  | 91 => some n91
  | 92 => some n92
  | 93 => some n93
  | 94 => some n94
  | 95 => some n95
  | 96 => some n96
  | 97 => some n97
  | 107 => some n107
  | 108 => some n108
  | 109 => some n109
  | 110 => some n110
  | 111 => some n111
  | 115 => some n115
  | 195 => some n195
  | 196 => some n196
  | 197 => some n197
  | 198 => some n198
  | 199 => some n199
  | 200 => some n200
  | 201 => some n201
  | 202 => some n202
  | 203 => some n203
  | 204 => some n204
  | 205 => some n205
  | 206 => some n206
  | 207 => some n207
  | 208 => some n208
  | 209 => some n209
  | 210 => some n210
  | 211 => some n211
  | 212 => some n212
  | 236 => some n236
  | 237 => some n237
  | 238 => some n238
  | 239 => some n239
  | 240 => some n240
  | 241 => some n241
  | 242 => some n242
  | 244 => some n244
  | _ => none
abbrev N : Nat → Option NF := withF N0 201 awakeN
end Camp

/-! CsTree -/
namespace Camp.S
open Go Go.Proofs
def tbl : List Nat := [1000000, 1000000, 1000000, 1000000, 1000000, 1000000, 236, 1000000, 7, 196, 1000000, 195, 197, 4, 5, 200, 201, 199, 13, 198, 237, 238, 239, 240, 241, 242, 2, 19, 15, 20, 3, 21, 74, 202, 203, 18, 204, 205, 12, 244, 44, 22, 17, 83, 82, 207, 206, 46, 11, 87, 88, 89, 90, 91, 92, 93, 94, 95, 96, 97, 208, 47, 107, 108, 109, 110, 111, 209, 210, 115, 211, 212, 1000000, 1000000, 1000000, 1000000, 1000000, 1000000, 1000000, 1000000, 1000000, 1000000, 1000000, 1000000, 1000000, 1000000, 1000000, 1000000]
abbrev rn : FuncId → Nat := rnOf tbl
theorem c236 : CFn Try.prog rn (DJ Try.prog rn) Try.f6 n236 := cfn_ok [] (by kernel_rfl) (by kernel_rfl) (by kernel_rfl) (by kernel_rfl)
theorem c7 : CFn Try.prog rn (DJ Try.prog rn) Try.f8 n7 := cfn_ok [10] (by kernel_rfl) (by kernel_rfl) (by kernel_rfl) (by kernel_rfl)
theorem c196 : CFn Try.prog rn (DJ Try.prog rn) Try.f9 n196 := cfn_ok [39, 77] (by kernel_rfl) (by kernel_rfl) (by kernel_rfl) (by kernel_rfl)
theorem c195 : CFn Try.prog rn (DJ Try.prog rn) Try.f11 n195 := cfn_ok [] (by kernel_rfl) (by kernel_rfl) (by kernel_rfl) (by kernel_rfl)
theorem c197 : CFn Try.prog rn (DJ Try.prog rn) Try.f12 n197 := cfn_ok [] (by kernel_rfl) (by kernel_rfl) (by kernel_rfl) (by kernel_rfl)
theorem c4 : CFn Try.prog rn (DJ Try.prog rn) Try.f13 n4 := cfn_ok [] (by kernel_rfl) (by kernel_rfl) (by kernel_rfl) (by kernel_rfl)
theorem c5 : CFn Try.prog rn (DJ Try.prog rn) Try.f14 n5 := cfn_ok [34] (by kernel_rfl) (by kernel_rfl) (by kernel_rfl) (by kernel_rfl)
theorem c200 : CFn Try.prog rn (DJ Try.prog rn) Try.f15 n200 := cfn_ok [25] (by kernel_rfl) (by kernel_rfl) (by kernel_rfl) (by kernel_rfl)
theorem c201 : CFn Try.prog rn (DJ Try.prog rn) Try.f16 n201 := cfn_ok [] (by kernel_rfl) (by kernel_rfl) (by kernel_rfl) (by kernel_rfl)
theorem c199 : CFn Try.prog rn (DJ Try.prog rn) Try.f17 n199 := cfn_ok [] (by kernel_rfl) (by kernel_rfl) (by kernel_rfl) (by kernel_rfl)
theorem c13 : CFn Try.prog rn (DJ Try.prog rn) Try.f18 n13 := cfn_ok [] (by kernel_rfl) (by kernel_rfl) (by kernel_rfl) (by kernel_rfl)
theorem c198 : CFn Try.prog rn (DJ Try.prog rn) Try.f19 n198 := cfn_ok [30] (by kernel_rfl) (by kernel_rfl) (by kernel_rfl) (by kernel_rfl)
theorem c237 : CFn Try.prog rn (DJ Try.prog rn) Try.f20 n237 := cfn_ok [] (by kernel_rfl) (by kernel_rfl) (by kernel_rfl) (by kernel_rfl)
theorem c238 : CFn Try.prog rn (DJ Try.prog rn) Try.f21 n238 := cfn_ok [23] (by kernel_rfl) (by kernel_rfl) (by kernel_rfl) (by kernel_rfl)
theorem c239 : CFn Try.prog rn (DJ Try.prog rn) Try.f22 n239 := cfn_ok [] (by kernel_rfl) (by kernel_rfl) (by kernel_rfl) (by kernel_rfl)
theorem c240 : CFn Try.prog rn (DJ Try.prog rn) Try.f23 n240 := cfn_ok [] (by kernel_rfl) (by kernel_rfl) (by kernel_rfl) (by kernel_rfl)
theorem c241 : CFn Try.prog rn (DJ Try.prog rn) Try.f24 n241 := cfn_ok [28] (by kernel_rfl) (by kernel_rfl) (by kernel_rfl) (by kernel_rfl)
theorem c242 : CFn Try.prog rn (DJ Try.prog rn) Try.f25 n242 := cfn_ok [] (by kernel_rfl) (by kernel_rfl) (by kernel_rfl) (by kernel_rfl)
theorem c2 : CFn Try.prog rn (DJ Try.prog rn) Try.f26 n2 := cfn_ok [] (by kernel_rfl) (by kernel_rfl) (by kernel_rfl) (by kernel_rfl)
theorem c19 : CFn Try.prog rn (DJ Try.prog rn) Try.f27 n19 := cfn_ok [] (by kernel_rfl) (by kernel_rfl) (by kernel_rfl) (by kernel_rfl)
theorem c15 : CFn Try.prog rn (DJ Try.prog rn) Try.f28 n15 := cfn_ok [] (by kernel_rfl) (by kernel_rfl) (by kernel_rfl) (by kernel_rfl)
theorem c20 : CFn Try.prog rn (DJ Try.prog rn) Try.f29 n20 := cfn_ok [] (by kernel_rfl) (by kernel_rfl) (by kernel_rfl) (by kernel_rfl)
theorem c3 : CFn Try.prog rn (DJ Try.prog rn) Try.f30 n3 := cfn_ok [9] (by kernel_rfl) (by kernel_rfl) (by kernel_rfl) (by kernel_rfl)
theorem c21 : CFn Try.prog rn (DJ Try.prog rn) Try.f31 n21 := cfn_ok [7, 8, 10] (by kernel_rfl) (by kernel_rfl) (by kernel_rfl) (by kernel_rfl)
theorem c74 : CFn Try.prog rn (DJ Try.prog rn) Try.f32 n74 := cfn_ok [] (by kernel_rfl) (by kernel_rfl) (by kernel_rfl) (by kernel_rfl)
theorem c202 : CFn Try.prog rn (DJ Try.prog rn) Try.f33 n202 := cfn_ok [46] (by kernel_rfl) (by kernel_rfl) (by kernel_rfl) (by kernel_rfl)
theorem c203 : CFn Try.prog rn (DJ Try.prog rn) Try.f34 n203 := cfn_ok [] (by kernel_rfl) (by kernel_rfl) (by kernel_rfl) (by kernel_rfl)
theorem c18 : CFn Try.prog rn (DJ Try.prog rn) Try.f35 n18 := cfn_ok [] (by kernel_rfl) (by kernel_rfl) (by kernel_rfl) (by kernel_rfl)
theorem c204 : CFn Try.prog rn (DJ Try.prog rn) Try.f36 n204 := cfn_ok [] (by kernel_rfl) (by kernel_rfl) (by kernel_rfl) (by kernel_rfl)
theorem c205 : CFn Try.prog rn (DJ Try.prog rn) Try.f37 n205 := cfn_ok [] (by kernel_rfl) (by kernel_rfl) (by kernel_rfl) (by kernel_rfl)
theorem c12 : CFn Try.prog rn (DJ Try.prog rn) Try.f38 n12 := cfn_ok [30] (by kernel_rfl) (by kernel_rfl) (by kernel_rfl) (by kernel_rfl)
theorem c244 : CFn Try.prog rn (DJ Try.prog rn) Try.f39 n244 := cfn_ok [55] (by kernel_rfl) (by kernel_rfl) (by kernel_rfl) (by kernel_rfl)
theorem c44 : CFn Try.prog rn (DJ Try.prog rn) Try.f40 n44 := cfn_ok [] (by kernel_rfl) (by kernel_rfl) (by kernel_rfl) (by kernel_rfl)
theorem c22 : CFn Try.prog rn (DJ Try.prog rn) Try.f41 n22 := cfn_ok [] (by kernel_rfl) (by kernel_rfl) (by kernel_rfl) (by kernel_rfl)
theorem c17 : CFn Try.prog rn (DJ Try.prog rn) Try.f42 n17 := cfn_ok [9] (by kernel_rfl) (by kernel_rfl) (by kernel_rfl) (by kernel_rfl)
theorem c83 : CFn Try.prog rn (DJ Try.prog rn) Try.f43 n83 := cfn_ok [] (by kernel_rfl) (by kernel_rfl) (by kernel_rfl) (by kernel_rfl)
theorem c82 : CFn Try.prog rn (DJ Try.prog rn) Try.f44 n82 := cfn_ok [] (by kernel_rfl) (by kernel_rfl) (by kernel_rfl) (by kernel_rfl)
theorem c207 : CFn Try.prog rn (DJ Try.prog rn) Try.f45 n207 := cfn_ok [] (by kernel_rfl) (by kernel_rfl) (by kernel_rfl) (by kernel_rfl)
theorem c206 : CFn Try.prog rn (DJ Try.prog rn) Try.f46 n206 := cfn_ok [] (by kernel_rfl) (by kernel_rfl) (by kernel_rfl) (by kernel_rfl)
theorem c46 : CFn Try.prog rn (DJ Try.prog rn) Try.f47 n46 := cfn_ok [] (by kernel_rfl) (by kernel_rfl) (by kernel_rfl) (by kernel_rfl)
theorem c11 : CFn Try.prog rn (DJ Try.prog rn) Try.f48 n11 := cfn_ok [] (by kernel_rfl) (by kernel_rfl) (by kernel_rfl) (by kernel_rfl)
theorem c87 : CFn Try.prog rn (DJ Try.prog rn) Try.f49 n87 := cfn_ok [] (by kernel_rfl) (by kernel_rfl) (by kernel_rfl) (by kernel_rfl)
theorem c88 : CFn Try.prog rn (DJ Try.prog rn) Try.f50 n88 := cfn_ok [] (by kernel_rfl) (by kernel_rfl) (by kernel_rfl) (by kernel_rfl)
theorem c89 : CFn Try.prog rn (DJ Try.prog rn) Try.f51 n89 := cfn_ok [] (by kernel_rfl) (by kernel_rfl) (by kernel_rfl) (by kernel_rfl)
theorem c90 : CFn Try.prog rn (DJ Try.prog rn) Try.f52 n90 := cfn_ok [] (by kernel_rfl) (by kernel_rfl) (by kernel_rfl) (by kernel_rfl)
theorem c91 : CFn Try.prog rn (DJ Try.prog rn) Try.f53 n91 := cfn_ok [] (by kernel_rfl) (by kernel_rfl) (by kernel_rfl) (by kernel_rfl)
theorem c92 : CFn Try.prog rn (DJ Try.prog rn) Try.f54 n92 := cfn_ok [] (by kernel_rfl) (by kernel_rfl) (by kernel_rfl) (by kernel_rfl)
theorem c93 : CFn Try.prog rn (DJ Try.prog rn) Try.f55 n93 := cfn_ok [] (by kernel_rfl) (by kernel_rfl) (by kernel_rfl) (by kernel_rfl)
theorem c94 : CFn Try.prog rn (DJ Try.prog rn) Try.f56 n94 := cfn_ok [] (by kernel_rfl) (by kernel_rfl) (by kernel_rfl) (by kernel_rfl)
theorem c95 : CFn Try.prog rn (DJ Try.prog rn) Try.f57 n95 := cfn_ok [] (by kernel_rfl) (by kernel_rfl) (by kernel_rfl) (by kernel_rfl)
theorem c96 : CFn Try.prog rn (DJ Try.prog rn) Try.f58 n96 := cfn_ok [] (by kernel_rfl) (by kernel_rfl) (by kernel_rfl) (by kernel_rfl)
theorem c97 : CFn Try.prog rn (DJ Try.prog rn) Try.f59 n97 := cfn_ok [] (by kernel_rfl) (by kernel_rfl) (by kernel_rfl) (by kernel_rfl)
theorem c208 : CFn Try.prog rn (DJ Try.prog rn) Try.f60 n208 := cfn_ok [] (by kernel_rfl) (by kernel_rfl) (by kernel_rfl) (by kernel_rfl)
theorem c47 : CFn Try.prog rn (DJ Try.prog rn) Try.f61 n47 := cfn_ok [] (by kernel_rfl) (by kernel_rfl) (by kernel_rfl) (by kernel_rfl)
theorem c107 : CFn Try.prog rn (DJ Try.prog rn) Try.f62 n107 := cfn_ok [] (by kernel_rfl) (by kernel_rfl) (by kernel_rfl) (by kernel_rfl)
theorem c108 : CFn Try.prog rn (DJ Try.prog rn) Try.f63 n108 := cfn_ok [] (by kernel_rfl) (by kernel_rfl) (by kernel_rfl) (by kernel_rfl)
theorem c109 : CFn Try.prog rn (DJ Try.prog rn) Try.f64 n109 := cfn_ok [] (by kernel_rfl) (by kernel_rfl) (by kernel_rfl) (by kernel_rfl)
theorem c110 : CFn Try.prog rn (DJ Try.prog rn) Try.f65 n110 := cfn_ok [] (by kernel_rfl) (by kernel_rfl) (by kernel_rfl) (by kernel_rfl)
theorem c111 : CFn Try.prog rn (DJ Try.prog rn) Try.f66 n111 := cfn_ok [] (by kernel_rfl) (by kernel_rfl) (by kernel_rfl) (by kernel_rfl)
theorem c209 : CFn Try.prog rn (DJ Try.prog rn) Try.f67 n209 := cfn_ok [] (by kernel_rfl) (by kernel_rfl) (by kernel_rfl) (by kernel_rfl)
theorem c210 : CFn Try.prog rn (DJ Try.prog rn) Try.f68 n210 := cfn_ok [] (by kernel_rfl) (by kernel_rfl) (by kernel_rfl) (by kernel_rfl)
theorem c115 : CFn Try.prog rn (DJ Try.prog rn) Try.f69 n115 := cfn_ok [] (by kernel_rfl) (by kernel_rfl) (by kernel_rfl) (by kernel_rfl)
theorem c211 : CFn Try.prog rn (DJ Try.prog rn) Try.f70 n211 := cfn_ok [] (by kernel_rfl) (by kernel_rfl) (by kernel_rfl) (by kernel_rfl)
theorem c212 : CFn Try.prog rn (DJ Try.prog rn) Try.f71 n212 := cfn_ok [] (by kernel_rfl) (by kernel_rfl) (by kernel_rfl) (by kernel_rfl)
theorem all : AllOk Try.prog rn N0 tbl 0 :=
  ⟨ok_none rfl,
   ok_none rfl,
   ok_none rfl,
   ok_none rfl,
   ok_none rfl,
   ok_none rfl,
   ok_some rfl Try.func6 c236,
   ok_none rfl,
   ok_some rfl Try.func8 c7,
   ok_some rfl Try.func9 c196,
   ok_none rfl,
   ok_some rfl Try.func11 c195,
   ok_some rfl Try.func12 c197,
   ok_some rfl Try.func13 c4,
   ok_some rfl Try.func14 c5,
   ok_some rfl Try.func15 c200,
   ok_some rfl Try.func16 c201,
   ok_some rfl Try.func17 c199,
   ok_some rfl Try.func18 c13,
   ok_some rfl Try.func19 c198,
   ok_some rfl Try.func20 c237,
   ok_some rfl Try.func21 c238,
   ok_some rfl Try.func22 c239,
   ok_some rfl Try.func23 c240,
   ok_some rfl Try.func24 c241,
   ok_some rfl Try.func25 c242,
   ok_some rfl Try.func26 c2,
   ok_some rfl Try.func27 c19,
   ok_some rfl Try.func28 c15,
   ok_some rfl Try.func29 c20,
   ok_some rfl Try.func30 c3,
   ok_some rfl Try.func31 c21,
   ok_some rfl Try.func32 c74,
   ok_some rfl Try.func33 c202,
   ok_some rfl Try.func34 c203,
   ok_some rfl Try.func35 c18,
   ok_some rfl Try.func36 c204,
   ok_some rfl Try.func37 c205,
   ok_some rfl Try.func38 c12,
   ok_some rfl Try.func39 c244,
   ok_some rfl Try.func40 c44,
   ok_some rfl Try.func41 c22,
   ok_some rfl Try.func42 c17,
   ok_some rfl Try.func43 c83,
   ok_some rfl Try.func44 c82,
   ok_some rfl Try.func45 c207,
   ok_some rfl Try.func46 c206,
   ok_some rfl Try.func47 c46,
   ok_some rfl Try.func48 c11,
   ok_some rfl Try.func49 c87,
   ok_some rfl Try.func50 c88,
   ok_some rfl Try.func51 c89,
   ok_some rfl Try.func52 c90,
   ok_some rfl Try.func53 c91,
   ok_some rfl Try.func54 c92,
   ok_some rfl Try.func55 c93,
   ok_some rfl Try.func56 c94,
   ok_some rfl Try.func57 c95,
   ok_some rfl Try.func58 c96,
   ok_some rfl Try.func59 c97,
   ok_some rfl Try.func60 c208,
   ok_some rfl Try.func61 c47,
   ok_some rfl Try.func62 c107,
   ok_some rfl Try.func63 c108,
   ok_some rfl Try.func64 c109,
   ok_some rfl Try.func65 c110,
   ok_some rfl Try.func66 c111,
   ok_some rfl Try.func67 c209,
   ok_some rfl Try.func68 c210,
   ok_some rfl Try.func69 c115,
   ok_some rfl Try.func70 c211,
   ok_some rfl Try.func71 c212,
   ok_none rfl,
   ok_none rfl,
   ok_none rfl,
   ok_none rfl,
   ok_none rfl,
   ok_none rfl,
   ok_none rfl,
   ok_none rfl,
   ok_none rfl,
   ok_none rfl,
   ok_none rfl,
   ok_none rfl,
   ok_none rfl,
   ok_none rfl,
   ok_none rfl,
   ok_none rfl, trivial⟩
theorem mixed : Try.prog.follows .mixedOrders = true := by kernel_rfl
theorem hprog0 : HProg Try.prog rn (DJ Try.prog rn) N0 := hprog_of all rfl
theorem awake_true : isTrue (exCall N0 100 30 (rn 16) [] ⟨[], 0⟩) = true := by decide +kernel
theorem awake_given : PrimFn Try.prog 16 Try.f16 awakeN := closed_prim hprog0 mixed (by kernel_rfl) (by kernel_rfl) awake_true
theorem hprog : HProg Try.prog rn (DJ Try.prog rn) N := hprog_with hprog0 Try.func16 awake_given (by decide +kernel) (by decide)
end Camp.S
