/- Functions of the program, as the machine runs them. Printed by a program of mine (ncode.py). The seat's program is what the machine runs. Printed by a program of mine (seatgen.py). -/
import Derived.Test.YtnfonckiekjgdaaEngF
import Derived.Test.YtnfonckiekjgdaaProg

set_option linter.unnecessarySimpa false
set_option linter.unusedVariables false
set_option linter.unusedSimpArgs false
set_option linter.unusedSectionVars false
/-! CnAlf -/
namespace Camp
open Go
def bs (l : List UInt8) : ByteArray := ⟨⟨l⟩⟩
/-- campanile/campanilelaw22.AllocForms -/
def n213 : NF := ⟨49, [10],
 .seq (.region [
  ⟨(some 5), (.box true 5 (.t 0)), none⟩,
  ⟨(some 6), (.box true 5 (.t 1)), none⟩,
  ⟨(some 10), (.mov (.c (.c (.bool false)))), none⟩])
 (.seq (.kill [2, 3, 4, 5, 6] 2) (.seq (.seq (.region [
  ⟨(some 14), (.mov (.t 4)), none⟩,
  ⟨(some 15), (.call 214 [(.t 14)]), none⟩,
  ⟨(some 16), (.un .not (.t 15)), none⟩])
 (.seq (.kill [2, 3, 4, 5, 6, 16] 2) (.cond (.t 16)
 (.seq (.region [
   ⟨(some 17), (.call 119 []), none⟩,
   ⟨(some 10), (.mov (.t 17)), none⟩])
  (.ret))
 (.skip))))
 (.seq (.kill [2, 3, 4, 5, 6] 2) (.seq (.region [
  ⟨(some 19), (.mov (.t 4)), none⟩,
  ⟨(some 20), (.call 215 [(.t 19)]), none⟩,
  ⟨(some 18), (.mov (.t 20)), none⟩,
  ⟨(some 21), (.ext (.t 18) 0), none⟩,
  ⟨(some 22), (.ext (.t 18) 1), none⟩,
  ⟨(some 23), (.ext (.t 18) 2), none⟩,
  ⟨(some 12), (.box true 16 (.c (.agg [.nils, .nils, .nils, .nils, .nils, .nils, .nils, .nils, .nils, .nils, .nils, .nils, .nils, .nils, .nils, .nils]))), none⟩,
  ⟨(some 11), (.mov (.t 21)), none⟩,
  ⟨none, (.store 16 (.t 12) (.t 22)), none⟩,
  ⟨(some 13), (.mov (.t 23)), none⟩])
 (.seq (.kill [2, 3, 5, 6, 11, 12, 13] 3) (.seq (.draw 0 [
  ⟨0, none, ⟨(some 24), (.load (some 5) (.t 5)), none⟩, []⟩,
  ⟨1, none, ⟨(some 25), (.load (some 5) (.t 6)), none⟩, []⟩,
  ⟨2, none, ⟨(some 26), (.mov (.t 2)), none⟩, []⟩,
  ⟨3, none, ⟨(some 27), (.mov (.t 3)), none⟩, []⟩,
  ⟨5, none, ⟨(some 29), (.load (some 5) (.t 5)), none⟩, []⟩,
  ⟨6, none, ⟨(some 30), (.load (some 5) (.t 6)), none⟩, []⟩,
  ⟨7, none, ⟨(some 31), (.mov (.t 2)), none⟩, []⟩,
  ⟨8, none, ⟨(some 32), (.mov (.t 3)), none⟩, []⟩,
  ⟨4, none, ⟨(some 28), (.call 118 [(.t 24), (.t 25), (.t 26), (.t 27)]), none⟩, [(5, ⟨(some 29), (.load (some 5) (.t 5)), none⟩), (6, ⟨(some 30), (.load (some 5) (.t 6)), none⟩)]⟩,
  ⟨9, none, ⟨(some 33), (.call 216 [(.t 29), (.t 30), (.t 31), (.t 32)]), none⟩, []⟩,
  ⟨10, none, ⟨(some 34), (.bin .eql .bool (.t 28) (.t 33)), none⟩, []⟩,
  ⟨11, none, ⟨(some 35), (.mov (.t 34)), none⟩, []⟩,
  ⟨12, none, ⟨(some 36), (.mov (.t 11)), (some (35, true))⟩, []⟩,
  ⟨14, none, ⟨(some 38), (.mov (.t 13)), (some (35, true))⟩, []⟩,
  ⟨15, none, ⟨(some 39), (.bin .eql .num (.t 38) (.c (.c (.int .i64 0)))), (some (35, true))⟩, []⟩,
  ⟨13, none, ⟨(some 37), (.call 120 [(.t 36)]), (some (35, true))⟩, []⟩,
  ⟨16, none, ⟨(some 40), (.mov (.t 39)), (some (35, true))⟩, []⟩,
  ⟨17, none, ⟨(some 41), (.load (some 16) (.t 12)), (some (40, true))⟩, []⟩,
  ⟨18, none, ⟨(some 42), (.call 217 [(.t 41)]), (some (40, true))⟩, []⟩,
  ⟨19, none, ⟨(some 43), (.pick (.t 40) (.t 42) (.c (.c (.bool false)))), (some (35, true))⟩, []⟩,
  ⟨20, none, ⟨(some 44), (.bin .eql .bool (.t 37) (.t 43)), (some (35, true))⟩, []⟩,
  ⟨21, none, ⟨(some 45), (.pick (.t 35) (.t 44) (.c (.c (.bool false)))), none⟩, []⟩,
  ⟨22, none, ⟨(some 46), (.mov (.t 45)), none⟩, []⟩,
  ⟨23, none, ⟨(some 47), (.call 119 []), (some (46, true))⟩, []⟩,
  ⟨24, none, ⟨(some 48), (.pick (.t 46) (.t 47) (.c (.c (.bool false)))), none⟩, []⟩,
  ⟨25, none, ⟨(some 10), (.mov (.t 48)), none⟩, []⟩])
 (.ret)))))))⟩
/-- campanile/campanilelaw22.few -/
def n214 : NF := ⟨25, [2],
 .seq (.region [
  ⟨(some 2), (.mov (.c (.c (.bool false)))), none⟩])
 (.seq (.kill [0] 0) (.seq (.region [
  ⟨(some 3), (.mov (.c (.c (.int .i64 0)))), none⟩])
 (.seq (.kill [0, 3] 0) (.seq (.seq (.region [
  ⟨(some 6), (.mov (.t 0)), none⟩,
  ⟨(some 7), (.len .sl (.t 6)), none⟩,
  ⟨(some 8), (.mov (.c (.c (.int .i64 0)))), none⟩])
 (.seq (.kill [3, 6, 7, 8] 0) (.block 0 (.loop (.seq (.kill [3, 6, 7, 8] 0) (.seq (.region [
   ⟨(some 9), (.bin .lss .num (.t 8) (.t 7)), none⟩])
  (.seq (.kill [3, 6, 7, 8, 9] 0) (.seq (.cond (.t 9)
  (.skip)
  (.exit 0))
  (.seq (.kill [3, 6, 7, 8] 0) (.seq (.block 1 (.seq (.region [
   ⟨(some 10), (.mov (.t 8)), none⟩,
   ⟨(some 11), (.iaddr 2 (.t 6) (.t 8)), none⟩,
   ⟨(some 12), (.load (some 2) (.t 11)), none⟩,
   ⟨(some 5), (.box true 2 (.c (.agg [(.int .i64 0), .nils]))), none⟩,
   ⟨(some 4), (.mov (.t 10)), none⟩,
   ⟨none, (.store 2 (.t 5) (.t 12)), none⟩])
  (.seq (.kill [3, 4, 5, 6, 7, 8] 1) (.seq (.region [
   ⟨(some 13), (.mov (.t 3)), none⟩,
   ⟨(some 14), (.faddr 1 (.t 5)), none⟩,
   ⟨(some 15), (.load none (.t 14)), none⟩,
   ⟨(some 16), (.len .sl (.t 15)), none⟩,
   ⟨(some 17), (.bin .add .num (.t 13) (.t 16)), none⟩,
   ⟨(some 3), (.mov (.t 17)), none⟩])
  (.seq (.kill [3, 4, 6, 7, 8] 0) (.seq (.region [
   ⟨(some 18), (.mov (.t 4)), none⟩,
   ⟨(some 19), (.bin .geq .num (.t 18) (.c (.c (.int .i64 30)))), none⟩,
   ⟨(some 20), (.mov (.t 19)), none⟩,
   ⟨(some 21), (.mov (.t 3)), (some (20, false))⟩,
   ⟨(some 22), (.bin .gtr .num (.t 21) (.c (.c (.int .i64 200)))), (some (20, false))⟩,
   ⟨(some 23), (.pick (.t 20) (.c (.c (.bool true))) (.t 22)), none⟩])
  (.seq (.kill [3, 6, 7, 8, 23] 0) (.cond (.t 23)
  (.seq (.region [
    ⟨(some 2), (.mov (.c (.c (.bool false)))), none⟩])
   (.ret))
  (.skip)))))))))
  (.seq (.kill [3, 6, 7, 8] 0) (.region [
   ⟨(some 24), (.bin .add .num (.t 8) (.c (.c (.int .i64 1)))), none⟩,
   ⟨(some 8), (.mov (.t 24)), none⟩]))))))))))))
 (.seq (.kill [] 0) (.seq (.region [
  ⟨(some 2), (.mov (.c (.c (.bool true)))), none⟩])
 (.ret)))))))⟩
/-- campanile/campanilelaw22.awake -/
def n119 : NF := ⟨23, [0],
 .seq (.region [
  ⟨(some 0), (.mov (.c (.c (.bool false)))), none⟩])
 (.seq (.kill [] 0) (.seq (.region [
  ⟨(some 3), (.build [(.int .i64 0), (.int .i64 0), (.int .i64 0), (.int .i64 0), (.int .i64 0)] [(1, (1, (.c (.c (.int .i64 1))))), (3, (1, (.c (.c (.int .i64 1))))), (4, (1, (.c (.c (.int .i64 2)))))]), none⟩,
  ⟨(some 1), (.box true 5 (.c (.agg [(.int .i64 0), (.int .i64 0), (.int .i64 0), (.int .i64 0), (.int .i64 0)]))), none⟩,
  ⟨none, (.store 5 (.t 1) (.t 3)), none⟩])
 (.seq (.kill [1] 1) (.seq (.region [
  ⟨(some 4), (.build [(.int .i64 0), (.int .i64 0), (.int .i64 0), (.int .i64 0), (.int .i64 0)] [(1, (1, (.c (.c (.int .i64 1))))), (3, (1, (.c (.c (.int .i64 2))))), (4, (1, (.c (.c (.int .i64 1)))))]), none⟩,
  ⟨(some 2), (.box true 5 (.c (.agg [(.int .i64 0), (.int .i64 0), (.int .i64 0), (.int .i64 0), (.int .i64 0)]))), none⟩,
  ⟨none, (.store 5 (.t 2) (.t 4)), none⟩])
 (.seq (.kill [1, 2] 2) (.seq (.region [
  ⟨(some 5), (.load (some 5) (.t 1)), none⟩,
  ⟨(some 6), (.load (some 5) (.t 2)), none⟩,
  ⟨(some 7), (.call 118 [(.t 5), (.t 6), (.c (.c (.int .i64 1))), (.c (.c (.int .i64 2)))]), none⟩,
  ⟨(some 8), (.un .not (.t 7)), none⟩,
  ⟨(some 9), (.mov (.t 8)), none⟩,
  ⟨(some 10), (.load (some 5) (.t 1)), (some (9, true))⟩,
  ⟨(some 11), (.load (some 5) (.t 1)), (some (9, true))⟩,
  ⟨(some 12), (.call 118 [(.t 10), (.t 11), (.c (.c (.int .i64 1))), (.c (.c (.int .i64 3)))]), (some (9, true))⟩,
  ⟨(some 13), (.pick (.t 9) (.t 12) (.c (.c (.bool false)))), none⟩,
  ⟨(some 14), (.mov (.t 13)), none⟩,
  ⟨(some 15), .mkmap, (some (14, true))⟩,
  ⟨(some 16), (.load (some 5) (.t 1)), (some (14, true))⟩,
  ⟨(some 17), (.bslice false 5 1 [(.int .i64 0), (.int .i64 0), (.int .i64 0), (.int .i64 0), (.int .i64 0)] [(0, (5, (.t 16)))]), (some (14, true))⟩,
  ⟨none, (.mupd (.int .i64) (.t 15) (.c (.c (.int .i64 1))) (.t 17)), (some (14, true))⟩,
  ⟨(some 18), (.load (some 5) (.t 2)), (some (14, true))⟩,
  ⟨(some 19), (.bslice false 5 1 [(.int .i64 0), (.int .i64 0), (.int .i64 0), (.int .i64 0), (.int .i64 0)] [(0, (5, (.t 18)))]), (some (14, true))⟩,
  ⟨none, (.mupd (.int .i64) (.t 15) (.c (.c (.int .i64 2))) (.t 19)), (some (14, true))⟩,
  ⟨(some 20), (.mov (.t 15)), (some (14, true))⟩,
  ⟨(some 21), (.call 120 [(.t 20)]), (some (14, true))⟩,
  ⟨(some 22), (.pick (.t 14) (.t 21) (.c (.c (.bool false)))), none⟩,
  ⟨(some 0), (.mov (.t 22)), none⟩])
 (.ret)))))))⟩
/-- campanile/campanilelaw22.Map -/
def n215b : Code :=
 .seq (.region [
  ⟨(some 2), (.mov (.c (.c .nilm))), none⟩,
  ⟨(some 3), (.box false 16 (.c (.agg [.nils, .nils, .nils, .nils, .nils, .nils, .nils, .nils, .nils, .nils, .nils, .nils, .nils, .nils, .nils, .nils]))), none⟩,
  ⟨(some 4), (.mov (.c (.c (.int .i64 0)))), none⟩])
 (.seq (.kill [0, 3] 0) (.seq (.region [
  ⟨(some 12), .mkmap, none⟩,
  ⟨(some 5), (.mov (.t 12)), none⟩])
 (.seq (.kill [0, 3, 5] 0) (.seq (.seq (.region [
  ⟨(some 13), (.mov (.t 0)), none⟩,
  ⟨(some 14), (.len .sl (.t 13)), none⟩,
  ⟨(some 15), (.mov (.c (.c (.int .i64 0)))), none⟩])
 (.seq (.kill [3, 5, 13, 14, 15] 0) (.block 0 (.loop (.seq (.kill [3, 5, 13, 14, 15] 0) (.seq (.region [
   ⟨(some 16), (.bin .lss .num (.t 15) (.t 14)), none⟩])
  (.seq (.kill [3, 5, 13, 14, 15, 16] 0) (.seq (.cond (.t 16)
  (.skip)
  (.exit 0))
  (.seq (.kill [3, 5, 13, 14, 15] 0) (.seq (.block 1 (.seq (.region [
   ⟨(some 17), (.iaddr 2 (.t 13) (.t 15)), none⟩,
   ⟨(some 18), (.load (some 2) (.t 17)), none⟩,
   ⟨(some 7), (.box true 2 (.c (.agg [(.int .i64 0), .nils]))), none⟩,
   ⟨none, (.store 2 (.t 7) (.t 18)), none⟩])
  (.seq (.kill [3, 5, 7, 13, 14, 15] 1) (.region [
   ⟨(some 19), (.mov (.t 5)), none⟩,
   ⟨(some 20), (.faddr 0 (.t 7)), none⟩,
   ⟨(some 21), (.load none (.t 20)), none⟩,
   ⟨(some 22), (.faddr 1 (.t 7)), none⟩,
   ⟨(some 23), (.load none (.t 22)), none⟩,
   ⟨none, (.mupd (.int .i64) (.t 19) (.t 21) (.t 23)), none⟩]))))
  (.seq (.kill [3, 5, 13, 14, 15] 0) (.region [
   ⟨(some 24), (.bin .add .num (.t 15) (.c (.c (.int .i64 1)))), none⟩,
   ⟨(some 15), (.mov (.t 24)), none⟩]))))))))))))
 (.seq (.kill [3, 5] 0) (.seq (.region [
  ⟨(some 8), (.box true 16 (.c (.agg [.nils, .nils, .nils, .nils, .nils, .nils, .nils, .nils, .nils, .nils, .nils, .nils, .nils, .nils, .nils, .nils]))), none⟩])
 (.seq (.kill [3, 5, 8] 1) (.seq (.region [
  ⟨(some 9), (.mov (.c (.c (.int .i64 0)))), none⟩])
 (.seq (.kill [3, 5, 8, 9] 1) (.seq (.seq (.region [
  ⟨(some 25), (.mov (.t 5)), none⟩,
  ⟨(some 26), (.range .map (.t 25)), none⟩])
 (.seq (.kill [3, 5, 8, 9, 26] 1) (.block 2 (.loop (.seq (.kill [3, 5, 8, 9, 26] 1) (.seq (.region [
   ⟨(some 27), (.next false (.t 26)), none⟩,
   ⟨(some 28), (.ext (.t 27) 0), none⟩])
  (.seq (.kill [3, 5, 8, 9, 26, 28] 1) (.seq (.cond (.t 28)
  (.skip)
  (.exit 2))
  (.seq (.kill [3, 5, 8, 9, 26] 1) (.block 3 (.seq (.region [
   ⟨(some 29), (.entry (.t 26)), none⟩,
   ⟨(some 30), (.ext (.t 29) 0), none⟩,
   ⟨(some 31), (.ext (.t 29) 1), none⟩,
   ⟨(some 10), (.mov (.t 30)), none⟩,
   ⟨(some 11), (.mov (.t 31)), none⟩])
  (.seq (.kill [3, 5, 8, 9, 10, 11, 26] 1) (.seq (.region [
   ⟨(some 32), (.mov (.t 10)), none⟩,
   ⟨(some 33), (.call 44 [(.t 32)]), none⟩])
  (.seq (.kill [3, 5, 8, 9, 10, 11, 26, 33] 1) (.cond (.t 33)
  (.region [
    ⟨(some 34), (.mov (.t 10)), none⟩,
    ⟨(some 35), (.mov (.t 11)), none⟩,
    ⟨(some 36), (.faddr 0 (.t 8)), none⟩,
    ⟨(some 37), (.iaddrA 16 1 (.t 36) (.t 34)), none⟩,
    ⟨none, (.store 1 (.t 37) (.t 35)), none⟩])
  (.region [
    ⟨(some 38), (.mov (.t 9)), none⟩,
    ⟨(some 39), (.mov (.t 11)), none⟩,
    ⟨(some 40), (.len .sl (.t 39)), none⟩,
    ⟨(some 41), (.bin .add .num (.t 38) (.t 40)), none⟩,
    ⟨(some 9), (.mov (.t 41)), none⟩]))))))))))))))))
 (.seq (.kill [3, 5, 8, 9] 1) (.seq (.draw 0 [
  ⟨0, none, ⟨(some 42), (.mov (.t 5)), none⟩, []⟩,
  ⟨1, none, ⟨(some 43), (.load (some 16) (.t 8)), none⟩, []⟩,
  ⟨2, none, ⟨(some 44), (.mov (.t 9)), none⟩, []⟩,
  ⟨3, none, ⟨(some 2), (.mov (.t 42)), none⟩, []⟩,
  ⟨4, none, ⟨none, (.store 16 (.t 3) (.t 43)), none⟩, []⟩,
  ⟨5, none, ⟨(some 4), (.mov (.t 44)), none⟩, []⟩])
 (.ret)))))))))))))
def n215 : NF := ⟨45, [2, 3, 4], .fin n215b [⟨some 3, .load (some 16) (.t 3), none⟩]⟩
/-- campanile/alloc.Clash -/
def n118 : NF := ⟨80, [8],
 .seq (.region [
  ⟨(some 4), (.box true 5 (.t 0)), none⟩,
  ⟨(some 5), (.box true 5 (.t 1)), none⟩,
  ⟨(some 8), (.mov (.c (.c (.bool false)))), none⟩])
 (.seq (.kill [2, 3, 4, 5] 2) (.seq (.block 0 (.seq (.region [
  ⟨(some 10), (.load (some 5) (.t 4)), none⟩,
  ⟨(some 11), (.call 121 [(.t 10)]), none⟩,
  ⟨(some 12), (.un .not (.t 11)), none⟩,
  ⟨(some 13), (.mov (.t 12)), none⟩,
  ⟨(some 14), (.load (some 5) (.t 5)), (some (13, false))⟩,
  ⟨(some 15), (.call 121 [(.t 14)]), (some (13, false))⟩,
  ⟨(some 16), (.un .not (.t 15)), (some (13, false))⟩,
  ⟨(some 17), (.pick (.t 13) (.c (.c (.bool true))) (.t 16)), none⟩,
  ⟨(some 18), (.mov (.t 17)), none⟩,
  ⟨(some 19), (.mov (.t 2)), (some (18, false))⟩,
  ⟨(some 20), (.call 122 [(.t 19)]), (some (18, false))⟩,
  ⟨(some 21), (.un .not (.t 20)), (some (18, false))⟩,
  ⟨(some 22), (.pick (.t 18) (.c (.c (.bool true))) (.t 21)), none⟩,
  ⟨(some 23), (.mov (.t 22)), none⟩,
  ⟨(some 24), (.mov (.t 3)), (some (23, false))⟩,
  ⟨(some 25), (.call 122 [(.t 24)]), (some (23, false))⟩,
  ⟨(some 26), (.un .not (.t 25)), (some (23, false))⟩,
  ⟨(some 27), (.pick (.t 23) (.c (.c (.bool true))) (.t 26)), none⟩,
  ⟨(some 9), (.mov (.t 27)), none⟩])
 (.seq (.kill [2, 3, 4, 5, 9] 2) (.cond (.t 9)
 (.seq (.region [
   ⟨(some 8), (.mov (.c (.c (.bool true)))), none⟩])
  (.ret))
 (.seq (.region [
   ⟨(some 29), (.faddr 0 (.t 4)), none⟩,
   ⟨(some 30), (.load none (.t 29)), none⟩,
   ⟨(some 31), (.faddr 0 (.t 5)), none⟩,
   ⟨(some 32), (.load none (.t 31)), none⟩,
   ⟨(some 33), (.bin .neq .num (.t 30) (.t 32)), none⟩,
   ⟨(some 34), (.mov (.t 33)), none⟩,
   ⟨(some 35), (.faddr 1 (.t 4)), (some (34, false))⟩,
   ⟨(some 36), (.load none (.t 35)), (some (34, false))⟩,
   ⟨(some 37), (.faddr 1 (.t 5)), (some (34, false))⟩,
   ⟨(some 38), (.load none (.t 37)), (some (34, false))⟩,
   ⟨(some 39), (.bin .neq .num (.t 36) (.t 38)), (some (34, false))⟩,
   ⟨(some 40), (.pick (.t 34) (.c (.c (.bool true))) (.t 39)), none⟩,
   ⟨(some 28), (.mov (.t 40)), none⟩])
  (.seq (.kill [2, 3, 4, 5, 28] 2) (.cond (.t 28)
  (.seq (.region [
    ⟨(some 8), (.mov (.c (.c (.bool false)))), none⟩])
   (.ret))
  (.seq (.region [
    ⟨(some 42), (.mov (.t 2)), none⟩,
    ⟨(some 43), (.mov (.t 3)), none⟩,
    ⟨(some 44), (.bin .eql .num (.t 42) (.t 43)), none⟩,
    ⟨(some 41), (.mov (.t 44)), none⟩])
   (.seq (.kill [2, 3, 4, 5, 41] 2) (.cond (.t 41)
   (.seq (.region [
     ⟨(some 8), (.mov (.c (.c (.bool true)))), none⟩])
    (.ret))
   (.seq (.region [
     ⟨(some 46), (.load (some 5) (.t 4)), none⟩,
     ⟨(some 47), (.load (some 5) (.t 5)), none⟩,
     ⟨(some 48), (.mov (.t 2)), none⟩,
     ⟨(some 49), (.mov (.t 3)), none⟩,
     ⟨(some 50), (.call 123 [(.t 46), (.t 47), (.t 48), (.t 49)]), none⟩,
     ⟨(some 45), (.mov (.t 50)), none⟩])
    (.seq (.kill [2, 3, 4, 5, 45] 2) (.cond (.t 45)
    (.seq (.region [
      ⟨(some 8), (.mov (.c (.c (.bool false)))), none⟩])
     (.ret))
    (.skip))))))))))))))
 (.seq (.kill [2, 3, 4, 5] 2) (.seq (.region [
  ⟨(some 51), (.faddr 2 (.t 4)), none⟩,
  ⟨(some 52), (.load none (.t 51)), none⟩,
  ⟨(some 53), (.faddr 2 (.t 5)), none⟩,
  ⟨(some 54), (.load none (.t 53)), none⟩,
  ⟨(some 55), (.bin .eql .num (.t 52) (.t 54)), none⟩,
  ⟨(some 56), (.mov (.t 55)), none⟩,
  ⟨(some 57), (.mov (.t 2)), (some (56, false))⟩,
  ⟨(some 58), (.faddr 4 (.t 5)), (some (56, false))⟩,
  ⟨(some 59), (.load none (.t 58)), (some (56, false))⟩,
  ⟨(some 60), (.bin .eql .num (.t 57) (.t 59)), (some (56, false))⟩,
  ⟨(some 61), (.pick (.t 56) (.c (.c (.bool true))) (.t 60)), none⟩,
  ⟨(some 62), (.mov (.t 61)), none⟩,
  ⟨(some 63), (.mov (.t 3)), (some (62, false))⟩,
  ⟨(some 64), (.faddr 4 (.t 4)), (some (62, false))⟩,
  ⟨(some 65), (.load none (.t 64)), (some (62, false))⟩,
  ⟨(some 66), (.bin .eql .num (.t 63) (.t 65)), (some (62, false))⟩,
  ⟨(some 67), (.pick (.t 62) (.c (.c (.bool true))) (.t 66)), none⟩,
  ⟨(some 68), (.mov (.t 67)), none⟩,
  ⟨(some 69), (.faddr 4 (.t 4)), (some (68, false))⟩,
  ⟨(some 70), (.load none (.t 69)), (some (68, false))⟩,
  ⟨(some 71), (.faddr 4 (.t 5)), (some (68, false))⟩,
  ⟨(some 72), (.load none (.t 71)), (some (68, false))⟩,
  ⟨(some 73), (.bin .eql .num (.t 70) (.t 72)), (some (68, false))⟩,
  ⟨(some 74), (.mov (.t 73)), (some (68, false))⟩,
  ⟨(some 75), (.faddr 4 (.t 4)), (some (74, true))⟩,
  ⟨(some 76), (.load none (.t 75)), (some (74, true))⟩,
  ⟨(some 77), (.bin .neq .num (.t 76) (.c (.c (.int .i64 64)))), (some (74, true))⟩,
  ⟨(some 78), (.pick (.t 74) (.t 77) (.c (.c (.bool false)))), (some (68, false))⟩,
  ⟨(some 79), (.pick (.t 68) (.c (.c (.bool true))) (.t 78)), none⟩,
  ⟨(some 8), (.mov (.t 79)), none⟩])
 (.ret)))))⟩
/-- campanile/campanileref18.Clash -/
def n216 : NF := ⟨100, [8],
 .seq (.region [
  ⟨(some 4), (.box true 5 (.t 0)), none⟩,
  ⟨(some 5), (.box true 5 (.t 1)), none⟩,
  ⟨(some 8), (.mov (.c (.c (.bool false)))), none⟩])
 (.seq (.kill [2, 3, 4, 5] 2) (.seq (.seq (.region [
  ⟨(some 9), (.load (some 5) (.t 4)), none⟩,
  ⟨(some 10), (.call 218 [(.t 9)]), none⟩,
  ⟨(some 11), (.un .not (.t 10)), none⟩,
  ⟨(some 12), (.mov (.t 11)), none⟩,
  ⟨(some 13), (.load (some 5) (.t 5)), (some (12, false))⟩,
  ⟨(some 14), (.call 218 [(.t 13)]), (some (12, false))⟩,
  ⟨(some 15), (.un .not (.t 14)), (some (12, false))⟩,
  ⟨(some 16), (.pick (.t 12) (.c (.c (.bool true))) (.t 15)), none⟩,
  ⟨(some 17), (.mov (.t 16)), none⟩,
  ⟨(some 18), (.mov (.t 2)), (some (17, false))⟩,
  ⟨(some 19), (.call 44 [(.t 18)]), (some (17, false))⟩,
  ⟨(some 20), (.un .not (.t 19)), (some (17, false))⟩,
  ⟨(some 21), (.pick (.t 17) (.c (.c (.bool true))) (.t 20)), none⟩,
  ⟨(some 22), (.mov (.t 21)), none⟩,
  ⟨(some 23), (.mov (.t 3)), (some (22, false))⟩,
  ⟨(some 24), (.call 44 [(.t 23)]), (some (22, false))⟩,
  ⟨(some 25), (.un .not (.t 24)), (some (22, false))⟩,
  ⟨(some 26), (.pick (.t 22) (.c (.c (.bool true))) (.t 25)), none⟩])
 (.seq (.kill [2, 3, 4, 5, 26] 2) (.cond (.t 26)
 (.seq (.region [
   ⟨(some 8), (.mov (.c (.c (.bool true)))), none⟩])
  (.ret))
 (.skip))))
 (.seq (.kill [2, 3, 4, 5] 2) (.seq (.seq (.region [
  ⟨(some 27), (.faddr 0 (.t 4)), none⟩,
  ⟨(some 28), (.load none (.t 27)), none⟩,
  ⟨(some 29), (.faddr 0 (.t 5)), none⟩,
  ⟨(some 30), (.load none (.t 29)), none⟩,
  ⟨(some 31), (.bin .neq .num (.t 28) (.t 30)), none⟩,
  ⟨(some 32), (.mov (.t 31)), none⟩,
  ⟨(some 33), (.faddr 1 (.t 4)), (some (32, false))⟩,
  ⟨(some 34), (.load none (.t 33)), (some (32, false))⟩,
  ⟨(some 35), (.faddr 1 (.t 5)), (some (32, false))⟩,
  ⟨(some 36), (.load none (.t 35)), (some (32, false))⟩,
  ⟨(some 37), (.bin .neq .num (.t 34) (.t 36)), (some (32, false))⟩,
  ⟨(some 38), (.pick (.t 32) (.c (.c (.bool true))) (.t 37)), none⟩])
 (.seq (.kill [2, 3, 4, 5, 38] 2) (.cond (.t 38)
 (.seq (.region [
   ⟨(some 8), (.mov (.c (.c (.bool false)))), none⟩])
  (.ret))
 (.skip))))
 (.seq (.kill [2, 3, 4, 5] 2) (.seq (.seq (.region [
  ⟨(some 39), (.mov (.t 2)), none⟩,
  ⟨(some 40), (.mov (.t 3)), none⟩,
  ⟨(some 41), (.bin .neq .num (.t 39) (.t 40)), none⟩,
  ⟨(some 42), (.mov (.t 41)), none⟩,
  ⟨(some 43), (.faddr 4 (.t 4)), (some (42, true))⟩,
  ⟨(some 44), (.load none (.t 43)), (some (42, true))⟩,
  ⟨(some 45), (.mov (.t 3)), (some (42, true))⟩,
  ⟨(some 46), (.bin .eql .num (.t 44) (.t 45)), (some (42, true))⟩,
  ⟨(some 47), (.pick (.t 42) (.t 46) (.c (.c (.bool false)))), none⟩,
  ⟨(some 48), (.mov (.t 47)), none⟩,
  ⟨(some 49), (.faddr 4 (.t 5)), (some (48, true))⟩,
  ⟨(some 50), (.load none (.t 49)), (some (48, true))⟩,
  ⟨(some 51), (.mov (.t 2)), (some (48, true))⟩,
  ⟨(some 52), (.bin .eql .num (.t 50) (.t 51)), (some (48, true))⟩,
  ⟨(some 53), (.pick (.t 48) (.t 52) (.c (.c (.bool false)))), none⟩,
  ⟨(some 54), (.mov (.t 53)), none⟩,
  ⟨(some 55), (.faddr 2 (.t 4)), (some (54, true))⟩,
  ⟨(some 56), (.load none (.t 55)), (some (54, true))⟩,
  ⟨(some 57), (.faddr 2 (.t 5)), (some (54, true))⟩,
  ⟨(some 58), (.load none (.t 57)), (some (54, true))⟩,
  ⟨(some 59), (.bin .eql .num (.t 56) (.t 58)), (some (54, true))⟩,
  ⟨(some 60), (.pick (.t 54) (.t 59) (.c (.c (.bool false)))), none⟩,
  ⟨(some 61), (.mov (.t 60)), none⟩,
  ⟨(some 62), (.load (some 5) (.t 4)), (some (61, true))⟩,
  ⟨(some 63), (.load (some 5) (.t 5)), (some (61, true))⟩,
  ⟨(some 64), (.call 219 [(.t 62), (.t 63)]), (some (61, true))⟩,
  ⟨(some 65), (.pick (.t 61) (.t 64) (.c (.c (.bool false)))), none⟩])
 (.seq (.kill [2, 3, 4, 5, 65] 2) (.cond (.t 65)
 (.seq (.region [
   ⟨(some 8), (.mov (.c (.c (.bool false)))), none⟩])
  (.ret))
 (.skip))))
 (.seq (.kill [2, 3, 4, 5] 2) (.seq (.region [
  ⟨(some 66), (.mov (.t 2)), none⟩,
  ⟨(some 67), (.mov (.t 3)), none⟩,
  ⟨(some 68), (.bin .eql .num (.t 66) (.t 67)), none⟩,
  ⟨(some 69), (.mov (.t 68)), none⟩,
  ⟨(some 70), (.faddr 2 (.t 4)), (some (69, false))⟩,
  ⟨(some 71), (.load none (.t 70)), (some (69, false))⟩,
  ⟨(some 72), (.faddr 2 (.t 5)), (some (69, false))⟩,
  ⟨(some 73), (.load none (.t 72)), (some (69, false))⟩,
  ⟨(some 74), (.bin .eql .num (.t 71) (.t 73)), (some (69, false))⟩,
  ⟨(some 75), (.pick (.t 69) (.c (.c (.bool true))) (.t 74)), none⟩,
  ⟨(some 76), (.mov (.t 75)), none⟩,
  ⟨(some 77), (.faddr 4 (.t 4)), (some (76, false))⟩,
  ⟨(some 78), (.load none (.t 77)), (some (76, false))⟩,
  ⟨(some 79), (.mov (.t 3)), (some (76, false))⟩,
  ⟨(some 80), (.bin .eql .num (.t 78) (.t 79)), (some (76, false))⟩,
  ⟨(some 81), (.pick (.t 76) (.c (.c (.bool true))) (.t 80)), none⟩,
  ⟨(some 82), (.mov (.t 81)), none⟩,
  ⟨(some 83), (.faddr 4 (.t 5)), (some (82, false))⟩,
  ⟨(some 84), (.load none (.t 83)), (some (82, false))⟩,
  ⟨(some 85), (.mov (.t 2)), (some (82, false))⟩,
  ⟨(some 86), (.bin .eql .num (.t 84) (.t 85)), (some (82, false))⟩,
  ⟨(some 87), (.pick (.t 82) (.c (.c (.bool true))) (.t 86)), none⟩,
  ⟨(some 88), (.mov (.t 87)), none⟩,
  ⟨(some 89), (.faddr 4 (.t 4)), (some (88, false))⟩,
  ⟨(some 90), (.load none (.t 89)), (some (88, false))⟩,
  ⟨(some 91), (.faddr 4 (.t 5)), (some (88, false))⟩,
  ⟨(some 92), (.load none (.t 91)), (some (88, false))⟩,
  ⟨(some 93), (.bin .eql .num (.t 90) (.t 92)), (some (88, false))⟩,
  ⟨(some 94), (.mov (.t 93)), (some (88, false))⟩,
  ⟨(some 95), (.faddr 4 (.t 4)), (some (94, true))⟩,
  ⟨(some 96), (.load none (.t 95)), (some (94, true))⟩,
  ⟨(some 97), (.bin .neq .num (.t 96) (.c (.c (.int .i64 64)))), (some (94, true))⟩,
  ⟨(some 98), (.pick (.t 94) (.t 97) (.c (.c (.bool false)))), (some (88, false))⟩,
  ⟨(some 99), (.pick (.t 88) (.c (.c (.bool true))) (.t 98)), none⟩,
  ⟨(some 8), (.mov (.t 99)), none⟩])
 (.ret)))))))))⟩
/-- campanile/alloc.Clean -/
def n120 : NF := ⟨48, [2],
 .seq (.region [
  ⟨(some 2), (.mov (.c (.c (.bool false)))), none⟩])
 (.seq (.kill [0] 0) (.seq (.region [
  ⟨(some 3), (.mov (.c (.c .nils))), none⟩])
 (.seq (.kill [0, 3] 0) (.seq (.seq (.region [
  ⟨(some 8), (.mov (.t 0)), none⟩,
  ⟨(some 9), (.range .map (.t 8)), none⟩])
 (.seq (.kill [3, 9] 0) (.block 0 (.loop (.seq (.kill [3, 9] 0) (.seq (.region [
   ⟨(some 10), (.next false (.t 9)), none⟩,
   ⟨(some 11), (.ext (.t 10) 0), none⟩])
  (.seq (.kill [3, 9, 11] 0) (.seq (.cond (.t 11)
  (.skip)
  (.exit 0))
  (.seq (.kill [3, 9] 0) (.block 1 (.seq (.region [
   ⟨(some 12), (.entry (.t 9)), none⟩,
   ⟨(some 13), (.ext (.t 12) 0), none⟩,
   ⟨(some 14), (.ext (.t 12) 1), none⟩,
   ⟨(some 4), (.mov (.t 13)), none⟩,
   ⟨(some 5), (.mov (.t 14)), none⟩])
  (.seq (.kill [3, 4, 5, 9] 0) (.seq (.region [
   ⟨(some 15), (.mov (.t 5)), none⟩,
   ⟨(some 16), (.len .sl (.t 15)), none⟩,
   ⟨(some 17), (.mov (.c (.c (.int .i64 0)))), none⟩])
  (.seq (.kill [3, 4, 9, 15, 16, 17] 0) (.block 2 (.loop (.seq (.kill [3, 4, 9, 15, 16, 17] 0) (.seq (.region [
    ⟨(some 18), (.bin .lss .num (.t 17) (.t 16)), none⟩])
   (.seq (.kill [3, 4, 9, 15, 16, 17, 18] 0) (.seq (.cond (.t 18)
   (.skip)
   (.exit 2))
   (.seq (.kill [3, 4, 9, 15, 16, 17] 0) (.seq (.block 3 (.seq (.region [
    ⟨(some 19), (.iaddr 5 (.t 15) (.t 17)), none⟩,
    ⟨(some 20), (.load (some 5) (.t 19)), none⟩,
    ⟨(some 7), (.box true 5 (.c (.agg [(.int .i64 0), (.int .i64 0), (.int .i64 0), (.int .i64 0), (.int .i64 0)]))), none⟩,
    ⟨none, (.store 5 (.t 7) (.t 20)), none⟩])
   (.seq (.kill [3, 4, 7, 9, 15, 16, 17] 1) (.seq (.seq (.region [
    ⟨(some 21), (.mov (.t 4)), none⟩,
    ⟨(some 22), (.call 122 [(.t 21)]), none⟩,
    ⟨(some 23), (.un .not (.t 22)), none⟩,
    ⟨(some 24), (.mov (.t 23)), none⟩,
    ⟨(some 25), (.load (some 5) (.t 7)), (some (24, false))⟩,
    ⟨(some 26), (.call 121 [(.t 25)]), (some (24, false))⟩,
    ⟨(some 27), (.un .not (.t 26)), (some (24, false))⟩,
    ⟨(some 28), (.pick (.t 24) (.c (.c (.bool true))) (.t 27)), none⟩,
    ⟨(some 29), (.mov (.t 28)), none⟩,
    ⟨(some 30), (.faddr 3 (.t 7)), (some (29, false))⟩,
    ⟨(some 31), (.load none (.t 30)), (some (29, false))⟩,
    ⟨(some 32), (.bin .and .num (.t 31) (.c (.c (.int .i64 4)))), (some (29, false))⟩,
    ⟨(some 33), (.bin .neq .num (.t 32) (.c (.c (.int .i64 0)))), (some (29, false))⟩,
    ⟨(some 34), (.pick (.t 29) (.c (.c (.bool true))) (.t 33)), none⟩,
    ⟨(some 35), (.mov (.t 34)), none⟩,
    ⟨(some 36), (.mov (.t 3)), (some (35, false))⟩,
    ⟨(some 37), (.mov (.t 4)), (some (35, false))⟩,
    ⟨(some 38), (.load (some 5) (.t 7)), (some (35, false))⟩,
    ⟨(some 39), (.call 126 [(.t 36), (.t 37), (.t 38)]), (some (35, false))⟩,
    ⟨(some 40), (.pick (.t 35) (.c (.c (.bool true))) (.t 39)), none⟩])
   (.seq (.kill [3, 4, 7, 9, 15, 16, 17, 40] 1) (.cond (.t 40)
   (.seq (.region [
     ⟨(some 2), (.mov (.c (.c (.bool false)))), none⟩])
    (.ret))
   (.skip))))
   (.seq (.kill [3, 4, 7, 9, 15, 16, 17] 1) (.region [
    ⟨(some 41), (.mov (.t 3)), none⟩,
    ⟨(some 42), (.mov (.t 4)), none⟩,
    ⟨(some 43), (.load (some 5) (.t 7)), none⟩,
    ⟨(some 44), (.build [(.int .i64 0), (.int .i64 0), (.int .i64 0), (.int .i64 0), (.int .i64 0), (.int .i64 0)] [(0, (1, (.t 42))), (1, (5, (.t 43)))]), none⟩,
    ⟨(some 45), (.bslice true 6 1 [(.int .i64 0), (.int .i64 0), (.int .i64 0), (.int .i64 0), (.int .i64 0), (.int .i64 0)] [(0, (6, (.t 44)))]), none⟩,
    ⟨(some 46), (.app 6 48 (.t 41) (.t 45)), none⟩,
    ⟨(some 3), (.mov (.t 46)), none⟩]))))))
   (.seq (.kill [3, 4, 9, 15, 16, 17] 0) (.region [
    ⟨(some 47), (.bin .add .num (.t 17) (.c (.c (.int .i64 1)))), none⟩,
    ⟨(some 17), (.mov (.t 47)), none⟩]))))))))))))))))))))))))
 (.seq (.kill [] 0) (.seq (.region [
  ⟨(some 2), (.mov (.c (.c (.bool true)))), none⟩])
 (.ret)))))))⟩
/-- campanile/campanileref18.Clean -/
def n217 : NF := ⟨70, [2],
 .seq (.region [
  ⟨(some 1), (.box true 16 (.t 0)), none⟩,
  ⟨(some 2), (.mov (.c (.c (.bool false)))), none⟩])
 (.seq (.kill [1] 1) (.seq (.seq (.region [
  ⟨(some 12), (.faddr 0 (.t 1)), none⟩,
  ⟨(some 13), (.load (some 16) (.t 12)), none⟩,
  ⟨(some 14), (.mov (.c (.c (.int .i64 0)))), none⟩])
 (.seq (.kill [1, 13, 14] 1) (.block 0 (.loop (.seq (.kill [1, 13, 14] 1) (.seq (.region [
   ⟨(some 15), (.bin .lss .num (.t 14) (.c (.c (.int .i64 16)))), none⟩])
  (.seq (.kill [1, 13, 14, 15] 1) (.seq (.cond (.t 15)
  (.skip)
  (.exit 0))
  (.seq (.kill [1, 13, 14] 1) (.seq (.block 1 (.seq (.region [
   ⟨(some 16), (.mov (.t 14)), none⟩,
   ⟨(some 17), (.index 16 1 false (.t 13) (.t 14)), none⟩,
   ⟨(some 3), (.mov (.t 16)), none⟩,
   ⟨(some 4), (.mov (.t 17)), none⟩])
  (.seq (.kill [1, 3, 4, 13, 14] 1) (.seq (.region [
   ⟨(some 18), (.mov (.t 4)), none⟩,
   ⟨(some 19), (.len .sl (.t 18)), none⟩,
   ⟨(some 20), (.mov (.c (.c (.int .i64 0)))), none⟩])
  (.seq (.kill [1, 3, 4, 13, 14, 18, 19, 20] 1) (.block 2 (.loop (.seq (.kill [1, 3, 4, 13, 14, 18, 19, 20] 1) (.seq (.region [
    ⟨(some 21), (.bin .lss .num (.t 20) (.t 19)), none⟩])
   (.seq (.kill [1, 3, 4, 13, 14, 18, 19, 20, 21] 1) (.seq (.cond (.t 21)
   (.skip)
   (.exit 2))
   (.seq (.kill [1, 3, 4, 13, 14, 18, 19, 20] 1) (.seq (.block 3 (.seq (.region [
    ⟨(some 22), (.mov (.t 20)), none⟩,
    ⟨(some 23), (.iaddr 5 (.t 18) (.t 20)), none⟩,
    ⟨(some 24), (.load (some 5) (.t 23)), none⟩,
    ⟨(some 6), (.box true 5 (.c (.agg [(.int .i64 0), (.int .i64 0), (.int .i64 0), (.int .i64 0), (.int .i64 0)]))), none⟩,
    ⟨(some 5), (.mov (.t 22)), none⟩,
    ⟨none, (.store 5 (.t 6) (.t 24)), none⟩])
   (.seq (.kill [1, 3, 4, 5, 6, 13, 14, 18, 19, 20] 2) (.seq (.seq (.region [
    ⟨(some 25), (.load (some 5) (.t 6)), none⟩,
    ⟨(some 26), (.call 218 [(.t 25)]), none⟩,
    ⟨(some 27), (.un .not (.t 26)), none⟩,
    ⟨(some 28), (.mov (.t 27)), none⟩,
    ⟨(some 29), (.faddr 3 (.t 6)), (some (28, false))⟩,
    ⟨(some 30), (.load none (.t 29)), (some (28, false))⟩,
    ⟨(some 31), (.bin .and .num (.t 30) (.c (.c (.int .i64 4)))), (some (28, false))⟩,
    ⟨(some 32), (.bin .neq .num (.t 31) (.c (.c (.int .i64 0)))), (some (28, false))⟩,
    ⟨(some 33), (.pick (.t 28) (.c (.c (.bool true))) (.t 32)), none⟩])
   (.seq (.kill [1, 3, 4, 5, 6, 13, 14, 18, 19, 20, 33] 2) (.cond (.t 33)
   (.seq (.region [
     ⟨(some 2), (.mov (.c (.c (.bool false)))), none⟩])
    (.ret))
   (.skip))))
   (.seq (.kill [1, 3, 4, 5, 6, 13, 14, 18, 19, 20] 2) (.seq (.seq (.region [
    ⟨(some 34), (.mov (.t 4)), none⟩,
    ⟨(some 35), (.mov (.t 5)), none⟩,
    ⟨(some 36), (.slice 5 (.t 34) none (some (.t 35)) none), none⟩,
    ⟨(some 37), (.len .sl (.t 36)), none⟩,
    ⟨(some 38), (.mov (.c (.c (.int .i64 0)))), none⟩])
   (.seq (.kill [1, 3, 4, 6, 13, 14, 18, 19, 20, 36, 37, 38] 2) (.block 4 (.loop (.seq (.kill [1, 3, 4, 6, 13, 14, 18, 19, 20, 36, 37, 38] 2) (.seq (.region [
     ⟨(some 39), (.bin .lss .num (.t 38) (.t 37)), none⟩])
    (.seq (.kill [1, 3, 4, 6, 13, 14, 18, 19, 20, 36, 37, 38, 39] 2) (.seq (.cond (.t 39)
    (.skip)
    (.exit 4))
    (.seq (.kill [1, 3, 4, 6, 13, 14, 18, 19, 20, 36, 37, 38] 2) (.seq (.block 5 (.seq (.region [
     ⟨(some 40), (.iaddr 5 (.t 36) (.t 38)), none⟩,
     ⟨(some 41), (.load (some 5) (.t 40)), none⟩,
     ⟨(some 8), (.box true 5 (.c (.agg [(.int .i64 0), (.int .i64 0), (.int .i64 0), (.int .i64 0), (.int .i64 0)]))), none⟩,
     ⟨none, (.store 5 (.t 8) (.t 41)), none⟩])
    (.seq (.kill [1, 3, 4, 6, 8, 13, 14, 18, 19, 20, 36, 37, 38] 3) (.seq (.region [
     ⟨(some 42), (.load (some 5) (.t 6)), none⟩,
     ⟨(some 43), (.load (some 5) (.t 8)), none⟩,
     ⟨(some 44), (.mov (.t 3)), none⟩,
     ⟨(some 45), (.mov (.t 3)), none⟩,
     ⟨(some 46), (.call 216 [(.t 42), (.t 43), (.t 44), (.t 45)]), none⟩])
    (.seq (.kill [1, 3, 4, 6, 13, 14, 18, 19, 20, 36, 37, 38, 46] 2) (.cond (.t 46)
    (.seq (.region [
      ⟨(some 2), (.mov (.c (.c (.bool false)))), none⟩])
     (.ret))
    (.skip)))))))
    (.seq (.kill [1, 3, 4, 6, 13, 14, 18, 19, 20, 36, 37, 38] 2) (.region [
     ⟨(some 47), (.bin .add .num (.t 38) (.c (.c (.int .i64 1)))), none⟩,
     ⟨(some 38), (.mov (.t 47)), none⟩]))))))))))))
   (.seq (.kill [1, 3, 4, 6, 13, 14, 18, 19, 20] 2) (.seq (.region [
    ⟨(some 48), (.mov (.t 3)), none⟩,
    ⟨(some 49), (.mov (.c (.c (.int .i64 0)))), none⟩])
   (.seq (.kill [1, 3, 4, 6, 13, 14, 18, 19, 20, 48, 49] 2) (.block 6 (.loop (.seq (.kill [1, 3, 4, 6, 13, 14, 18, 19, 20, 48, 49] 2) (.seq (.region [
     ⟨(some 50), (.bin .lss .num (.t 49) (.t 48)), none⟩])
    (.seq (.kill [1, 3, 4, 6, 13, 14, 18, 19, 20, 48, 49, 50] 2) (.seq (.cond (.t 50)
    (.skip)
    (.exit 6))
    (.seq (.kill [1, 3, 4, 6, 13, 14, 18, 19, 20, 48, 49] 2) (.seq (.block 7 (.seq (.region [
     ⟨(some 51), (.mov (.t 49)), none⟩,
     ⟨(some 9), (.mov (.t 51)), none⟩])
    (.seq (.kill [1, 3, 4, 6, 9, 13, 14, 18, 19, 20, 48, 49] 2) (.seq (.region [
     ⟨(some 52), (.mov (.t 9)), none⟩,
     ⟨(some 53), (.faddr 0 (.t 1)), none⟩,
     ⟨(some 54), (.iaddrA 16 1 (.t 53) (.t 52)), none⟩,
     ⟨(some 55), (.load none (.t 54)), none⟩,
     ⟨(some 56), (.len .sl (.t 55)), none⟩,
     ⟨(some 57), (.mov (.c (.c (.int .i64 0)))), none⟩])
    (.seq (.kill [1, 3, 4, 6, 9, 13, 14, 18, 19, 20, 48, 49, 55, 56, 57] 2) (.block 8 (.loop (.seq (.kill [1, 3, 4, 6, 9, 13, 14, 18, 19, 20, 48, 49, 55, 56, 57] 2) (.seq (.region [
      ⟨(some 58), (.bin .lss .num (.t 57) (.t 56)), none⟩])
     (.seq (.kill [1, 3, 4, 6, 9, 13, 14, 18, 19, 20, 48, 49, 55, 56, 57, 58] 2) (.seq (.cond (.t 58)
     (.skip)
     (.exit 8))
     (.seq (.kill [1, 3, 4, 6, 9, 13, 14, 18, 19, 20, 48, 49, 55, 56, 57] 2) (.seq (.block 9 (.seq (.region [
      ⟨(some 59), (.iaddr 5 (.t 55) (.t 57)), none⟩,
      ⟨(some 60), (.load (some 5) (.t 59)), none⟩,
      ⟨(some 11), (.box true 5 (.c (.agg [(.int .i64 0), (.int .i64 0), (.int .i64 0), (.int .i64 0), (.int .i64 0)]))), none⟩,
      ⟨none, (.store 5 (.t 11) (.t 60)), none⟩])
     (.seq (.kill [1, 3, 4, 6, 9, 11, 13, 14, 18, 19, 20, 48, 49, 55, 56, 57] 3) (.seq (.region [
      ⟨(some 61), (.load (some 5) (.t 6)), none⟩,
      ⟨(some 62), (.load (some 5) (.t 11)), none⟩,
      ⟨(some 63), (.mov (.t 3)), none⟩,
      ⟨(some 64), (.mov (.t 9)), none⟩,
      ⟨(some 65), (.call 216 [(.t 61), (.t 62), (.t 63), (.t 64)]), none⟩])
     (.seq (.kill [1, 3, 4, 6, 9, 13, 14, 18, 19, 20, 48, 49, 55, 56, 57, 65] 2) (.cond (.t 65)
     (.seq (.region [
       ⟨(some 2), (.mov (.c (.c (.bool false)))), none⟩])
      (.ret))
     (.skip)))))))
     (.seq (.kill [1, 3, 4, 6, 9, 13, 14, 18, 19, 20, 48, 49, 55, 56, 57] 2) (.region [
      ⟨(some 66), (.bin .add .num (.t 57) (.c (.c (.int .i64 1)))), none⟩,
      ⟨(some 57), (.mov (.t 66)), none⟩])))))))))))))))
    (.seq (.kill [1, 3, 4, 6, 13, 14, 18, 19, 20, 48, 49] 2) (.region [
     ⟨(some 67), (.bin .add .num (.t 49) (.c (.c (.int .i64 1)))), none⟩,
     ⟨(some 49), (.mov (.t 67)), none⟩])))))))))))))))))))
   (.seq (.kill [1, 3, 4, 13, 14, 18, 19, 20] 1) (.region [
    ⟨(some 68), (.bin .add .num (.t 20) (.c (.c (.int .i64 1)))), none⟩,
    ⟨(some 20), (.mov (.t 68)), none⟩])))))))))))))))
  (.seq (.kill [1, 13, 14] 1) (.region [
   ⟨(some 69), (.bin .add .num (.t 14) (.c (.c (.int .i64 1)))), none⟩,
   ⟨(some 14), (.mov (.t 69)), none⟩]))))))))))))
 (.seq (.kill [] 0) (.seq (.region [
  ⟨(some 2), (.mov (.c (.c (.bool true)))), none⟩])
 (.ret)))))⟩
/-- campanile/campanileref1.Node -/
def n44 : NF := ⟨9, [2],
 .seq (.region [
  ⟨(some 2), (.mov (.c (.c (.bool false)))), none⟩])
 (.seq (.kill [0] 0) (.seq (.region [
  ⟨(some 3), (.mov (.t 0)), none⟩,
  ⟨(some 4), (.bin .geq .num (.t 3) (.c (.c (.int .i64 0)))), none⟩,
  ⟨(some 5), (.mov (.t 4)), none⟩,
  ⟨(some 6), (.mov (.t 0)), (some (5, true))⟩,
  ⟨(some 7), (.bin .lss .num (.t 6) (.c (.c (.int .i64 16)))), (some (5, true))⟩,
  ⟨(some 8), (.pick (.t 5) (.t 7) (.c (.c (.bool false)))), none⟩,
  ⟨(some 2), (.mov (.t 8)), none⟩])
 (.ret)))⟩
/-- campanile/cell.May -/
def n121 : NF := ⟨54, [2],
 .seq (.region [
  ⟨(some 1), (.box true 5 (.t 0)), none⟩,
  ⟨(some 2), (.mov (.c (.c (.bool false)))), none⟩])
 (.seq (.kill [1] 1) (.seq (.region [
  ⟨(some 5), (.faddr 3 (.t 1)), none⟩,
  ⟨(some 6), (.load none (.t 5)), none⟩,
  ⟨(some 7), (.bin .and .num (.t 6) (.c (.c (.int .i64 3)))), none⟩,
  ⟨(some 8), (.bin .neq .num (.t 7) (.c (.c (.int .i64 0)))), none⟩,
  ⟨(some 3), (.mov (.t 8)), none⟩])
 (.seq (.kill [1, 3] 1) (.seq (.region [
  ⟨(some 9), (.faddr 3 (.t 1)), none⟩,
  ⟨(some 10), (.load none (.t 9)), none⟩,
  ⟨(some 11), (.bin .and .num (.t 10) (.c (.c (.int .i64 4)))), none⟩,
  ⟨(some 12), (.bin .neq .num (.t 11) (.c (.c (.int .i64 0)))), none⟩,
  ⟨(some 13), (.mov (.t 12)), none⟩,
  ⟨(some 14), (.faddr 3 (.t 1)), (some (13, true))⟩,
  ⟨(some 15), (.load none (.t 14)), (some (13, true))⟩,
  ⟨(some 16), (.bin .and .num (.t 15) (.c (.c (.int .i64 1)))), (some (13, true))⟩,
  ⟨(some 17), (.bin .eql .num (.t 16) (.c (.c (.int .i64 0)))), (some (13, true))⟩,
  ⟨(some 18), (.pick (.t 13) (.t 17) (.c (.c (.bool false)))), none⟩,
  ⟨(some 4), (.mov (.t 18)), none⟩])
 (.seq (.kill [1, 3, 4] 1) (.seq (.region [
  ⟨(some 19), (.faddr 0 (.t 1)), none⟩,
  ⟨(some 20), (.load none (.t 19)), none⟩,
  ⟨(some 21), (.call 124 [(.t 20), (.c (.c (.int .i64 0))), (.c (.c (.int .i64 3)))]), none⟩,
  ⟨(some 22), (.mov (.t 21)), none⟩,
  ⟨(some 23), (.faddr 1 (.t 1)), (some (22, true))⟩,
  ⟨(some 24), (.load none (.t 23)), (some (22, true))⟩,
  ⟨(some 25), (.call 124 [(.t 24), (.c (.c (.int .i64 0))), (.c (.c (.int .i64 199)))]), (some (22, true))⟩,
  ⟨(some 26), (.pick (.t 22) (.t 25) (.c (.c (.bool false)))), none⟩,
  ⟨(some 27), (.mov (.t 26)), none⟩,
  ⟨(some 28), (.faddr 2 (.t 1)), (some (27, true))⟩,
  ⟨(some 29), (.load none (.t 28)), (some (27, true))⟩,
  ⟨(some 30), (.call 124 [(.t 29), (.c (.c (.int .i64 0))), (.c (.c (.int .i64 15)))]), (some (27, true))⟩,
  ⟨(some 31), (.pick (.t 27) (.t 30) (.c (.c (.bool false)))), none⟩,
  ⟨(some 32), (.mov (.t 31)), none⟩,
  ⟨(some 33), (.faddr 3 (.t 1)), (some (32, true))⟩,
  ⟨(some 34), (.load none (.t 33)), (some (32, true))⟩,
  ⟨(some 35), (.call 124 [(.t 34), (.c (.c (.int .i64 1))), (.c (.c (.int .i64 15)))]), (some (32, true))⟩,
  ⟨(some 36), (.pick (.t 32) (.t 35) (.c (.c (.bool false)))), none⟩,
  ⟨(some 37), (.mov (.t 36)), none⟩,
  ⟨(some 38), (.mov (.t 3)), (some (37, true))⟩,
  ⟨(some 39), (.pick (.t 37) (.t 38) (.c (.c (.bool false)))), none⟩,
  ⟨(some 40), (.mov (.t 39)), none⟩,
  ⟨(some 41), (.mov (.t 4)), (some (40, true))⟩,
  ⟨(some 42), (.un .not (.t 41)), (some (40, true))⟩,
  ⟨(some 43), (.pick (.t 40) (.t 42) (.c (.c (.bool false)))), none⟩,
  ⟨(some 44), (.mov (.t 43)), none⟩,
  ⟨(some 45), (.faddr 4 (.t 1)), (some (44, true))⟩,
  ⟨(some 46), (.load none (.t 45)), (some (44, true))⟩,
  ⟨(some 47), (.call 124 [(.t 46), (.c (.c (.int .i64 0))), (.c (.c (.int .i64 15)))]), (some (44, true))⟩,
  ⟨(some 48), (.mov (.t 47)), (some (44, true))⟩,
  ⟨(some 49), (.faddr 4 (.t 1)), (some (48, false))⟩,
  ⟨(some 50), (.load none (.t 49)), (some (48, false))⟩,
  ⟨(some 51), (.bin .eql .num (.t 50) (.c (.c (.int .i64 64)))), (some (48, false))⟩,
  ⟨(some 52), (.pick (.t 48) (.c (.c (.bool true))) (.t 51)), (some (44, true))⟩,
  ⟨(some 53), (.pick (.t 44) (.t 52) (.c (.c (.bool false)))), none⟩,
  ⟨(some 2), (.mov (.t 53)), none⟩])
 (.ret)))))))⟩
/-- campanile/alloc.node -/
def n122 : NF := ⟨9, [2],
 .seq (.region [
  ⟨(some 2), (.mov (.c (.c (.bool false)))), none⟩])
 (.seq (.kill [0] 0) (.seq (.region [
  ⟨(some 3), (.mov (.t 0)), none⟩,
  ⟨(some 4), (.bin .geq .num (.t 3) (.c (.c (.int .i64 0)))), none⟩,
  ⟨(some 5), (.mov (.t 4)), none⟩,
  ⟨(some 6), (.mov (.t 0)), (some (5, true))⟩,
  ⟨(some 7), (.bin .lss .num (.t 6) (.c (.c (.int .i64 16)))), (some (5, true))⟩,
  ⟨(some 8), (.pick (.t 5) (.t 7) (.c (.c (.bool false)))), none⟩,
  ⟨(some 2), (.mov (.t 8)), none⟩])
 (.ret)))⟩
/-- campanile/alloc.link -/
def n123 : NF := ⟨44, [8],
 .seq (.region [
  ⟨(some 4), (.box true 5 (.t 0)), none⟩,
  ⟨(some 5), (.box true 5 (.t 1)), none⟩,
  ⟨(some 8), (.mov (.c (.c (.bool false)))), none⟩])
 (.seq (.kill [2, 3, 4, 5] 2) (.seq (.region [
  ⟨(some 10), (.load (some 5) (.t 4)), none⟩,
  ⟨(some 11), (.call 125 [(.t 10), (.c (.c (.int .i64 1)))]), none⟩,
  ⟨(some 12), (.mov (.t 11)), none⟩,
  ⟨(some 13), (.load (some 5) (.t 5)), (some (12, true))⟩,
  ⟨(some 14), (.call 125 [(.t 13), (.c (.c (.int .i64 2)))]), (some (12, true))⟩,
  ⟨(some 15), (.pick (.t 12) (.t 14) (.c (.c (.bool false)))), none⟩,
  ⟨(some 16), (.mov (.t 15)), none⟩,
  ⟨(some 17), (.load (some 5) (.t 4)), (some (16, false))⟩,
  ⟨(some 18), (.call 125 [(.t 17), (.c (.c (.int .i64 2)))]), (some (16, false))⟩,
  ⟨(some 19), (.mov (.t 18)), (some (16, false))⟩,
  ⟨(some 20), (.load (some 5) (.t 5)), (some (19, true))⟩,
  ⟨(some 21), (.call 125 [(.t 20), (.c (.c (.int .i64 1)))]), (some (19, true))⟩,
  ⟨(some 22), (.pick (.t 19) (.t 21) (.c (.c (.bool false)))), (some (16, false))⟩,
  ⟨(some 23), (.pick (.t 16) (.c (.c (.bool true))) (.t 22)), none⟩,
  ⟨(some 9), (.mov (.t 23)), none⟩])
 (.seq (.kill [2, 3, 4, 5, 9] 2) (.seq (.region [
  ⟨(some 24), (.faddr 4 (.t 4)), none⟩,
  ⟨(some 25), (.load none (.t 24)), none⟩,
  ⟨(some 26), (.mov (.t 3)), none⟩,
  ⟨(some 27), (.bin .eql .num (.t 25) (.t 26)), none⟩,
  ⟨(some 28), (.mov (.t 27)), none⟩,
  ⟨(some 29), (.faddr 4 (.t 5)), (some (28, true))⟩,
  ⟨(some 30), (.load none (.t 29)), (some (28, true))⟩,
  ⟨(some 31), (.mov (.t 2)), (some (28, true))⟩,
  ⟨(some 32), (.bin .eql .num (.t 30) (.t 31)), (some (28, true))⟩,
  ⟨(some 33), (.pick (.t 28) (.t 32) (.c (.c (.bool false)))), none⟩,
  ⟨(some 34), (.mov (.t 33)), none⟩,
  ⟨(some 35), (.faddr 2 (.t 4)), (some (34, true))⟩,
  ⟨(some 36), (.load none (.t 35)), (some (34, true))⟩,
  ⟨(some 37), (.faddr 2 (.t 5)), (some (34, true))⟩,
  ⟨(some 38), (.load none (.t 37)), (some (34, true))⟩,
  ⟨(some 39), (.bin .eql .num (.t 36) (.t 38)), (some (34, true))⟩,
  ⟨(some 40), (.pick (.t 34) (.t 39) (.c (.c (.bool false)))), none⟩,
  ⟨(some 41), (.mov (.t 40)), none⟩,
  ⟨(some 42), (.mov (.t 9)), (some (41, true))⟩,
  ⟨(some 43), (.pick (.t 41) (.t 42) (.c (.c (.bool false)))), none⟩,
  ⟨(some 8), (.mov (.t 43)), none⟩])
 (.ret)))))⟩
/-- campanile/campanileref8.MayCell -/
def n218 : NF := ⟨69, [2],
 .seq (.region [
  ⟨(some 1), (.box true 5 (.t 0)), none⟩,
  ⟨(some 2), (.mov (.c (.c (.bool false)))), none⟩])
 (.seq (.kill [1] 1) (.seq (.region [
  ⟨(some 3), (.faddr 0 (.t 1)), none⟩,
  ⟨(some 4), (.load none (.t 3)), none⟩,
  ⟨(some 5), (.bin .geq .num (.t 4) (.c (.c (.int .i64 0)))), none⟩,
  ⟨(some 6), (.mov (.t 5)), none⟩,
  ⟨(some 7), (.faddr 0 (.t 1)), (some (6, true))⟩,
  ⟨(some 8), (.load none (.t 7)), (some (6, true))⟩,
  ⟨(some 9), (.bin .lss .num (.t 8) (.c (.c (.int .i64 4)))), (some (6, true))⟩,
  ⟨(some 10), (.pick (.t 6) (.t 9) (.c (.c (.bool false)))), none⟩,
  ⟨(some 11), (.mov (.t 10)), none⟩,
  ⟨(some 12), (.faddr 1 (.t 1)), (some (11, true))⟩,
  ⟨(some 13), (.load none (.t 12)), (some (11, true))⟩,
  ⟨(some 14), (.bin .geq .num (.t 13) (.c (.c (.int .i64 0)))), (some (11, true))⟩,
  ⟨(some 15), (.pick (.t 11) (.t 14) (.c (.c (.bool false)))), none⟩,
  ⟨(some 16), (.mov (.t 15)), none⟩,
  ⟨(some 17), (.faddr 1 (.t 1)), (some (16, true))⟩,
  ⟨(some 18), (.load none (.t 17)), (some (16, true))⟩,
  ⟨(some 19), (.bin .lss .num (.t 18) (.c (.c (.int .i64 200)))), (some (16, true))⟩,
  ⟨(some 20), (.pick (.t 16) (.t 19) (.c (.c (.bool false)))), none⟩,
  ⟨(some 21), (.mov (.t 20)), none⟩,
  ⟨(some 22), (.faddr 2 (.t 1)), (some (21, true))⟩,
  ⟨(some 23), (.load none (.t 22)), (some (21, true))⟩,
  ⟨(some 24), (.bin .geq .num (.t 23) (.c (.c (.int .i64 0)))), (some (21, true))⟩,
  ⟨(some 25), (.pick (.t 21) (.t 24) (.c (.c (.bool false)))), none⟩,
  ⟨(some 26), (.mov (.t 25)), none⟩,
  ⟨(some 27), (.faddr 2 (.t 1)), (some (26, true))⟩,
  ⟨(some 28), (.load none (.t 27)), (some (26, true))⟩,
  ⟨(some 29), (.bin .leq .num (.t 28) (.c (.c (.int .i64 15)))), (some (26, true))⟩,
  ⟨(some 30), (.pick (.t 26) (.t 29) (.c (.c (.bool false)))), none⟩,
  ⟨(some 31), (.mov (.t 30)), none⟩,
  ⟨(some 32), (.faddr 3 (.t 1)), (some (31, true))⟩,
  ⟨(some 33), (.load none (.t 32)), (some (31, true))⟩,
  ⟨(some 34), (.bin .geq .num (.t 33) (.c (.c (.int .i64 1)))), (some (31, true))⟩,
  ⟨(some 35), (.pick (.t 31) (.t 34) (.c (.c (.bool false)))), none⟩,
  ⟨(some 36), (.mov (.t 35)), none⟩,
  ⟨(some 37), (.faddr 3 (.t 1)), (some (36, true))⟩,
  ⟨(some 38), (.load none (.t 37)), (some (36, true))⟩,
  ⟨(some 39), (.bin .leq .num (.t 38) (.c (.c (.int .i64 15)))), (some (36, true))⟩,
  ⟨(some 40), (.pick (.t 36) (.t 39) (.c (.c (.bool false)))), none⟩,
  ⟨(some 41), (.mov (.t 40)), none⟩,
  ⟨(some 42), (.faddr 3 (.t 1)), (some (41, true))⟩,
  ⟨(some 43), (.load none (.t 42)), (some (41, true))⟩,
  ⟨(some 44), (.bin .and .num (.t 43) (.c (.c (.int .i64 3)))), (some (41, true))⟩,
  ⟨(some 45), (.bin .neq .num (.t 44) (.c (.c (.int .i64 0)))), (some (41, true))⟩,
  ⟨(some 46), (.pick (.t 41) (.t 45) (.c (.c (.bool false)))), none⟩,
  ⟨(some 47), (.mov (.t 46)), none⟩,
  ⟨(some 48), (.faddr 3 (.t 1)), (some (47, true))⟩,
  ⟨(some 49), (.load none (.t 48)), (some (47, true))⟩,
  ⟨(some 50), (.bin .and .num (.t 49) (.c (.c (.int .i64 4)))), (some (47, true))⟩,
  ⟨(some 51), (.bin .eql .num (.t 50) (.c (.c (.int .i64 0)))), (some (47, true))⟩,
  ⟨(some 52), (.mov (.t 51)), (some (47, true))⟩,
  ⟨(some 53), (.faddr 3 (.t 1)), (some (52, false))⟩,
  ⟨(some 54), (.load none (.t 53)), (some (52, false))⟩,
  ⟨(some 55), (.bin .and .num (.t 54) (.c (.c (.int .i64 1)))), (some (52, false))⟩,
  ⟨(some 56), (.bin .neq .num (.t 55) (.c (.c (.int .i64 0)))), (some (52, false))⟩,
  ⟨(some 57), (.pick (.t 52) (.c (.c (.bool true))) (.t 56)), (some (47, true))⟩,
  ⟨(some 58), (.pick (.t 47) (.t 57) (.c (.c (.bool false)))), none⟩,
  ⟨(some 59), (.mov (.t 58)), none⟩,
  ⟨(some 60), (.faddr 4 (.t 1)), (some (59, true))⟩,
  ⟨(some 61), (.load none (.t 60)), (some (59, true))⟩,
  ⟨(some 62), (.call 44 [(.t 61)]), (some (59, true))⟩,
  ⟨(some 63), (.mov (.t 62)), (some (59, true))⟩,
  ⟨(some 64), (.faddr 4 (.t 1)), (some (63, false))⟩,
  ⟨(some 65), (.load none (.t 64)), (some (63, false))⟩,
  ⟨(some 66), (.bin .eql .num (.t 65) (.c (.c (.int .i64 64)))), (some (63, false))⟩,
  ⟨(some 67), (.pick (.t 63) (.c (.c (.bool true))) (.t 66)), (some (59, true))⟩,
  ⟨(some 68), (.pick (.t 59) (.t 67) (.c (.c (.bool false)))), none⟩,
  ⟨(some 2), (.mov (.t 68)), none⟩])
 (.ret)))⟩
/-- campanile/campanileref18.ends -/
def n219 : NF := ⟨30, [4],
 .seq (.region [
  ⟨(some 2), (.box true 5 (.t 0)), none⟩,
  ⟨(some 3), (.box true 5 (.t 1)), none⟩,
  ⟨(some 4), (.mov (.c (.c (.bool false)))), none⟩])
 (.seq (.kill [2, 3] 2) (.seq (.draw 0 [
  ⟨0, none, ⟨(some 7), (.faddr 3 (.t 2)), none⟩, []⟩,
  ⟨1, none, ⟨(some 8), (.load none (.t 7)), none⟩, []⟩,
  ⟨2, none, ⟨(some 9), (.bin .and .num (.t 8) (.c (.c (.int .i64 3)))), none⟩, []⟩,
  ⟨3, none, ⟨(some 10), (.faddr 3 (.t 3)), none⟩, []⟩,
  ⟨4, none, ⟨(some 11), (.load none (.t 10)), none⟩, []⟩,
  ⟨5, none, ⟨(some 12), (.bin .and .num (.t 11) (.c (.c (.int .i64 3)))), none⟩, []⟩,
  ⟨6, none, ⟨(some 5), (.mov (.t 9)), none⟩, []⟩,
  ⟨7, none, ⟨(some 6), (.mov (.t 12)), none⟩, []⟩])
 (.seq (.kill [5, 6] 0) (.seq (.region [
  ⟨(some 13), (.mov (.t 5)), none⟩,
  ⟨(some 14), (.mov (.t 6)), none⟩,
  ⟨(some 15), (.bin .add .num (.t 13) (.t 14)), none⟩,
  ⟨(some 16), (.bin .eql .num (.t 15) (.c (.c (.int .i64 3)))), none⟩,
  ⟨(some 17), (.mov (.t 16)), none⟩,
  ⟨(some 18), (.mov (.t 5)), (some (17, true))⟩,
  ⟨(some 19), (.mov (.t 6)), (some (17, true))⟩,
  ⟨(some 20), (.bin .neq .num (.t 18) (.t 19)), (some (17, true))⟩,
  ⟨(some 21), (.pick (.t 17) (.t 20) (.c (.c (.bool false)))), none⟩,
  ⟨(some 22), (.mov (.t 21)), none⟩,
  ⟨(some 23), (.mov (.t 5)), (some (22, true))⟩,
  ⟨(some 24), (.bin .eql .num (.t 23) (.c (.c (.int .i64 1)))), (some (22, true))⟩,
  ⟨(some 25), (.mov (.t 24)), (some (22, true))⟩,
  ⟨(some 26), (.mov (.t 5)), (some (25, false))⟩,
  ⟨(some 27), (.bin .eql .num (.t 26) (.c (.c (.int .i64 2)))), (some (25, false))⟩,
  ⟨(some 28), (.pick (.t 25) (.c (.c (.bool true))) (.t 27)), (some (22, true))⟩,
  ⟨(some 29), (.pick (.t 22) (.t 28) (.c (.c (.bool false)))), none⟩,
  ⟨(some 4), (.mov (.t 29)), none⟩])
 (.ret)))))⟩
/-- campanile/alloc.clashes -/
def n126 : NF := ⟨10, [6],
 .seq (.region [
  ⟨(some 4), (.box false 1 (.t 1)), none⟩,
  ⟨(some 5), (.box false 5 (.t 2)), none⟩,
  ⟨(some 6), (.mov (.c (.c (.bool false)))), none⟩])
 (.seq (.kill [0, 4, 5] 0) (.seq (.region [
  ⟨(some 7), (.mov (.t 0)), none⟩,
  ⟨(some 8), (.mkfn 127 [(.t 5), (.t 4)]), none⟩,
  ⟨(some 9), (.call 128 [(.t 7), (.t 8)]), none⟩,
  ⟨(some 6), (.mov (.t 9)), none⟩])
 (.ret)))⟩
/-- campanile/cell.in -/
def n124 : NF := ⟨15, [6],
 .seq (.region [
  ⟨(some 6), (.mov (.c (.c (.bool false)))), none⟩])
 (.seq (.kill [0, 1, 2] 0) (.seq (.region [
  ⟨(some 7), (.mov (.t 0)), none⟩,
  ⟨(some 8), (.mov (.t 1)), none⟩,
  ⟨(some 9), (.bin .geq .num (.t 7) (.t 8)), none⟩,
  ⟨(some 10), (.mov (.t 9)), none⟩,
  ⟨(some 11), (.mov (.t 0)), (some (10, true))⟩,
  ⟨(some 12), (.mov (.t 2)), (some (10, true))⟩,
  ⟨(some 13), (.bin .leq .num (.t 11) (.t 12)), (some (10, true))⟩,
  ⟨(some 14), (.pick (.t 10) (.t 13) (.c (.c (.bool false)))), none⟩,
  ⟨(some 6), (.mov (.t 14)), none⟩])
 (.ret)))⟩
/-- campanile/alloc.alone -/
def n125 : NF := ⟨10, [4],
 .seq (.region [
  ⟨(some 2), (.box true 5 (.t 0)), none⟩,
  ⟨(some 4), (.mov (.c (.c (.bool false)))), none⟩])
 (.seq (.kill [1, 2] 1) (.seq (.region [
  ⟨(some 5), (.faddr 3 (.t 2)), none⟩,
  ⟨(some 6), (.load none (.t 5)), none⟩,
  ⟨(some 7), (.bin .and .num (.t 6) (.c (.c (.int .i64 3)))), none⟩,
  ⟨(some 8), (.mov (.t 1)), none⟩,
  ⟨(some 9), (.bin .eql .num (.t 7) (.t 8)), none⟩,
  ⟨(some 4), (.mov (.t 9)), none⟩])
 (.ret)))⟩
/-- slices.ContainsFunc[[]campanile/alloc.held,campanile/alloc.held] -/
def n128 : NF := ⟨9, [4],
 .seq (.region [
  ⟨(some 4), (.mov (.c (.c (.bool false)))), none⟩])
 (.seq (.kill [0, 1] 0) (.seq (.region [
  ⟨(some 5), (.mov (.t 0)), none⟩,
  ⟨(some 6), (.mov (.t 1)), none⟩,
  ⟨(some 7), (.call 129 [(.t 5), (.t 6)]), none⟩,
  ⟨(some 8), (.bin .geq .num (.t 7) (.c (.c (.int .i64 0)))), none⟩,
  ⟨(some 4), (.mov (.t 8)), none⟩])
 (.ret)))⟩
/-- campanile/alloc.clashes$1 -/
def n127 : NF := ⟨12, [4],
 .seq (.region [
  ⟨(some 3), (.box true 6 (.t 0)), none⟩,
  ⟨(some 4), (.mov (.c (.c (.bool false)))), none⟩])
 (.seq (.kill [1, 2, 3] 1) (.seq (.region [
  ⟨(some 5), (.faddr 1 (.t 3)), none⟩,
  ⟨(some 6), (.load (some 5) (.t 5)), none⟩,
  ⟨(some 7), (.load (some 5) (.t 1)), none⟩,
  ⟨(some 8), (.faddr 0 (.t 3)), none⟩,
  ⟨(some 9), (.load none (.t 8)), none⟩,
  ⟨(some 10), (.load none (.t 2)), none⟩,
  ⟨(some 11), (.call 118 [(.t 6), (.t 7), (.t 9), (.t 10)]), none⟩,
  ⟨(some 4), (.mov (.t 11)), none⟩])
 (.ret)))⟩
/-- slices.IndexFunc[[]campanile/alloc.held,campanile/alloc.held] -/
def n129 : NF := ⟨19, [4],
 .seq (.region [
  ⟨(some 4), (.mov (.c (.c (.int .i64 0)))), none⟩])
 (.seq (.kill [0, 1] 0) (.seq (.seq (.region [
  ⟨(some 6), (.mov (.t 0)), none⟩,
  ⟨(some 7), (.len .sl (.t 6)), none⟩,
  ⟨(some 8), (.mov (.c (.c (.int .i64 0)))), none⟩])
 (.seq (.kill [0, 1, 7, 8] 0) (.block 0 (.loop (.seq (.kill [0, 1, 7, 8] 0) (.seq (.region [
   ⟨(some 9), (.bin .lss .num (.t 8) (.t 7)), none⟩])
  (.seq (.kill [0, 1, 7, 8, 9] 0) (.seq (.cond (.t 9)
  (.skip)
  (.exit 0))
  (.seq (.kill [0, 1, 7, 8] 0) (.seq (.block 1 (.seq (.region [
   ⟨(some 10), (.mov (.t 8)), none⟩,
   ⟨(some 5), (.mov (.t 10)), none⟩])
  (.seq (.kill [0, 1, 5, 7, 8] 0) (.seq (.region [
   ⟨(some 11), (.mov (.t 1)), none⟩,
   ⟨(some 12), (.mov (.t 0)), none⟩,
   ⟨(some 13), (.mov (.t 5)), none⟩,
   ⟨(some 14), (.iaddr 6 (.t 12) (.t 13)), none⟩,
   ⟨(some 15), (.load (some 6) (.t 14)), none⟩,
   ⟨(some 16), (.dyn (.t 11) [(.t 15)]), none⟩])
  (.seq (.kill [0, 1, 5, 7, 8, 16] 0) (.cond (.t 16)
  (.seq (.region [
    ⟨(some 17), (.mov (.t 5)), none⟩,
    ⟨(some 4), (.mov (.t 17)), none⟩])
   (.ret))
  (.skip)))))))
  (.seq (.kill [0, 1, 7, 8] 0) (.region [
   ⟨(some 18), (.bin .add .num (.t 8) (.c (.c (.int .i64 1)))), none⟩,
   ⟨(some 8), (.mov (.t 18)), none⟩]))))))))))))
 (.seq (.kill [] 0) (.seq (.region [
  ⟨(some 4), (.mov (.c (.c (.int .i64 (-1))))), none⟩])
 (.ret)))))⟩
def N : Nat → Option NF
  | 44 => some n44
  | 118 => some n118
  | 119 => some n119
  | 120 => some n120
  | 121 => some n121
  | 122 => some n122
  | 123 => some n123
  | 124 => some n124
  | 125 => some n125
  | 126 => some n126
  | 127 => some n127
  | 128 => some n128
  | 129 => some n129
  | 213 => some n213
  | 214 => some n214
  | 215 => some n215
  | 216 => some n216
  | 217 => some n217
  | 218 => some n218
  | 219 => some n219
  | _ => none
end Camp

/-! CsAlf -/
namespace Camp.S
open Go Go.Proofs
def tbl : List Nat := [1000000, 1000000, 1000000, 213, 1000000, 214, 119, 215, 118, 216, 120, 217, 44, 121, 122, 123, 218, 219, 126, 124, 125, 128, 127, 129, 1000000, 1000000, 1000000, 1000000, 1000000, 1000000, 1000000, 1000000, 1000000, 1000000, 1000000, 1000000, 1000000, 1000000, 1000000, 1000000]
abbrev rn : FuncId → Nat := rnOf tbl
theorem c213 : CFn Try.prog rn (DJ Try.prog rn) Try.f3 n213 := cfn_ok [5, 6, 12] (by kernel_rfl) (by kernel_rfl) (by kernel_rfl) (by kernel_rfl)
theorem c214 : CFn Try.prog rn (DJ Try.prog rn) Try.f5 n214 := cfn_ok [5] (by kernel_rfl) (by kernel_rfl) (by kernel_rfl) (by kernel_rfl)
theorem c119 : CFn Try.prog rn (DJ Try.prog rn) Try.f6 n119 := cfn_ok [1, 2] (by kernel_rfl) (by kernel_rfl) (by kernel_rfl) (by kernel_rfl)
theorem c215 : CFnC Try.prog rn (DJ Try.prog rn) Try.f7 n215 := cfn_cell [7, 8] [2] [4] 3 31 (some 16) (by kernel_rfl) (by kernel_rfl) (by kernel_rfl) (by decide) (by decide) (by decide) (by kernel_rfl) (by kernel_rfl)
theorem c118 : CFn Try.prog rn (DJ Try.prog rn) Try.f8 n118 := cfn_ok [4, 5] (by kernel_rfl) (by kernel_rfl) (by kernel_rfl) (by kernel_rfl)
theorem c216 : CFn Try.prog rn (DJ Try.prog rn) Try.f9 n216 := cfn_ok [4, 5] (by kernel_rfl) (by kernel_rfl) (by kernel_rfl) (by kernel_rfl)
theorem c120 : CFn Try.prog rn (DJ Try.prog rn) Try.f10 n120 := cfn_ok [7, 45] (by kernel_rfl) (by kernel_rfl) (by kernel_rfl) (by kernel_rfl)
theorem c217 : CFn Try.prog rn (DJ Try.prog rn) Try.f11 n217 := cfn_ok [1, 6, 8, 11] (by kernel_rfl) (by kernel_rfl) (by kernel_rfl) (by kernel_rfl)
theorem c44 : CFn Try.prog rn (DJ Try.prog rn) Try.f12 n44 := cfn_ok [] (by kernel_rfl) (by kernel_rfl) (by kernel_rfl) (by kernel_rfl)
theorem c121 : CFn Try.prog rn (DJ Try.prog rn) Try.f13 n121 := cfn_ok [1] (by kernel_rfl) (by kernel_rfl) (by kernel_rfl) (by kernel_rfl)
theorem c122 : CFn Try.prog rn (DJ Try.prog rn) Try.f14 n122 := cfn_ok [] (by kernel_rfl) (by kernel_rfl) (by kernel_rfl) (by kernel_rfl)
theorem c123 : CFn Try.prog rn (DJ Try.prog rn) Try.f15 n123 := cfn_ok [4, 5] (by kernel_rfl) (by kernel_rfl) (by kernel_rfl) (by kernel_rfl)
theorem c218 : CFn Try.prog rn (DJ Try.prog rn) Try.f16 n218 := cfn_ok [1] (by kernel_rfl) (by kernel_rfl) (by kernel_rfl) (by kernel_rfl)
theorem c219 : CFn Try.prog rn (DJ Try.prog rn) Try.f17 n219 := cfn_ok [2, 3] (by kernel_rfl) (by kernel_rfl) (by kernel_rfl) (by kernel_rfl)
theorem c126 : CFn Try.prog rn (DJ Try.prog rn) Try.f18 n126 := cfn_ok [] (by kernel_rfl) (by kernel_rfl) (by kernel_rfl) (by kernel_rfl)
theorem c124 : CFn Try.prog rn (DJ Try.prog rn) Try.f19 n124 := cfn_ok [] (by kernel_rfl) (by kernel_rfl) (by kernel_rfl) (by kernel_rfl)
theorem c125 : CFn Try.prog rn (DJ Try.prog rn) Try.f20 n125 := cfn_ok [2] (by kernel_rfl) (by kernel_rfl) (by kernel_rfl) (by kernel_rfl)
theorem c128 : CFn Try.prog rn (DJ Try.prog rn) Try.f21 n128 := cfn_ok [] (by kernel_rfl) (by kernel_rfl) (by kernel_rfl) (by kernel_rfl)
theorem c127 : CFn Try.prog rn (DJ Try.prog rn) Try.f22 n127 := cfn_ok [3] (by kernel_rfl) (by kernel_rfl) (by kernel_rfl) (by kernel_rfl)
theorem c129 : CFn Try.prog rn (DJ Try.prog rn) Try.f23 n129 := cfn_ok [] (by kernel_rfl) (by kernel_rfl) (by kernel_rfl) (by kernel_rfl)
theorem all : AllOk Try.prog rn N tbl 0 :=
  ⟨ok_none rfl,
   ok_none rfl,
   ok_none rfl,
   ok_some rfl Try.func3 c213,
   ok_none rfl,
   ok_some rfl Try.func5 c214,
   ok_some rfl Try.func6 c119,
   ok_cell rfl Try.func7 c215,
   ok_some rfl Try.func8 c118,
   ok_some rfl Try.func9 c216,
   ok_some rfl Try.func10 c120,
   ok_some rfl Try.func11 c217,
   ok_some rfl Try.func12 c44,
   ok_some rfl Try.func13 c121,
   ok_some rfl Try.func14 c122,
   ok_some rfl Try.func15 c123,
   ok_some rfl Try.func16 c218,
   ok_some rfl Try.func17 c219,
   ok_some rfl Try.func18 c126,
   ok_some rfl Try.func19 c124,
   ok_some rfl Try.func20 c125,
   ok_some rfl Try.func21 c128,
   ok_some rfl Try.func22 c127,
   ok_some rfl Try.func23 c129,
   ok_none rfl,
   ok_none rfl,
   ok_none rfl,
   ok_none rfl,
   ok_none rfl,
   ok_none rfl,
   ok_none rfl,
   ok_none rfl,
   ok_none rfl,
   ok_none rfl,
   ok_none rfl,
   ok_none rfl,
   ok_none rfl,
   ok_none rfl,
   ok_none rfl,
   ok_none rfl, trivial⟩
theorem mixed : Try.prog.follows .mixedOrders = true := by kernel_rfl
theorem hprog : HProg Try.prog rn (DJ Try.prog rn) N := hprog_of all rfl
end Camp.S
