/- Functions of the program, as the machine runs them. Printed by a program of mine (ncode.py). -/
import Derived.Test.YtljcbkebdbenbaaEngF
import Derived.Test.YtljcbkebdbenbaaUseA

set_option linter.unnecessarySimpa false
set_option linter.unusedVariables false
set_option linter.unusedSimpArgs false
set_option linter.unusedSectionVars false
/-! CnVer -/
namespace Camp
open Go
def bs (l : List UInt8) : ByteArray := ⟨⟨l⟩⟩
def n230k7 : Code :=
  (.block 7 (.loop (.seq (.kill [0, 5, 6, 8, 9, 10, 46, 47, 48, 151, 152, 153] 2) (.seq (.region [
    ⟨(some 154), (.bin .lss .num (.t 153) (.t 152)), none⟩])
   (.seq (.kill [0, 5, 6, 8, 9, 10, 46, 47, 48, 151, 152, 153, 154] 2) (.seq (.cond (.t 154)
   (.skip)
   (.exit 7))
   (.seq (.kill [0, 5, 6, 8, 9, 10, 46, 47, 48, 151, 152, 153] 2) (.seq (.block 8 (.seq (.region [
    ⟨(some 155), (.mov (.t 153)), none⟩,
    ⟨(some 156), (.iaddr 1 (.t 151) (.t 153)), none⟩,
    ⟨(some 157), (.load none (.t 156)), none⟩,
    ⟨(some 20), (.mov (.t 155)), none⟩,
    ⟨(some 21), (.mov (.t 157)), none⟩])
   (.seq (.kill [0, 5, 6, 8, 9, 10, 20, 21, 46, 47, 48, 151, 152, 153] 2) (.seq (.region [
    ⟨(some 158), (.mov (.t 21)), none⟩,
    ⟨(some 159), (.call 144 [(.t 158)]), none⟩,
    ⟨(some 22), (.mov (.t 159)), none⟩])
   (.seq (.kill [0, 5, 6, 8, 9, 10, 20, 21, 22, 46, 47, 48, 151, 152, 153] 2) (.seq (.draw 0 [
    ⟨0, none, ⟨(some 160), (.mov (.t 22)), none⟩, []⟩,
    ⟨1, none, ⟨(some 161), (.bin .lss .num (.t 160) (.c (.c (.int .i64 0)))), none⟩, []⟩,
    ⟨2, none, ⟨(some 162), (.mov (.t 161)), none⟩, []⟩,
    ⟨3, none, ⟨(some 163), (.mov (.t 22)), (some (162, false))⟩, []⟩,
    ⟨4, none, ⟨(some 164), (.mov (.t 5)), (some (162, false))⟩, []⟩,
    ⟨5, none, ⟨(some 165), (.call 136 [(.t 164)]), (some (162, false))⟩, []⟩,
    ⟨6, none, ⟨(some 166), (.bin .gtr .num (.t 163) (.t 165)), (some (162, false))⟩, []⟩,
    ⟨7, none, ⟨(some 167), (.pick (.t 162) (.c (.c (.bool true))) (.t 166)), none⟩, []⟩,
    ⟨8, none, ⟨(some 168), (.mov (.t 167)), none⟩, []⟩,
    ⟨9, none, ⟨(some 169), (.mov (.t 22)), (some (168, false))⟩, []⟩,
    ⟨10, none, ⟨(some 170), (.bin .gtr .num (.t 169) (.c (.c (.int .i64 80)))), (some (168, false))⟩, []⟩,
    ⟨11, none, ⟨(some 171), (.pick (.t 168) (.c (.c (.bool true))) (.t 170)), none⟩, []⟩,
    ⟨12, none, ⟨(some 172), (.mov (.t 171)), none⟩, []⟩,
    ⟨13, none, ⟨(some 173), (.mov (.t 22)), (some (172, false))⟩, []⟩,
    ⟨14, none, ⟨(some 174), (.bin .gtr .num (.t 173) (.c (.c (.int .i64 0)))), (some (172, false))⟩, []⟩,
    ⟨15, none, ⟨(some 175), (.mov (.t 174)), (some (172, false))⟩, []⟩,
    ⟨16, none, ⟨(some 176), (.mov (.t 21)), (some (175, true))⟩, []⟩,
    ⟨18, none, ⟨(some 178), (.mov (.t 22)), (some (175, true))⟩, []⟩,
    ⟨19, none, ⟨(some 179), (.mov (.t 20)), (some (175, true))⟩, []⟩,
    ⟨20, none, ⟨(some 180), (.iaddrA 81 16 (.t 8) (.t 178)), (some (175, true))⟩, []⟩,
    ⟨21, none, ⟨(some 181), (.faddr 0 (.t 180)), (some (175, true))⟩, []⟩,
    ⟨22, none, ⟨(some 182), (.iaddrA 16 1 (.t 181) (.t 179)), (some (175, true))⟩, []⟩,
    ⟨23, none, ⟨(some 183), (.load none (.t 182)), (some (175, true))⟩, []⟩,
    ⟨17, none, ⟨(some 177), (.call 143 [(.t 176)]), (some (175, true))⟩, [(23, ⟨(some 183), (.load none (.t 182)), (some (175, true))⟩)]⟩,
    ⟨24, none, ⟨(some 184), (.call 229 [(.t 177), (.t 183)]), (some (175, true))⟩, []⟩,
    ⟨25, none, ⟨(some 185), (.un .not (.t 184)), (some (175, true))⟩, []⟩,
    ⟨26, none, ⟨(some 186), (.pick (.t 175) (.t 185) (.c (.c (.bool false)))), (some (172, false))⟩, []⟩,
    ⟨27, none, ⟨(some 187), (.pick (.t 172) (.c (.c (.bool true))) (.t 186)), none⟩, []⟩,
    ⟨28, none, ⟨(some 188), (.mov (.t 187)), none⟩, []⟩,
    ⟨29, none, ⟨(some 189), (.mov (.t 22)), (some (188, false))⟩, []⟩,
    ⟨30, none, ⟨(some 190), (.bin .eql .num (.t 189) (.c (.c (.int .i64 0)))), (some (188, false))⟩, []⟩,
    ⟨31, none, ⟨(some 191), (.mov (.t 190)), (some (188, false))⟩, []⟩,
    ⟨32, none, ⟨(some 192), (.mov (.t 21)), (some (191, true))⟩, []⟩,
    ⟨33, none, ⟨(some 193), (.call 143 [(.t 192)]), (some (191, true))⟩, []⟩,
    ⟨34, none, ⟨(some 194), (.len .sl (.t 193)), (some (191, true))⟩, []⟩,
    ⟨35, none, ⟨(some 195), (.bin .gtr .num (.t 194) (.c (.c (.int .i64 0)))), (some (191, true))⟩, []⟩,
    ⟨36, none, ⟨(some 196), (.pick (.t 191) (.t 195) (.c (.c (.bool false)))), (some (188, false))⟩, []⟩,
    ⟨37, none, ⟨(some 197), (.pick (.t 188) (.c (.c (.bool true))) (.t 196)), none⟩, []⟩,
    ⟨38, none, ⟨(some 198), (.mov (.t 197)), none⟩, []⟩,
    ⟨39, none, ⟨(some 199), (.mov (.t 5)), (some (198, false))⟩, []⟩,
    ⟨40, none, ⟨(some 200), (.mov (.t 20)), (some (198, false))⟩, []⟩,
    ⟨42, none, ⟨(some 202), (.mov (.t 5)), (some (198, false))⟩, []⟩,
    ⟨44, none, ⟨(some 204), (.mov (.t 20)), (some (198, false))⟩, []⟩,
    ⟨41, none, ⟨(some 201), (.call 140 [(.t 199), (.t 200)]), (some (198, false))⟩, []⟩,
    ⟨43, none, ⟨(some 203), (.call 136 [(.t 202)]), (some (198, false))⟩, []⟩,
    ⟨45, none, ⟨(some 205), (.iaddrA 81 16 (.t 8) (.t 203)), (some (198, false))⟩, []⟩,
    ⟨46, none, ⟨(some 206), (.faddr 0 (.t 205)), (some (198, false))⟩, []⟩,
    ⟨47, none, ⟨(some 207), (.iaddrA 16 1 (.t 206) (.t 204)), (some (198, false))⟩, []⟩,
    ⟨48, none, ⟨(some 208), (.load none (.t 207)), (some (198, false))⟩, []⟩,
    ⟨49, none, ⟨(some 209), (.call 229 [(.t 201), (.t 208)]), (some (198, false))⟩, []⟩,
    ⟨50, none, ⟨(some 210), (.un .not (.t 209)), (some (198, false))⟩, []⟩,
    ⟨51, none, ⟨(some 211), (.pick (.t 198) (.c (.c (.bool true))) (.t 210)), none⟩, []⟩])
   (.seq (.kill [0, 5, 6, 8, 9, 10, 46, 47, 48, 151, 152, 153, 211] 2) (.cond (.t 211)
   (.seq (.region [
     ⟨(some 4), (.mov (.c (.c (.bool false)))), none⟩])
    (.ret))
   (.skip)))))))))
   (.seq (.kill [0, 5, 6, 8, 9, 10, 46, 47, 48, 151, 152, 153] 2) (.region [
    ⟨(some 212), (.bin .add .num (.t 153) (.c (.c (.int .i64 1)))), none⟩,
    ⟨(some 153), (.mov (.t 212)), none⟩]))))))))))
/-- campanile/campanilelaw23.VersionTwo -/
def n230 : NF := ⟨215, [4],
 .seq (.region [
  ⟨(some 4), (.mov (.c (.c (.bool false)))), none⟩])
 (.seq (.kill [0, 1] 0) (.seq (.seq (.region [
  ⟨(some 23), (.mov (.t 1)), none⟩,
  ⟨(some 24), (.call 221 [(.t 23)]), none⟩,
  ⟨(some 25), (.un .not (.t 24)), none⟩])
 (.seq (.kill [0, 1, 25] 0) (.cond (.t 25)
 (.seq (.region [
   ⟨(some 26), (.call 137 []), none⟩,
   ⟨(some 4), (.mov (.t 26)), none⟩])
  (.ret))
 (.skip))))
 (.seq (.kill [0, 1] 0) (.seq (.region [
  ⟨(some 27), (.mov (.t 0)), none⟩,
  ⟨(some 28), (.conv (.toInt .u64) (.t 27)), none⟩,
  ⟨(some 29), (.bin .rem .num (.t 28) (.c (.c (.int .u64 6)))), none⟩,
  ⟨(some 30), (.conv (.toInt .i64) (.t 29)), none⟩,
  ⟨(some 31), (.bin .add .num (.c (.c (.int .i64 1))) (.t 30)), none⟩,
  ⟨(some 0), (.mov (.t 31)), none⟩])
 (.seq (.kill [0, 1] 0) (.seq (.region [
  ⟨(some 32), (.mov (.t 0)), none⟩,
  ⟨(some 33), (.call 131 [(.t 32)]), none⟩,
  ⟨(some 5), (.mov (.t 33)), none⟩])
 (.seq (.kill [0, 1, 5] 0) (.seq (.region [
  ⟨(some 34), (.mov (.t 0)), none⟩,
  ⟨(some 35), (.mkslice 1 8 [.nilp] (.t 34) (.t 34)), none⟩,
  ⟨(some 6), (.mov (.t 35)), none⟩])
 (.seq (.kill [0, 1, 5, 6] 0) (.seq (.seq (.region [
  ⟨(some 36), (.mov (.t 6)), none⟩,
  ⟨(some 37), (.len .sl (.t 36)), none⟩,
  ⟨(some 38), (.mov (.c (.c (.int .i64 0)))), none⟩])
 (.seq (.kill [0, 1, 5, 6, 37, 38] 0) (.block 0 (.loop (.seq (.kill [0, 1, 5, 6, 37, 38] 0) (.seq (.region [
   ⟨(some 39), (.bin .lss .num (.t 38) (.t 37)), none⟩])
  (.seq (.kill [0, 1, 5, 6, 37, 38, 39] 0) (.seq (.cond (.t 39)
  (.skip)
  (.exit 0))
  (.seq (.kill [0, 1, 5, 6, 37, 38] 0) (.seq (.block 1 (.seq (.region [
   ⟨(some 40), (.mov (.t 38)), none⟩,
   ⟨(some 7), (.mov (.t 40)), none⟩])
  (.seq (.kill [0, 1, 5, 6, 7, 37, 38] 0) (.region [
   ⟨(some 41), (.mov (.t 6)), none⟩,
   ⟨(some 42), (.mov (.t 7)), none⟩,
   ⟨(some 43), (.call 231 []), none⟩,
   ⟨(some 44), (.iaddr 1 (.t 41) (.t 42)), none⟩,
   ⟨none, (.store 1 (.t 44) (.t 43)), none⟩]))))
  (.seq (.kill [0, 1, 5, 6, 37, 38] 0) (.region [
   ⟨(some 45), (.bin .add .num (.t 38) (.c (.c (.int .i64 1)))), none⟩,
   ⟨(some 38), (.mov (.t 45)), none⟩]))))))))))))
 (.seq (.kill [0, 1, 5, 6] 0) (.seq (.region [
  ⟨(some 8), (.box true 1296 (.c (.agg [.nils, .nils, .nils, .nils, .nils, .nils, .nils, .nils, .nils, .nils, .nils, .nils, .nils, .nils, .nils, .nils, .nils, .nils, .nils, .nils, .nils, .nils, .nils, .nils, .nils, .nils, .nils, .nils, .nils, .nils, .nils, .nils, .nils, .nils, .nils, .nils, .nils, .nils, .nils, .nils, .nils, .nils, .nils, .nils, .nils, .nils, .nils, .nils, .nils, .nils, .nils, .nils, .nils, .nils, .nils, .nils, .nils, .nils, .nils, .nils, .nils, .nils, .nils, .nils, .nils, .nils, .nils, .nils, .nils, .nils, .nils, .nils, .nils, .nils, .nils, .nils, .nils, .nils, .nils, .nils, .nils, .nils, .nils, .nils, .nils, .nils, .nils, .nils, .nils, .nils, .nils, .nils, .nils, .nils, .nils, .nils, .nils, .nils, .nils, .nils, .nils, .nils, .nils, .nils, .nils, .nils, .nils, .nils, .nils, .nils, .nils, .nils, .nils, .nils, .nils, .nils, .nils, .nils, .nils, .nils, .nils, .nils, .nils, .nils, .nils, .nils, .nils, .nils, .nils, .nils, .nils, .nils, .nils, .nils, .nils, .nils, .nils, .nils, .nils, .nils, .nils, .nils, .nils, .nils, .nils, .nils, .nils, .nils, .nils, .nils, .nils, .nils, .nils, .nils, .nils, .nils, .nils, .nils, .nils, .nils, .nils, .nils, .nils, .nils, .nils, .nils, .nils, .nils, .nils, .nils, .nils, .nils, .nils, .nils, .nils, .nils, .nils, .nils, .nils, .nils, .nils, .nils, .nils, .nils, .nils, .nils, .nils, .nils, .nils, .nils, .nils, .nils, .nils, .nils, .nils, .nils, .nils, .nils, .nils, .nils, .nils, .nils, .nils, .nils, .nils, .nils, .nils, .nils, .nils, .nils, .nils, .nils, .nils, .nils, .nils, .nils, .nils, .nils, .nils, .nils, .nils, .nils, .nils, .nils, .nils, .nils, .nils, .nils, .nils, .nils, .nils, .nils, .nils, .nils, .nils, .nils, .nils, .nils, .nils, .nils, .nils, .nils, .nils, .nils, .nils, .nils, .nils, .nils, .nils, .nils, .nils, .nils, .nils, .nils, .nils, .nils, .nils, .nils, .nils, .nils, .nils, .nils, .nils, .nils, .nils, .nils, .nils, .nils, .nils, .nils, .nils, .nils, .nils, .nils, .nils, .nils, .nils, .nils, .nils, .nils, .nils, .nils, .nils, .nils, .nils, .nils, .nils, .nils, .nils, .nils, .nils, .nils, .nils, .nils, .nils, .nils, .nils, .nils, .nils, .nils, .nils, .nils, .nils, .nils, .nils, .nils, .nils, .nils, .nils, .nils, .nils, .nils, .nils, .nils, .nils, .nils, .nils, .nils, .nils, .nils, .nils, .nils, .nils, .nils, .nils, .nils, .nils, .nils, .nils, .nils, .nils, .nils, .nils, .nils, .nils, .nils, .nils, .nils, .nils, .nils, .nils, .nils, .nils, .nils, .nils, .nils, .nils, .nils, .nils, .nils, .nils, .nils, .nils, .nils, .nils, .nils, .nils, .nils, .nils, .nils, .nils, .nils, .nils, .nils, .nils, .nils, .nils, .nils, .nils, .nils, .nils, .nils, .nils, .nils, .nils, .nils, .nils, .nils, .nils, .nils, .nils, .nils, .nils, .nils, .nils, .nils, .nils, .nils, .nils, .nils, .nils, .nils, .nils, .nils, .nils, .nils, .nils, .nils, .nils, .nils, .nils, .nils, .nils, .nils, .nils, .nils, .nils, .nils, .nils, .nils, .nils, .nils, .nils, .nils, .nils, .nils, .nils, .nils, .nils, .nils, .nils, .nils, .nils, .nils, .nils, .nils, .nils, .nils, .nils, .nils, .nils, .nils, .nils, .nils, .nils, .nils, .nils, .nils, .nils, .nils, .nils, .nils, .nils, .nils, .nils, .nils, .nils, .nils, .nils, .nils, .nils, .nils, .nils, .nils, .nils, .nils, .nils, .nils, .nils, .nils, .nils, .nils, .nils, .nils, .nils, .nils, .nils, .nils, .nils, .nils, .nils, .nils, .nils, .nils, .nils, .nils, .nils, .nils, .nils, .nils, .nils, .nils, .nils, .nils, .nils, .nils, .nils, .nils, .nils, .nils, .nils, .nils, .nils, .nils, .nils, .nils, .nils, .nils, .nils, .nils, .nils, .nils, .nils, .nils, .nils, .nils, .nils, .nils, .nils, .nils, .nils, .nils, .nils, .nils, .nils, .nils, .nils, .nils, .nils, .nils, .nils, .nils, .nils, .nils, .nils, .nils, .nils, .nils, .nils, .nils, .nils, .nils, .nils, .nils, .nils, .nils, .nils, .nils, .nils, .nils, .nils, .nils, .nils, .nils, .nils, .nils, .nils, .nils, .nils, .nils, .nils, .nils, .nils, .nils, .nils, .nils, .nils, .nils, .nils, .nils, .nils, .nils, .nils, .nils, .nils, .nils, .nils, .nils, .nils, .nils, .nils, .nils, .nils, .nils, .nils, .nils, .nils, .nils, .nils, .nils, .nils, .nils, .nils, .nils, .nils, .nils, .nils, .nils, .nils, .nils, .nils, .nils, .nils, .nils, .nils, .nils, .nils, .nils, .nils, .nils, .nils, .nils, .nils, .nils, .nils, .nils, .nils, .nils, .nils, .nils, .nils, .nils, .nils, .nils, .nils, .nils, .nils, .nils, .nils, .nils, .nils, .nils, .nils, .nils, .nils, .nils, .nils, .nils, .nils, .nils, .nils, .nils, .nils, .nils, .nils, .nils, .nils, .nils, .nils, .nils, .nils, .nils, .nils, .nils, .nils, .nils, .nils, .nils, .nils, .nils, .nils, .nils, .nils, .nils, .nils, .nils, .nils, .nils, .nils, .nils, .nils, .nils, .nils, .nils, .nils, .nils, .nils, .nils, .nils, .nils, .nils, .nils, .nils, .nils, .nils, .nils, .nils, .nils, .nils, .nils, .nils, .nils, .nils, .nils, .nils, .nils, .nils, .nils, .nils, .nils, .nils, .nils, .nils, .nils, .nils, .nils, .nils, .nils, .nils, .nils, .nils, .nils, .nils, .nils, .nils, .nils, .nils, .nils, .nils, .nils, .nils, .nils, .nils, .nils, .nils, .nils, .nils, .nils, .nils, .nils, .nils, .nils, .nils, .nils, .nils, .nils, .nils, .nils, .nils, .nils, .nils, .nils, .nils, .nils, .nils, .nils, .nils, .nils, .nils, .nils, .nils, .nils, .nils, .nils, .nils, .nils, .nils, .nils, .nils, .nils, .nils, .nils, .nils, .nils, .nils, .nils, .nils, .nils, .nils, .nils, .nils, .nils, .nils, .nils, .nils, .nils, .nils, .nils, .nils, .nils, .nils, .nils, .nils, .nils, .nils, .nils, .nils, .nils, .nils, .nils, .nils, .nils, .nils, .nils, .nils, .nils, .nils, .nils, .nils, .nils, .nils, .nils, .nils, .nils, .nils, .nils, .nils, .nils, .nils, .nils, .nils, .nils, .nils, .nils, .nils, .nils, .nils, .nils, .nils, .nils, .nils, .nils, .nils, .nils, .nils, .nils, .nils, .nils, .nils, .nils, .nils, .nils, .nils, .nils, .nils, .nils, .nils, .nils, .nils, .nils, .nils, .nils, .nils, .nils, .nils, .nils, .nils, .nils, .nils, .nils, .nils, .nils, .nils, .nils, .nils, .nils, .nils, .nils, .nils, .nils, .nils, .nils, .nils, .nils, .nils, .nils, .nils, .nils, .nils, .nils, .nils, .nils, .nils, .nils, .nils, .nils, .nils, .nils, .nils, .nils, .nils, .nils, .nils, .nils, .nils, .nils, .nils, .nils, .nils, .nils, .nils, .nils, .nils, .nils, .nils, .nils, .nils, .nils, .nils, .nils, .nils, .nils, .nils, .nils, .nils, .nils, .nils, .nils, .nils, .nils, .nils, .nils, .nils, .nils, .nils, .nils, .nils, .nils, .nils, .nils, .nils, .nils, .nils, .nils, .nils, .nils, .nils, .nils, .nils, .nils, .nils, .nils, .nils, .nils, .nils, .nils, .nils, .nils, .nils, .nils, .nils, .nils, .nils, .nils, .nils, .nils, .nils, .nils, .nils, .nils, .nils, .nils, .nils, .nils, .nils, .nils, .nils, .nils, .nils, .nils, .nils, .nils, .nils, .nils, .nils, .nils, .nils, .nils, .nils, .nils, .nils, .nils, .nils, .nils, .nils, .nils, .nils, .nils, .nils, .nils, .nils, .nils, .nils, .nils, .nils, .nils, .nils, .nils, .nils, .nils, .nils, .nils, .nils, .nils, .nils, .nils, .nils, .nils, .nils, .nils, .nils, .nils, .nils, .nils, .nils, .nils, .nils, .nils, .nils, .nils, .nils, .nils, .nils, .nils, .nils, .nils, .nils, .nils, .nils, .nils, .nils, .nils, .nils, .nils, .nils, .nils, .nils, .nils, .nils, .nils, .nils, .nils, .nils, .nils, .nils, .nils, .nils, .nils, .nils, .nils, .nils, .nils, .nils, .nils, .nils, .nils, .nils, .nils, .nils, .nils, .nils, .nils, .nils, .nils, .nils, .nils, .nils, .nils, .nils, .nils, .nils, .nils, .nils, .nils, .nils, .nils, .nils, .nils, .nils, .nils, .nils, .nils, .nils, .nils, .nils, .nils, .nils, .nils, .nils, .nils, .nils, .nils, .nils, .nils, .nils, .nils, .nils, .nils, .nils, .nils, .nils, .nils, .nils, .nils, .nils, .nils, .nils, .nils, .nils, .nils, .nils, .nils, .nils, .nils, .nils, .nils, .nils, .nils, .nils, .nils, .nils, .nils, .nils, .nils, .nils, .nils, .nils, .nils, .nils, .nils, .nils, .nils, .nils, .nils, .nils, .nils, .nils, .nils, .nils, .nils, .nils, .nils, .nils, .nils, .nils, .nils, .nils, .nils, .nils, .nils, .nils, .nils, .nils, .nils, .nils, .nils, .nils, .nils, .nils, .nils, .nils, .nils, .nils, .nils, .nils, .nils, .nils, .nils, .nils, .nils, .nils, .nils, .nils, .nils, .nils, .nils, .nils, .nils, .nils, .nils, .nils, .nils, .nils, .nils, .nils, .nils, .nils, .nils, .nils, .nils, .nils, .nils, .nils, .nils, .nils, .nils, .nils, .nils, .nils, .nils, .nils, .nils, .nils, .nils, .nils, .nils, .nils, .nils, .nils, .nils, .nils, .nils, .nils, .nils, .nils, .nils, .nils, .nils, .nils, .nils, .nils, .nils, .nils, .nils, .nils, .nils, .nils, .nils, .nils, .nils, .nils, .nils, .nils, .nils, .nils, .nils, .nils, .nils, .nils, .nils, .nils, .nils, .nils, .nils, .nils, .nils, .nils, .nils, .nils, .nils, .nils, .nils, .nils, .nils, .nils, .nils, .nils, .nils, .nils, .nils, .nils, .nils, .nils, .nils, .nils, .nils, .nils, .nils, .nils, .nils, .nils, .nils, .nils, .nils, .nils, .nils, .nils, .nils, .nils, .nils, .nils, .nils, .nils, .nils, .nils, .nils, .nils, .nils, .nils, .nils, .nils, .nils, .nils, .nils, .nils, .nils, .nils, .nils, .nils, .nils, .nils, .nils, .nils, .nils, .nils, .nils, .nils, .nils, .nils, .nils, .nils, .nils, .nils, .nils, .nils, .nils]))), none⟩])
 (.seq (.kill [0, 1, 5, 6, 8] 1) (.seq (.region [
  ⟨(some 9), (.mov (.c (.c (.int .i64 0)))), none⟩])
 (.seq (.kill [0, 1, 5, 6, 8, 9] 1) (.seq (.region [
  ⟨(some 10), (.box true 16 (.c (.agg [.nils, .nils, .nils, .nils, .nils, .nils, .nils, .nils, .nils, .nils, .nils, .nils, .nils, .nils, .nils, .nils]))), none⟩])
 (.seq (.kill [0, 1, 5, 6, 8, 9, 10] 2) (.seq (.seq (.region [
  ⟨(some 46), (.mov (.t 1)), none⟩,
  ⟨(some 47), (.len .sl (.t 46)), none⟩,
  ⟨(some 48), (.mov (.c (.c (.int .i64 0)))), none⟩])
 (.seq (.kill [0, 5, 6, 8, 9, 10, 46, 47, 48] 2) (.block 2 (.loop (.seq (.kill [0, 5, 6, 8, 9, 10, 46, 47, 48] 2) (.seq (.region [
   ⟨(some 49), (.bin .lss .num (.t 48) (.t 47)), none⟩])
  (.seq (.kill [0, 5, 6, 8, 9, 10, 46, 47, 48, 49] 2) (.seq (.cond (.t 49)
  (.skip)
  (.exit 2))
  (.seq (.kill [0, 5, 6, 8, 9, 10, 46, 47, 48] 2) (.seq (.block 3 (.seq (.region [
   ⟨(some 50), (.iaddr 4 (.t 46) (.t 48)), none⟩,
   ⟨(some 51), (.load (some 4) (.t 50)), none⟩,
   ⟨(some 12), (.box true 4 (.c (.agg [(.int .i64 0), (.int .i64 0), (.int .i64 0), .nils]))), none⟩,
   ⟨none, (.store 4 (.t 12) (.t 51)), none⟩])
  (.seq (.kill [0, 5, 6, 8, 9, 10, 12, 46, 47, 48] 3) (.seq (.region [
   ⟨(some 52), (.faddr 1 (.t 12)), none⟩,
   ⟨(some 53), (.load none (.t 52)), none⟩,
   ⟨(some 54), (.conv (.toInt .u64) (.t 53)), none⟩,
   ⟨(some 55), (.mov (.t 0)), none⟩,
   ⟨(some 56), (.conv (.toInt .u64) (.t 55)), none⟩,
   ⟨(some 57), (.bin .rem .num (.t 54) (.t 56)), none⟩,
   ⟨(some 58), (.conv (.toInt .i64) (.t 57)), none⟩,
   ⟨(some 13), (.mov (.t 58)), none⟩])
  (.seq (.kill [0, 5, 6, 8, 9, 10, 12, 13, 46, 47, 48] 3) (.seq (.seq (.region [
   ⟨(some 59), (.faddr 0 (.t 12)), none⟩,
   ⟨(some 60), (.load none (.t 59)), none⟩])
  (.seq (.kill [0, 5, 6, 8, 9, 10, 12, 13, 46, 47, 48, 60] 3) (.block 4 (.seq (.region [
   ⟨(some 69), (.bin .eql .num (.t 60) (.c (.c (.int .i64 0)))), none⟩,
   ⟨(some 68), (.mov (.t 69)), none⟩])
  (.seq (.kill [0, 5, 6, 8, 9, 10, 12, 13, 46, 47, 48, 60, 68] 3) (.cond (.t 68)
  (.seq (.region [
    ⟨(some 71), (.faddr 3 (.t 12)), none⟩,
    ⟨(some 72), (.load none (.t 71)), none⟩,
    ⟨(some 73), (.call 215 [(.t 72)]), none⟩,
    ⟨(some 70), (.mov (.t 73)), none⟩,
    ⟨(some 74), (.ext (.t 70) 0), none⟩,
    ⟨(some 75), (.ext (.t 70) 1), none⟩,
    ⟨(some 76), (.ext (.t 70) 2), none⟩,
    ⟨(some 15), (.box true 16 (.c (.agg [.nils, .nils, .nils, .nils, .nils, .nils, .nils, .nils, .nils, .nils, .nils, .nils, .nils, .nils, .nils, .nils]))), none⟩,
    ⟨(some 14), (.mov (.t 74)), none⟩,
    ⟨none, (.store 16 (.t 15) (.t 75)), none⟩,
    ⟨(some 16), (.mov (.t 76)), none⟩])
   (.seq (.kill [0, 5, 6, 8, 9, 10, 14, 15, 46, 47, 48] 4) (.seq (.region [
    ⟨(some 78), (.mov (.t 5)), none⟩,
    ⟨(some 79), (.mov (.t 14)), none⟩,
    ⟨(some 80), (.call 132 [(.t 78), (.t 79)]), none⟩,
    ⟨(some 77), (.mov (.t 80)), none⟩,
    ⟨(some 81), (.ext (.t 77) 0), none⟩,
    ⟨(some 82), (.ext (.t 77) 1), none⟩,
    ⟨(some 17), (.mov (.t 81)), none⟩,
    ⟨(some 18), (.mov (.t 82)), none⟩])
   (.seq (.kill [0, 5, 6, 8, 9, 10, 15, 17, 18, 46, 47, 48] 4) (.seq (.region [
    ⟨(some 83), (.mov (.t 18)), none⟩,
    ⟨(some 84), (.bin .eql .num (.t 83) (.c (.c (.int .i64 0)))), none⟩])
   (.seq (.kill [0, 5, 6, 8, 9, 10, 15, 17, 46, 47, 48, 84] 4) (.cond (.t 84)
   (.seq (.seq (.region [
     ⟨(some 85), (.mov (.t 17)), none⟩,
     ⟨(some 86), (.bin .lss .num (.t 85) (.c (.c (.int .i64 1)))), none⟩,
     ⟨(some 87), (.mov (.t 86)), none⟩,
     ⟨(some 88), (.mov (.t 17)), (some (87, false))⟩,
     ⟨(some 89), (.bin .gtr .num (.t 88) (.c (.c (.int .i64 80)))), (some (87, false))⟩,
     ⟨(some 90), (.pick (.t 87) (.c (.c (.bool true))) (.t 89)), none⟩,
     ⟨(some 91), (.mov (.t 90)), none⟩,
     ⟨(some 92), (.load (some 16) (.t 15)), (some (91, false))⟩,
     ⟨(some 93), (.call 217 [(.t 92)]), (some (91, false))⟩,
     ⟨(some 94), (.un .not (.t 93)), (some (91, false))⟩,
     ⟨(some 95), (.pick (.t 91) (.c (.c (.bool true))) (.t 94)), none⟩])
    (.seq (.kill [0, 5, 6, 8, 10, 15, 17, 46, 47, 48, 95] 4) (.cond (.t 95)
    (.seq (.region [
      ⟨(some 4), (.mov (.c (.c (.bool false)))), none⟩])
     (.ret))
    (.skip))))
    (.seq (.kill [0, 5, 6, 8, 10, 15, 17, 46, 47, 48] 4) (.seq (.region [
     ⟨(some 96), (.mov (.t 17)), none⟩,
     ⟨(some 9), (.mov (.t 96)), none⟩])
    (.seq (.kill [0, 5, 6, 8, 9, 10, 15, 46, 47, 48] 4) (.seq (.region [
     ⟨(some 97), (.mov (.c (.c (.int .i64 0)))), none⟩])
    (.seq (.kill [0, 5, 6, 8, 9, 10, 15, 46, 47, 48, 97] 4) (.block 5 (.loop (.seq (.kill [0, 5, 6, 8, 9, 10, 15, 46, 47, 48, 97] 4) (.seq (.region [
      ⟨(some 98), (.bin .lss .num (.t 97) (.c (.c (.int .i64 16)))), none⟩])
     (.seq (.kill [0, 5, 6, 8, 9, 10, 15, 46, 47, 48, 97, 98] 4) (.seq (.cond (.t 98)
     (.skip)
     (.exit 5))
     (.seq (.kill [0, 5, 6, 8, 9, 10, 15, 46, 47, 48, 97] 4) (.seq (.block 6 (.seq (.region [
      ⟨(some 99), (.mov (.t 97)), none⟩,
      ⟨(some 19), (.mov (.t 99)), none⟩])
     (.seq (.kill [0, 5, 6, 8, 9, 10, 15, 19, 46, 47, 48, 97] 4) (.region [
      ⟨(some 100), (.mov (.t 19)), none⟩,
      ⟨(some 101), (.mov (.t 19)), none⟩,
      ⟨(some 102), (.faddr 0 (.t 15)), none⟩,
      ⟨(some 103), (.iaddrA 16 1 (.t 102) (.t 101)), none⟩,
      ⟨(some 104), (.load none (.t 103)), none⟩,
      ⟨(some 105), (.call 232 [(.t 104)]), none⟩,
      ⟨(some 106), (.faddr 0 (.t 10)), none⟩,
      ⟨(some 107), (.iaddrA 16 1 (.t 106) (.t 100)), none⟩,
      ⟨none, (.store 1 (.t 107) (.t 105)), none⟩]))))
     (.seq (.kill [0, 5, 6, 8, 9, 10, 15, 46, 47, 48, 97] 4) (.region [
      ⟨(some 108), (.bin .add .num (.t 97) (.c (.c (.int .i64 1)))), none⟩,
      ⟨(some 97), (.mov (.t 108)), none⟩]))))))))))))))))
   (.skip))))))))
  (.seq (.region [
    ⟨(some 110), (.bin .eql .num (.t 60) (.c (.c (.int .i64 1)))), none⟩,
    ⟨(some 109), (.mov (.t 110)), none⟩])
   (.seq (.kill [0, 5, 6, 8, 9, 10, 13, 46, 47, 48, 60, 109] 2) (.cond (.t 109)
   (.seq (.draw 0 [
     ⟨0, none, ⟨(some 111), (.mov (.t 9)), none⟩, []⟩,
     ⟨1, none, ⟨(some 112), (.bin .gtr .num (.t 111) (.c (.c (.int .i64 0)))), none⟩, []⟩,
     ⟨2, none, ⟨(some 113), (.mov (.t 112)), none⟩, []⟩,
     ⟨3, none, ⟨(some 114), (.mov (.t 6)), (some (113, true))⟩, []⟩,
     ⟨4, none, ⟨(some 115), (.mov (.t 13)), (some (113, true))⟩, []⟩,
     ⟨5, none, ⟨(some 116), (.iaddr 1 (.t 114) (.t 115)), (some (113, true))⟩, []⟩,
     ⟨6, none, ⟨(some 117), (.load none (.t 116)), (some (113, true))⟩, []⟩,
     ⟨7, none, ⟨(some 118), (.mov (.t 9)), (some (113, true))⟩, []⟩,
     ⟨8, none, ⟨(some 119), (.mov (.t 13)), (some (113, true))⟩, []⟩,
     ⟨9, none, ⟨(some 120), (.faddr 0 (.t 10)), (some (113, true))⟩, []⟩,
     ⟨10, none, ⟨(some 121), (.iaddrA 16 1 (.t 120) (.t 119)), (some (113, true))⟩, []⟩,
     ⟨11, none, ⟨(some 122), (.load none (.t 121)), (some (113, true))⟩, []⟩,
     ⟨12, none, ⟨(some 123), (.call 141 [(.t 117), (.t 118), (.t 122)]), (some (113, true))⟩, []⟩,
     ⟨13, none, ⟨(some 124), (.bin .eql .num (.t 123) (.c (.c (.int .i64 0)))), (some (113, true))⟩, []⟩,
     ⟨14, none, ⟨(some 125), (.pick (.t 113) (.t 124) (.c (.c (.bool false)))), none⟩, []⟩])
    (.seq (.kill [0, 5, 6, 8, 9, 10, 13, 46, 47, 48, 125] 2) (.cond (.t 125)
    (.region [
      ⟨(some 126), (.mov (.t 5)), none⟩,
      ⟨(some 127), (.mov (.t 13)), none⟩,
      ⟨(some 128), (.mov (.t 9)), none⟩,
      ⟨(some 129), (.call 134 [(.t 126), (.t 127), (.t 128)]), none⟩])
    (.skip))))
   (.seq (.region [
     ⟨(some 131), (.bin .eql .num (.t 60) (.c (.c (.int .i64 2)))), none⟩,
     ⟨(some 130), (.mov (.t 131)), none⟩])
    (.seq (.kill [0, 5, 6, 8, 9, 10, 13, 46, 47, 48, 60, 130] 2) (.cond (.t 130)
    (.seq (.region [
      ⟨(some 132), (.mov (.t 5)), none⟩,
      ⟨(some 133), (.call 138 [(.t 132)]), none⟩,
      ⟨(some 134), (.bin .eql .num (.t 133) (.c (.c (.int .i64 0)))), none⟩])
     (.seq (.kill [0, 5, 6, 8, 9, 10, 46, 47, 48, 134] 2) (.cond (.t 134)
     (.seq (.seq (.region [
       ⟨(some 135), (.mov (.t 9)), none⟩,
       ⟨(some 136), (.bin .lss .num (.t 135) (.c (.c (.int .i64 1)))), none⟩,
       ⟨(some 137), (.mov (.t 136)), none⟩,
       ⟨(some 138), (.mov (.t 5)), (some (137, false))⟩,
       ⟨(some 139), (.call 136 [(.t 138)]), (some (137, false))⟩,
       ⟨(some 140), (.mov (.t 9)), (some (137, false))⟩,
       ⟨(some 141), (.bin .neq .num (.t 139) (.t 140)), (some (137, false))⟩,
       ⟨(some 142), (.pick (.t 137) (.c (.c (.bool true))) (.t 141)), none⟩])
      (.seq (.kill [0, 5, 6, 8, 9, 10, 46, 47, 48, 142] 2) (.cond (.t 142)
      (.seq (.region [
        ⟨(some 4), (.mov (.c (.c (.bool false)))), none⟩])
       (.ret))
      (.skip))))
      (.seq (.kill [0, 5, 6, 8, 9, 10, 46, 47, 48] 2) (.region [
       ⟨(some 143), (.mov (.t 9)), none⟩,
       ⟨(some 144), (.load (some 16) (.t 10)), none⟩,
       ⟨(some 145), (.iaddrA 81 16 (.t 8) (.t 143)), none⟩,
       ⟨none, (.store 16 (.t 145) (.t 144)), none⟩,
       ⟨(some 9), (.mov (.c (.c (.int .i64 0)))), none⟩])))
     (.skip))))
    (.seq (.region [
      ⟨(some 147), (.bin .eql .num (.t 60) (.c (.c (.int .i64 3)))), none⟩,
      ⟨(some 146), (.mov (.t 147)), none⟩])
     (.seq (.kill [0, 5, 6, 8, 9, 10, 13, 46, 47, 48, 146] 2) (.cond (.t 146)
     (.seq (.region [
       ⟨(some 148), (.mov (.t 5)), none⟩,
       ⟨(some 149), (.call 135 [(.t 148)]), none⟩,
       ⟨(some 150), (.bin .eql .num (.t 149) (.c (.c (.int .i64 0)))), none⟩])
      (.seq (.kill [0, 5, 6, 8, 9, 10, 46, 47, 48, 150] 2) (.cond (.t 150)
      (.region [
        ⟨(some 9), (.mov (.c (.c (.int .i64 0)))), none⟩])
      (.skip))))
     (.draw 0 [
       ⟨0, none, ⟨(some 61), (.mov (.t 6)), none⟩, []⟩,
       ⟨1, none, ⟨(some 62), (.mov (.t 13)), none⟩, []⟩,
       ⟨2, none, ⟨(some 63), (.iaddr 1 (.t 61) (.t 62)), none⟩, []⟩,
       ⟨3, none, ⟨(some 64), (.load none (.t 63)), none⟩, []⟩,
       ⟨4, none, ⟨(some 65), (.mov (.t 5)), none⟩, []⟩,
       ⟨5, none, ⟨(some 66), (.call 136 [(.t 65)]), none⟩, [(2, ⟨(some 63), (.iaddr 1 (.t 61) (.t 62)), none⟩), (3, ⟨(some 64), (.load none (.t 63)), none⟩)]⟩,
       ⟨6, none, ⟨(some 67), (.call 142 [(.t 64), (.t 66)]), none⟩, []⟩]))))))))))))))))
  (.seq (.kill [0, 5, 6, 8, 9, 10, 46, 47, 48] 2) (.seq (.region [
   ⟨(some 151), (.mov (.t 6)), none⟩,
   ⟨(some 152), (.len .sl (.t 151)), none⟩,
   ⟨(some 153), (.mov (.c (.c (.int .i64 0)))), none⟩])
  (.seq (.kill [0, 5, 6, 8, 9, 10, 46, 47, 48, 151, 152, 153] 2) n230k7)))))))))
  (.seq (.kill [0, 5, 6, 8, 9, 10, 46, 47, 48] 2) (.region [
   ⟨(some 213), (.bin .add .num (.t 48) (.c (.c (.int .i64 1)))), none⟩,
   ⟨(some 48), (.mov (.t 213)), none⟩]))))))))))))
 (.seq (.kill [] 0) (.seq (.region [
  ⟨(some 214), (.call 137 []), none⟩,
  ⟨(some 4), (.mov (.t 214)), none⟩])
 (.ret)))))))))))))))))))))⟩
/-- campanile/campanilelaw23.few -/
def n221 : NF := ⟨36, [2],
 .seq (.region [
  ⟨(some 2), (.mov (.c (.c (.bool false)))), none⟩])
 (.seq (.kill [0] 0) (.seq (.region [
  ⟨(some 3), (.mov (.c (.c (.int .i64 0)))), none⟩])
 (.seq (.kill [0, 3] 0) (.seq (.seq (.region [
  ⟨(some 8), (.mov (.t 0)), none⟩,
  ⟨(some 9), (.len .sl (.t 8)), none⟩,
  ⟨(some 10), (.mov (.c (.c (.int .i64 0)))), none⟩])
 (.seq (.kill [3, 8, 9, 10] 0) (.block 0 (.loop (.seq (.kill [3, 8, 9, 10] 0) (.seq (.region [
   ⟨(some 11), (.bin .lss .num (.t 10) (.t 9)), none⟩])
  (.seq (.kill [3, 8, 9, 10, 11] 0) (.seq (.cond (.t 11)
  (.skip)
  (.exit 0))
  (.seq (.kill [3, 8, 9, 10] 0) (.seq (.block 1 (.seq (.region [
   ⟨(some 12), (.mov (.t 10)), none⟩,
   ⟨(some 13), (.iaddr 4 (.t 8) (.t 10)), none⟩,
   ⟨(some 14), (.load (some 4) (.t 13)), none⟩,
   ⟨(some 5), (.box true 4 (.c (.agg [(.int .i64 0), (.int .i64 0), (.int .i64 0), .nils]))), none⟩,
   ⟨(some 4), (.mov (.t 12)), none⟩,
   ⟨none, (.store 4 (.t 5) (.t 14)), none⟩])
  (.seq (.kill [3, 4, 5, 8, 9, 10] 1) (.seq (.seq (.region [
   ⟨(some 15), (.faddr 3 (.t 5)), none⟩,
   ⟨(some 16), (.load none (.t 15)), none⟩,
   ⟨(some 17), (.len .sl (.t 16)), none⟩,
   ⟨(some 18), (.mov (.c (.c (.int .i64 0)))), none⟩])
  (.seq (.kill [3, 4, 8, 9, 10, 16, 17, 18] 0) (.block 2 (.loop (.seq (.kill [3, 4, 8, 9, 10, 16, 17, 18] 0) (.seq (.region [
    ⟨(some 19), (.bin .lss .num (.t 18) (.t 17)), none⟩])
   (.seq (.kill [3, 4, 8, 9, 10, 16, 17, 18, 19] 0) (.seq (.cond (.t 19)
   (.skip)
   (.exit 2))
   (.seq (.kill [3, 4, 8, 9, 10, 16, 17, 18] 0) (.seq (.block 3 (.seq (.region [
    ⟨(some 20), (.iaddr 2 (.t 16) (.t 18)), none⟩,
    ⟨(some 21), (.load (some 2) (.t 20)), none⟩,
    ⟨(some 7), (.box true 2 (.c (.agg [(.int .i64 0), .nils]))), none⟩,
    ⟨none, (.store 2 (.t 7) (.t 21)), none⟩])
   (.seq (.kill [3, 4, 7, 8, 9, 10, 16, 17, 18] 1) (.region [
    ⟨(some 22), (.mov (.t 3)), none⟩,
    ⟨(some 23), (.faddr 1 (.t 7)), none⟩,
    ⟨(some 24), (.load none (.t 23)), none⟩,
    ⟨(some 25), (.len .sl (.t 24)), none⟩,
    ⟨(some 26), (.bin .add .num (.c (.c (.int .i64 1))) (.t 25)), none⟩,
    ⟨(some 27), (.bin .add .num (.t 22) (.t 26)), none⟩,
    ⟨(some 3), (.mov (.t 27)), none⟩]))))
   (.seq (.kill [3, 4, 8, 9, 10, 16, 17, 18] 0) (.region [
    ⟨(some 28), (.bin .add .num (.t 18) (.c (.c (.int .i64 1)))), none⟩,
    ⟨(some 18), (.mov (.t 28)), none⟩]))))))))))))
  (.seq (.kill [3, 4, 8, 9, 10] 0) (.seq (.region [
   ⟨(some 29), (.mov (.t 4)), none⟩,
   ⟨(some 30), (.bin .geq .num (.t 29) (.c (.c (.int .i64 80)))), none⟩,
   ⟨(some 31), (.mov (.t 30)), none⟩,
   ⟨(some 32), (.mov (.t 3)), (some (31, false))⟩,
   ⟨(some 33), (.bin .gtr .num (.t 32) (.c (.c (.int .i64 600)))), (some (31, false))⟩,
   ⟨(some 34), (.pick (.t 31) (.c (.c (.bool true))) (.t 33)), none⟩])
  (.seq (.kill [3, 8, 9, 10, 34] 0) (.cond (.t 34)
  (.seq (.region [
    ⟨(some 2), (.mov (.c (.c (.bool false)))), none⟩])
   (.ret))
  (.skip)))))))))
  (.seq (.kill [3, 8, 9, 10] 0) (.region [
   ⟨(some 35), (.bin .add .num (.t 10) (.c (.c (.int .i64 1)))), none⟩,
   ⟨(some 10), (.mov (.t 35)), none⟩]))))))))))))
 (.seq (.kill [] 0) (.seq (.region [
  ⟨(some 2), (.mov (.c (.c (.bool true)))), none⟩])
 (.ret)))))))⟩
/-- campanile/campanilelaw23.awake -/
def n137 : NF := ⟨45, [0],
 .seq (.region [
  ⟨(some 0), (.mov (.c (.c (.bool false)))), none⟩])
 (.seq (.kill [] 0) (.seq (.region [
  ⟨(some 6), (.call 131 [(.c (.c (.int .i64 1)))]), none⟩,
  ⟨(some 1), (.mov (.t 6)), none⟩])
 (.seq (.kill [1] 0) (.seq (.region [
  ⟨(some 8), (.mov (.t 1)), none⟩,
  ⟨(some 9), .mkmap, none⟩,
  ⟨(some 10), (.build [(.int .i64 0), (.int .i64 0), (.int .i64 0), (.int .i64 0), (.int .i64 0)] [(1, (1, (.c (.c (.int .i64 3))))), (3, (1, (.c (.c (.int .i64 2))))), (4, (1, (.c (.c (.int .i64 64)))))]), none⟩,
  ⟨(some 11), (.bslice false 5 1 [(.int .i64 0), (.int .i64 0), (.int .i64 0), (.int .i64 0), (.int .i64 0)] [(0, (5, (.t 10)))]), none⟩,
  ⟨none, (.mupd (.int .i64) (.t 9) (.c (.c (.int .i64 0))) (.t 11)), none⟩,
  ⟨(some 12), (.mov (.t 9)), none⟩,
  ⟨(some 13), (.call 132 [(.t 8), (.t 12)]), none⟩,
  ⟨(some 7), (.mov (.t 13)), none⟩,
  ⟨(some 14), (.ext (.t 7) 0), none⟩,
  ⟨(some 15), (.ext (.t 7) 1), none⟩,
  ⟨(some 2), (.mov (.t 14)), none⟩,
  ⟨(some 3), (.mov (.t 15)), none⟩])
 (.seq (.kill [1, 2, 3] 0) (.seq (.region [
  ⟨(some 16), (.mov (.t 1)), none⟩,
  ⟨(some 17), (.call 134 [(.t 16), (.c (.c (.int .i64 0))), (.c (.c (.int .i64 1)))]), none⟩,
  ⟨(some 18), (.mov (.t 1)), none⟩,
  ⟨(some 19), (.call 138 [(.t 18)]), none⟩,
  ⟨(some 4), (.mov (.t 17)), none⟩,
  ⟨(some 5), (.mov (.t 19)), none⟩])
 (.seq (.kill [1, 2, 3, 4, 5] 0) (.seq (.region [
  ⟨(some 20), (.mov (.t 3)), none⟩,
  ⟨(some 21), (.bin .eql .num (.t 20) (.c (.c (.int .i64 0)))), none⟩,
  ⟨(some 22), (.mov (.t 21)), none⟩,
  ⟨(some 23), (.mov (.t 2)), (some (22, true))⟩,
  ⟨(some 24), (.bin .eql .num (.t 23) (.c (.c (.int .i64 1)))), (some (22, true))⟩,
  ⟨(some 25), (.pick (.t 22) (.t 24) (.c (.c (.bool false)))), none⟩,
  ⟨(some 26), (.mov (.t 25)), none⟩,
  ⟨(some 27), (.mov (.t 4)), (some (26, true))⟩,
  ⟨(some 28), (.bin .eql .num (.t 27) (.c (.c (.int .i64 0)))), (some (26, true))⟩,
  ⟨(some 29), (.pick (.t 26) (.t 28) (.c (.c (.bool false)))), none⟩,
  ⟨(some 30), (.mov (.t 29)), none⟩,
  ⟨(some 31), (.mov (.t 5)), (some (30, true))⟩,
  ⟨(some 32), (.bin .eql .num (.t 31) (.c (.c (.int .i64 0)))), (some (30, true))⟩,
  ⟨(some 33), (.pick (.t 30) (.t 32) (.c (.c (.bool false)))), none⟩,
  ⟨(some 34), (.mov (.t 33)), none⟩,
  ⟨(some 35), (.mov (.t 1)), (some (34, true))⟩,
  ⟨(some 36), (.call 136 [(.t 35)]), (some (34, true))⟩,
  ⟨(some 37), (.bin .eql .num (.t 36) (.c (.c (.int .i64 1)))), (some (34, true))⟩,
  ⟨(some 38), (.pick (.t 34) (.t 37) (.c (.c (.bool false)))), none⟩,
  ⟨(some 39), (.mov (.t 38)), none⟩,
  ⟨(some 40), (.mov (.t 1)), (some (39, true))⟩,
  ⟨(some 41), (.call 140 [(.t 40), (.c (.c (.int .i64 0)))]), (some (39, true))⟩,
  ⟨(some 42), (.len .sl (.t 41)), (some (39, true))⟩,
  ⟨(some 43), (.bin .eql .num (.t 42) (.c (.c (.int .i64 1)))), (some (39, true))⟩,
  ⟨(some 44), (.pick (.t 39) (.t 43) (.c (.c (.bool false)))), none⟩,
  ⟨(some 0), (.mov (.t 44)), none⟩])
 (.ret)))))))))⟩
/-- campanile/version.New -/
def n131 : NF := ⟨8, [2],
 .seq (.region [
  ⟨(some 2), (.mov (.c (.c .nilp))), none⟩])
 (.seq (.kill [0] 0) (.seq (.region [
  ⟨(some 3), (.mov (.t 0)), none⟩,
  ⟨(some 4), (.min [(.t 3), (.c (.c (.int .i64 16)))]), none⟩,
  ⟨(some 5), (.max [(.c (.c (.int .i64 1))), (.t 4)]), none⟩,
  ⟨(some 6), (.build [(.int .i64 0), (.int .i64 0), (.int .i64 0), .nilm, .nilm, .nilm] [(0, (1, (.t 5)))]), none⟩,
  ⟨(some 7), (.box false 6 (.t 6)), none⟩,
  ⟨(some 2), (.mov (.t 7)), none⟩])
 (.ret)))⟩
/-- campanile/campanilelaw22.Map -/
def n215b : Code :=
 .seq (.region [
  ⟨(some 2), (.mov (.c (.c .nilm))), none⟩,
  ⟨(some 3), (.box false 16 (.c (.agg [.nils, .nils, .nils, .nils, .nils, .nils, .nils, .nils, .nils, .nils, .nils, .nils, .nils, .nils, .nils, .nils]))), none⟩,
  ⟨(some 4), (.mov (.c (.c (.int .i64 0)))), none⟩])
 (.seq (.kill [0, 3] 0) (.seq (.region [
  ⟨(some 12), .mkmap, none⟩,
  ⟨(some 5), (.mov (.t 12)), none⟩])
 (.seq (.kill [0, 3, 5] 0) (.seq (.seq (.region [
  ⟨(some 13), (.mov (.t 0)), none⟩,
  ⟨(some 14), (.len .sl (.t 13)), none⟩,
  ⟨(some 15), (.mov (.c (.c (.int .i64 0)))), none⟩])
 (.seq (.kill [3, 5, 13, 14, 15] 0) (.block 0 (.loop (.seq (.kill [3, 5, 13, 14, 15] 0) (.seq (.region [
   ⟨(some 16), (.bin .lss .num (.t 15) (.t 14)), none⟩])
  (.seq (.kill [3, 5, 13, 14, 15, 16] 0) (.seq (.cond (.t 16)
  (.skip)
  (.exit 0))
  (.seq (.kill [3, 5, 13, 14, 15] 0) (.seq (.block 1 (.seq (.region [
   ⟨(some 17), (.iaddr 2 (.t 13) (.t 15)), none⟩,
   ⟨(some 18), (.load (some 2) (.t 17)), none⟩,
   ⟨(some 7), (.box true 2 (.c (.agg [(.int .i64 0), .nils]))), none⟩,
   ⟨none, (.store 2 (.t 7) (.t 18)), none⟩])
  (.seq (.kill [3, 5, 7, 13, 14, 15] 1) (.region [
   ⟨(some 19), (.mov (.t 5)), none⟩,
   ⟨(some 20), (.faddr 0 (.t 7)), none⟩,
   ⟨(some 21), (.load none (.t 20)), none⟩,
   ⟨(some 22), (.faddr 1 (.t 7)), none⟩,
   ⟨(some 23), (.load none (.t 22)), none⟩,
   ⟨none, (.mupd (.int .i64) (.t 19) (.t 21) (.t 23)), none⟩]))))
  (.seq (.kill [3, 5, 13, 14, 15] 0) (.region [
   ⟨(some 24), (.bin .add .num (.t 15) (.c (.c (.int .i64 1)))), none⟩,
   ⟨(some 15), (.mov (.t 24)), none⟩]))))))))))))
 (.seq (.kill [3, 5] 0) (.seq (.region [
  ⟨(some 8), (.box true 16 (.c (.agg [.nils, .nils, .nils, .nils, .nils, .nils, .nils, .nils, .nils, .nils, .nils, .nils, .nils, .nils, .nils, .nils]))), none⟩])
 (.seq (.kill [3, 5, 8] 1) (.seq (.region [
  ⟨(some 9), (.mov (.c (.c (.int .i64 0)))), none⟩])
 (.seq (.kill [3, 5, 8, 9] 1) (.seq (.seq (.region [
  ⟨(some 25), (.mov (.t 5)), none⟩,
  ⟨(some 26), (.range .map (.t 25)), none⟩])
 (.seq (.kill [3, 5, 8, 9, 26] 1) (.block 2 (.loop (.seq (.kill [3, 5, 8, 9, 26] 1) (.seq (.region [
   ⟨(some 27), (.next false (.t 26)), none⟩,
   ⟨(some 28), (.ext (.t 27) 0), none⟩])
  (.seq (.kill [3, 5, 8, 9, 26, 28] 1) (.seq (.cond (.t 28)
  (.skip)
  (.exit 2))
  (.seq (.kill [3, 5, 8, 9, 26] 1) (.block 3 (.seq (.region [
   ⟨(some 29), (.entry (.t 26)), none⟩,
   ⟨(some 30), (.ext (.t 29) 0), none⟩,
   ⟨(some 31), (.ext (.t 29) 1), none⟩,
   ⟨(some 10), (.mov (.t 30)), none⟩,
   ⟨(some 11), (.mov (.t 31)), none⟩])
  (.seq (.kill [3, 5, 8, 9, 10, 11, 26] 1) (.seq (.region [
   ⟨(some 32), (.mov (.t 10)), none⟩,
   ⟨(some 33), (.call 44 [(.t 32)]), none⟩])
  (.seq (.kill [3, 5, 8, 9, 10, 11, 26, 33] 1) (.cond (.t 33)
  (.region [
    ⟨(some 34), (.mov (.t 10)), none⟩,
    ⟨(some 35), (.mov (.t 11)), none⟩,
    ⟨(some 36), (.faddr 0 (.t 8)), none⟩,
    ⟨(some 37), (.iaddrA 16 1 (.t 36) (.t 34)), none⟩,
    ⟨none, (.store 1 (.t 37) (.t 35)), none⟩])
  (.region [
    ⟨(some 38), (.mov (.t 9)), none⟩,
    ⟨(some 39), (.mov (.t 11)), none⟩,
    ⟨(some 40), (.len .sl (.t 39)), none⟩,
    ⟨(some 41), (.bin .add .num (.t 38) (.t 40)), none⟩,
    ⟨(some 9), (.mov (.t 41)), none⟩]))))))))))))))))
 (.seq (.kill [3, 5, 8, 9] 1) (.seq (.draw 0 [
  ⟨0, none, ⟨(some 42), (.mov (.t 5)), none⟩, []⟩,
  ⟨1, none, ⟨(some 43), (.load (some 16) (.t 8)), none⟩, []⟩,
  ⟨2, none, ⟨(some 44), (.mov (.t 9)), none⟩, []⟩,
  ⟨3, none, ⟨(some 2), (.mov (.t 42)), none⟩, []⟩,
  ⟨4, none, ⟨none, (.store 16 (.t 3) (.t 43)), none⟩, []⟩,
  ⟨5, none, ⟨(some 4), (.mov (.t 44)), none⟩, []⟩])
 (.ret)))))))))))))
def n215 : NF := ⟨45, [2, 3, 4], .fin n215b [⟨some 3, .load (some 16) (.t 3), none⟩]⟩
/-- (*campanile/version.Book).Begin -/
def n132 : NF := ⟨66, [4, 5],
 .seq (.region [
  ⟨(some 4), (.mov (.c (.c (.int .i64 0)))), none⟩,
  ⟨(some 5), (.mov (.c (.c (.int .i64 0)))), none⟩])
 (.seq (.kill [0, 1] 0) (.seq (.seq (.region [
  ⟨(some 9), (.mov (.t 0)), none⟩,
  ⟨(some 10), (.bin .eql .ptr (.t 9) (.c (.c .nilp))), none⟩])
 (.seq (.kill [0, 1, 10] 0) (.cond (.t 10)
 (.seq (.region [
   ⟨(some 4), (.mov (.c (.c (.int .i64 0)))), none⟩,
   ⟨(some 5), (.mov (.c (.c (.int .i64 1)))), none⟩])
  (.ret))
 (.skip))))
 (.seq (.kill [0, 1] 0) (.seq (.seq (.region [
  ⟨(some 11), (.mov (.t 0)), none⟩,
  ⟨(some 12), (.nilck (.t 11)), none⟩,
  ⟨(some 13), (.faddr 4 (.t 12)), none⟩,
  ⟨(some 14), (.load none (.t 13)), none⟩,
  ⟨(some 15), (.bin .neq .map (.t 14) (.c (.c .nilm))), none⟩])
 (.seq (.kill [0, 1, 15] 0) (.cond (.t 15)
 (.seq (.region [
   ⟨(some 4), (.mov (.c (.c (.int .i64 0)))), none⟩,
   ⟨(some 5), (.mov (.c (.c (.int .i64 7)))), none⟩])
  (.ret))
 (.skip))))
 (.seq (.kill [0, 1] 0) (.seq (.region [
  ⟨(some 16), .mkmap, none⟩,
  ⟨(some 6), (.mov (.t 16)), none⟩])
 (.seq (.kill [0, 1, 6] 0) (.seq (.seq (.region [
  ⟨(some 17), (.mov (.t 1)), none⟩,
  ⟨(some 18), (.range .map (.t 17)), none⟩])
 (.seq (.kill [0, 1, 6, 18] 0) (.block 0 (.loop (.seq (.kill [0, 1, 6, 18] 0) (.seq (.region [
   ⟨(some 19), (.next false (.t 18)), none⟩,
   ⟨(some 20), (.ext (.t 19) 0), none⟩])
  (.seq (.kill [0, 1, 6, 18, 20] 0) (.seq (.cond (.t 20)
  (.skip)
  (.exit 0))
  (.seq (.kill [0, 1, 6, 18] 0) (.block 1 (.seq (.region [
   ⟨(some 21), (.entry (.t 18)), none⟩,
   ⟨(some 22), (.ext (.t 21) 0), none⟩,
   ⟨(some 23), (.ext (.t 21) 1), none⟩,
   ⟨(some 7), (.mov (.t 22)), none⟩,
   ⟨(some 8), (.mov (.t 23)), none⟩])
  (.seq (.kill [0, 1, 6, 7, 8, 18] 0) (.seq (.seq (.region [
   ⟨(some 24), (.mov (.t 0)), none⟩,
   ⟨(some 25), (.mov (.t 7)), none⟩,
   ⟨(some 26), (.call 145 [(.t 24), (.t 25)]), none⟩,
   ⟨(some 27), (.un .not (.t 26)), none⟩,
   ⟨(some 28), (.mov (.t 27)), none⟩,
   ⟨(some 29), (.mov (.t 8)), (some (28, false))⟩,
   ⟨(some 30), (.len .sl (.t 29)), (some (28, false))⟩,
   ⟨(some 31), (.bin .gtr .num (.t 30) (.c (.c (.int .i64 64)))), (some (28, false))⟩,
   ⟨(some 32), (.pick (.t 28) (.c (.c (.bool true))) (.t 31)), none⟩])
  (.seq (.kill [0, 1, 6, 7, 8, 18, 32] 0) (.cond (.t 32)
  (.seq (.region [
    ⟨(some 4), (.mov (.c (.c (.int .i64 0)))), none⟩,
    ⟨(some 5), (.mov (.c (.c (.int .i64 1)))), none⟩])
   (.ret))
  (.skip))))
  (.seq (.kill [0, 1, 6, 7, 8, 18] 0) (.region [
   ⟨(some 33), (.mov (.t 6)), none⟩,
   ⟨(some 34), (.mov (.t 7)), none⟩,
   ⟨(some 35), (.mov (.t 8)), none⟩,
   ⟨(some 36), (.call 146 [(.t 35)]), none⟩,
   ⟨none, (.mupd (.int .i64) (.t 33) (.t 34) (.t 36)), none⟩])))))))))))))))
 (.seq (.kill [0, 1, 6] 0) (.seq (.block 2 (.seq (.region [
  ⟨(some 38), (.mov (.t 1)), none⟩,
  ⟨(some 39), (.call 120 [(.t 38)]), none⟩,
  ⟨(some 40), (.un .not (.t 39)), none⟩,
  ⟨(some 37), (.mov (.t 40)), none⟩])
 (.seq (.kill [0, 6, 37] 0) (.cond (.t 37)
 (.seq (.region [
   ⟨(some 4), (.mov (.c (.c (.int .i64 0)))), none⟩,
   ⟨(some 5), (.mov (.c (.c (.int .i64 9)))), none⟩])
  (.ret))
 (.seq (.region [
   ⟨(some 42), (.mov (.t 0)), none⟩,
   ⟨(some 43), (.nilck (.t 42)), none⟩,
   ⟨(some 44), (.faddr 2 (.t 43)), none⟩,
   ⟨(some 45), (.load none (.t 44)), none⟩,
   ⟨(some 46), (.bin .geq .num (.t 45) (.c (.c (.int .i64 1000000)))), none⟩,
   ⟨(some 41), (.mov (.t 46)), none⟩])
  (.seq (.kill [0, 6, 41] 0) (.cond (.t 41)
  (.seq (.region [
    ⟨(some 4), (.mov (.c (.c (.int .i64 0)))), none⟩,
    ⟨(some 5), (.mov (.c (.c (.int .i64 5)))), none⟩])
   (.ret))
  (.skip))))))))
 (.seq (.kill [0, 6] 0) (.seq (.region [
  ⟨(some 47), (.mov (.t 0)), none⟩,
  ⟨(some 48), (.nilck (.t 47)), none⟩,
  ⟨(some 49), (.faddr 2 (.t 48)), none⟩,
  ⟨(some 50), (.load none (.t 49)), none⟩,
  ⟨(some 51), (.bin .add .num (.t 50) (.c (.c (.int .i64 1)))), none⟩,
  ⟨(some 52), (.nilck (.t 47)), none⟩,
  ⟨(some 53), (.faddr 2 (.t 52)), none⟩,
  ⟨none, (.store 1 (.t 53) (.t 51)), none⟩])
 (.seq (.kill [0, 6] 0) (.seq (.region [
  ⟨(some 54), (.mov (.t 0)), none⟩,
  ⟨(some 55), (.mov (.t 0)), none⟩,
  ⟨(some 56), (.mov (.t 6)), none⟩,
  ⟨(some 57), .mkmap, none⟩,
  ⟨(some 58), (.nilck (.t 54)), none⟩,
  ⟨(some 59), (.faddr 4 (.t 58)), none⟩,
  ⟨none, (.store 1 (.t 59) (.t 56)), none⟩,
  ⟨(some 60), (.nilck (.t 55)), none⟩,
  ⟨(some 61), (.faddr 5 (.t 60)), none⟩,
  ⟨none, (.store 1 (.t 61) (.t 57)), none⟩])
 (.seq (.kill [0] 0) (.seq (.region [
  ⟨(some 62), (.mov (.t 0)), none⟩,
  ⟨(some 63), (.nilck (.t 62)), none⟩,
  ⟨(some 64), (.faddr 2 (.t 63)), none⟩,
  ⟨(some 65), (.load none (.t 64)), none⟩,
  ⟨(some 4), (.mov (.t 65)), none⟩,
  ⟨(some 5), (.mov (.c (.c (.int .i64 0)))), none⟩])
 (.ret)))))))))))))))))⟩
/-- (*campanile/version.Book).Ready -/
def n134 : NF := ⟨42, [6],
 .seq (.region [
  ⟨(some 6), (.mov (.c (.c (.int .i64 0)))), none⟩])
 (.seq (.kill [0, 1, 2] 0) (.seq (.block 0 (.seq (.region [
  ⟨(some 8), (.mov (.t 0)), none⟩,
  ⟨(some 9), (.bin .eql .ptr (.t 8) (.c (.c .nilp))), none⟩,
  ⟨(some 7), (.mov (.t 9)), none⟩])
 (.seq (.kill [0, 1, 2, 7] 0) (.cond (.t 7)
 (.seq (.region [
   ⟨(some 6), (.mov (.c (.c (.int .i64 1)))), none⟩])
  (.ret))
 (.seq (.region [
   ⟨(some 11), (.mov (.t 0)), none⟩,
   ⟨(some 12), (.nilck (.t 11)), none⟩,
   ⟨(some 13), (.faddr 4 (.t 12)), none⟩,
   ⟨(some 14), (.load none (.t 13)), none⟩,
   ⟨(some 15), (.bin .eql .map (.t 14) (.c (.c .nilm))), none⟩,
   ⟨(some 16), (.mov (.t 15)), none⟩,
   ⟨(some 17), (.mov (.t 2)), (some (16, false))⟩,
   ⟨(some 18), (.mov (.t 0)), (some (16, false))⟩,
   ⟨(some 19), (.nilck (.t 18)), (some (16, false))⟩,
   ⟨(some 20), (.faddr 2 (.t 19)), (some (16, false))⟩,
   ⟨(some 21), (.load none (.t 20)), (some (16, false))⟩,
   ⟨(some 22), (.bin .neq .num (.t 17) (.t 21)), (some (16, false))⟩,
   ⟨(some 23), (.pick (.t 16) (.c (.c (.bool true))) (.t 22)), none⟩,
   ⟨(some 10), (.mov (.t 23)), none⟩])
  (.seq (.kill [0, 1, 10] 0) (.cond (.t 10)
  (.seq (.region [
    ⟨(some 6), (.mov (.c (.c (.int .i64 7)))), none⟩])
   (.ret))
  (.seq (.region [
    ⟨(some 25), (.mov (.t 0)), none⟩,
    ⟨(some 26), (.mov (.t 1)), none⟩,
    ⟨(some 27), (.call 145 [(.t 25), (.t 26)]), none⟩,
    ⟨(some 28), (.un .not (.t 27)), none⟩,
    ⟨(some 24), (.mov (.t 28)), none⟩])
   (.seq (.kill [0, 1, 24] 0) (.cond (.t 24)
   (.seq (.region [
     ⟨(some 6), (.mov (.c (.c (.int .i64 1)))), none⟩])
    (.ret))
   (.seq (.region [
     ⟨(some 30), (.mov (.t 0)), none⟩,
     ⟨(some 31), (.nilck (.t 30)), none⟩,
     ⟨(some 32), (.faddr 5 (.t 31)), none⟩,
     ⟨(some 33), (.load none (.t 32)), none⟩,
     ⟨(some 34), (.mov (.t 1)), none⟩,
     ⟨(some 35), (.look (.int .i64) (.c (.int .i64 0)) false (.t 33) (.t 34)), none⟩,
     ⟨(some 36), (.bin .gtr .num (.t 35) (.c (.c (.int .i64 0)))), none⟩,
     ⟨(some 29), (.mov (.t 36)), none⟩])
    (.seq (.kill [0, 1, 29] 0) (.cond (.t 29)
    (.seq (.region [
      ⟨(some 6), (.mov (.c (.c (.int .i64 8)))), none⟩])
     (.ret))
    (.skip))))))))))))))
 (.seq (.kill [0, 1] 0) (.seq (.region [
  ⟨(some 37), (.mov (.t 0)), none⟩,
  ⟨(some 38), (.nilck (.t 37)), none⟩,
  ⟨(some 39), (.faddr 5 (.t 38)), none⟩,
  ⟨(some 40), (.load none (.t 39)), none⟩,
  ⟨(some 41), (.mov (.t 1)), none⟩,
  ⟨none, (.mupd (.int .i64) (.t 40) (.t 41) (.c (.c (.int .i64 1)))), none⟩])
 (.seq (.kill [] 0) (.seq (.region [
  ⟨(some 6), (.mov (.c (.c (.int .i64 0)))), none⟩])
 (.ret)))))))⟩
/-- (*campanile/version.Book).Commit -/
def n138 : NF := ⟨35, [2],
 .seq (.region [
  ⟨(some 2), (.mov (.c (.c (.int .i64 0)))), none⟩])
 (.seq (.kill [0] 0) (.seq (.block 0 (.seq (.region [
  ⟨(some 4), (.mov (.t 0)), none⟩,
  ⟨(some 5), (.bin .eql .ptr (.t 4) (.c (.c .nilp))), none⟩,
  ⟨(some 3), (.mov (.t 5)), none⟩])
 (.seq (.kill [0, 3] 0) (.cond (.t 3)
 (.seq (.region [
   ⟨(some 2), (.mov (.c (.c (.int .i64 1)))), none⟩])
  (.ret))
 (.seq (.region [
   ⟨(some 7), (.mov (.t 0)), none⟩,
   ⟨(some 8), (.nilck (.t 7)), none⟩,
   ⟨(some 9), (.faddr 4 (.t 8)), none⟩,
   ⟨(some 10), (.load none (.t 9)), none⟩,
   ⟨(some 11), (.bin .eql .map (.t 10) (.c (.c .nilm))), none⟩,
   ⟨(some 12), (.mov (.t 11)), none⟩,
   ⟨(some 13), (.mov (.t 0)), (some (12, false))⟩,
   ⟨(some 14), (.call 133 [(.t 13)]), (some (12, false))⟩,
   ⟨(some 15), (.len .sl (.t 14)), (some (12, false))⟩,
   ⟨(some 16), (.bin .gtr .num (.t 15) (.c (.c (.int .i64 0)))), (some (12, false))⟩,
   ⟨(some 17), (.pick (.t 12) (.c (.c (.bool true))) (.t 16)), none⟩,
   ⟨(some 6), (.mov (.t 17)), none⟩])
  (.seq (.kill [0, 6] 0) (.cond (.t 6)
  (.seq (.region [
    ⟨(some 2), (.mov (.c (.c (.int .i64 7)))), none⟩])
   (.ret))
  (.skip))))))))
 (.seq (.kill [0] 0) (.seq (.draw 0 [
  ⟨0, none, ⟨(some 18), (.mov (.t 0)), none⟩, []⟩,
  ⟨1, none, ⟨(some 19), (.mov (.t 0)), none⟩, []⟩,
  ⟨2, none, ⟨(some 20), (.mov (.t 0)), none⟩, []⟩,
  ⟨3, none, ⟨(some 21), (.mov (.t 0)), none⟩, []⟩,
  ⟨4, none, ⟨(some 22), (.nilck (.t 21)), none⟩, []⟩,
  ⟨5, none, ⟨(some 23), (.faddr 2 (.t 22)), none⟩, []⟩,
  ⟨6, none, ⟨(some 24), (.load none (.t 23)), none⟩, []⟩,
  ⟨7, none, ⟨(some 25), (.mov (.t 0)), none⟩, []⟩,
  ⟨8, none, ⟨(some 26), (.nilck (.t 25)), none⟩, []⟩,
  ⟨9, none, ⟨(some 27), (.faddr 4 (.t 26)), none⟩, []⟩,
  ⟨10, none, ⟨(some 28), (.load none (.t 27)), none⟩, []⟩,
  ⟨11, none, ⟨(some 29), (.nilck (.t 18)), none⟩, []⟩,
  ⟨12, none, ⟨(some 30), (.faddr 1 (.t 29)), none⟩, []⟩,
  ⟨13, none, ⟨none, (.store 1 (.t 30) (.t 24)), none⟩, []⟩,
  ⟨14, none, ⟨(some 31), (.nilck (.t 19)), none⟩, []⟩,
  ⟨15, none, ⟨(some 32), (.faddr 3 (.t 31)), none⟩, []⟩,
  ⟨16, none, ⟨none, (.store 1 (.t 32) (.t 28)), none⟩, []⟩,
  ⟨17, none, ⟨(some 33), (.nilck (.t 20)), none⟩, []⟩,
  ⟨18, none, ⟨(some 34), (.faddr 4 (.t 33)), none⟩, []⟩,
  ⟨19, none, ⟨none, (.store 1 (.t 34) (.c (.c .nilm))), none⟩, []⟩])
 (.seq (.kill [] 0) (.seq (.region [
  ⟨(some 2), (.mov (.c (.c (.int .i64 0)))), none⟩])
 (.ret)))))))⟩
/-- (*campanile/version.Book).Abort -/
def n135 : NF := ⟨15, [2],
 .seq (.region [
  ⟨(some 2), (.mov (.c (.c (.int .i64 0)))), none⟩])
 (.seq (.kill [0] 0) (.seq (.block 0 (.seq (.region [
  ⟨(some 4), (.mov (.t 0)), none⟩,
  ⟨(some 5), (.bin .eql .ptr (.t 4) (.c (.c .nilp))), none⟩,
  ⟨(some 3), (.mov (.t 5)), none⟩])
 (.seq (.kill [0, 3] 0) (.cond (.t 3)
 (.seq (.region [
   ⟨(some 2), (.mov (.c (.c (.int .i64 1)))), none⟩])
  (.ret))
 (.seq (.region [
   ⟨(some 7), (.mov (.t 0)), none⟩,
   ⟨(some 8), (.nilck (.t 7)), none⟩,
   ⟨(some 9), (.faddr 4 (.t 8)), none⟩,
   ⟨(some 10), (.load none (.t 9)), none⟩,
   ⟨(some 11), (.bin .eql .map (.t 10) (.c (.c .nilm))), none⟩,
   ⟨(some 6), (.mov (.t 11)), none⟩])
  (.seq (.kill [0, 6] 0) (.cond (.t 6)
  (.seq (.region [
    ⟨(some 2), (.mov (.c (.c (.int .i64 7)))), none⟩])
   (.ret))
  (.skip))))))))
 (.seq (.kill [0] 0) (.seq (.region [
  ⟨(some 12), (.mov (.t 0)), none⟩,
  ⟨(some 13), (.nilck (.t 12)), none⟩,
  ⟨(some 14), (.faddr 4 (.t 13)), none⟩,
  ⟨none, (.store 1 (.t 14) (.c (.c .nilm))), none⟩])
 (.seq (.kill [] 0) (.seq (.region [
  ⟨(some 2), (.mov (.c (.c (.int .i64 0)))), none⟩])
 (.ret)))))))⟩
/-- (*campanile/version.Book).Version -/
def n136 : NF := ⟨9, [2],
 .seq (.region [
  ⟨(some 2), (.mov (.c (.c (.int .i64 0)))), none⟩])
 (.seq (.kill [0] 0) (.seq (.seq (.region [
  ⟨(some 3), (.mov (.t 0)), none⟩,
  ⟨(some 4), (.bin .eql .ptr (.t 3) (.c (.c .nilp))), none⟩])
 (.seq (.kill [0, 4] 0) (.cond (.t 4)
 (.seq (.region [
   ⟨(some 2), (.mov (.c (.c (.int .i64 0)))), none⟩])
  (.ret))
 (.skip))))
 (.seq (.kill [0] 0) (.seq (.region [
  ⟨(some 5), (.mov (.t 0)), none⟩,
  ⟨(some 6), (.nilck (.t 5)), none⟩,
  ⟨(some 7), (.faddr 1 (.t 6)), none⟩,
  ⟨(some 8), (.load none (.t 7)), none⟩,
  ⟨(some 2), (.mov (.t 8)), none⟩])
 (.ret)))))⟩
/-- (*campanile/version.Book).Waits -/
def n133 : NF := ⟨34, [2],
 .seq (.region [
  ⟨(some 2), (.mov (.c (.c .nils))), none⟩])
 (.seq (.kill [0] 0) (.seq (.seq (.region [
  ⟨(some 5), (.mov (.t 0)), none⟩,
  ⟨(some 6), (.bin .eql .ptr (.t 5) (.c (.c .nilp))), none⟩,
  ⟨(some 7), (.mov (.t 6)), none⟩,
  ⟨(some 8), (.mov (.t 0)), (some (7, false))⟩,
  ⟨(some 9), (.nilck (.t 8)), (some (7, false))⟩,
  ⟨(some 10), (.faddr 4 (.t 9)), (some (7, false))⟩,
  ⟨(some 11), (.load none (.t 10)), (some (7, false))⟩,
  ⟨(some 12), (.bin .eql .map (.t 11) (.c (.c .nilm))), (some (7, false))⟩,
  ⟨(some 13), (.pick (.t 7) (.c (.c (.bool true))) (.t 12)), none⟩])
 (.seq (.kill [0, 13] 0) (.cond (.t 13)
 (.seq (.region [
   ⟨(some 2), (.mov (.c (.c .nils))), none⟩])
  (.ret))
 (.skip))))
 (.seq (.kill [0] 0) (.seq (.region [
  ⟨(some 3), (.mov (.c (.c .nils))), none⟩])
 (.seq (.kill [0, 3] 0) (.seq (.seq (.region [
  ⟨(some 14), (.mov (.t 0)), none⟩,
  ⟨(some 15), (.nilck (.t 14)), none⟩,
  ⟨(some 16), (.faddr 0 (.t 15)), none⟩,
  ⟨(some 17), (.load none (.t 16)), none⟩,
  ⟨(some 18), (.mov (.c (.c (.int .i64 0)))), none⟩])
 (.seq (.kill [0, 3, 17, 18] 0) (.block 0 (.loop (.seq (.kill [0, 3, 17, 18] 0) (.seq (.region [
   ⟨(some 19), (.bin .lss .num (.t 18) (.t 17)), none⟩])
  (.seq (.kill [0, 3, 17, 18, 19] 0) (.seq (.cond (.t 19)
  (.skip)
  (.exit 0))
  (.seq (.kill [0, 3, 17, 18] 0) (.seq (.block 1 (.seq (.region [
   ⟨(some 20), (.mov (.t 18)), none⟩,
   ⟨(some 4), (.mov (.t 20)), none⟩])
  (.seq (.kill [0, 3, 4, 17, 18] 0) (.seq (.region [
   ⟨(some 21), (.mov (.t 0)), none⟩,
   ⟨(some 22), (.nilck (.t 21)), none⟩,
   ⟨(some 23), (.faddr 5 (.t 22)), none⟩,
   ⟨(some 24), (.load none (.t 23)), none⟩,
   ⟨(some 25), (.mov (.t 4)), none⟩,
   ⟨(some 26), (.look (.int .i64) (.c (.int .i64 0)) false (.t 24) (.t 25)), none⟩,
   ⟨(some 27), (.bin .eql .num (.t 26) (.c (.c (.int .i64 0)))), none⟩])
  (.seq (.kill [0, 3, 4, 17, 18, 27] 0) (.cond (.t 27)
  (.region [
    ⟨(some 28), (.mov (.t 3)), none⟩,
    ⟨(some 29), (.mov (.t 4)), none⟩,
    ⟨(some 30), (.bslice true 1 1 [(.int .i64 0)] [(0, (1, (.t 29)))]), none⟩,
    ⟨(some 31), (.app 1 8 (.t 28) (.t 30)), none⟩,
    ⟨(some 3), (.mov (.t 31)), none⟩])
  (.skip)))))))
  (.seq (.kill [0, 3, 17, 18] 0) (.region [
   ⟨(some 32), (.bin .add .num (.t 18) (.c (.c (.int .i64 1)))), none⟩,
   ⟨(some 18), (.mov (.t 32)), none⟩]))))))))))))
 (.seq (.kill [3] 0) (.seq (.region [
  ⟨(some 33), (.mov (.t 3)), none⟩,
  ⟨(some 2), (.mov (.t 33)), none⟩])
 (.ret)))))))))⟩
/-- campanile/campanileref8.SameCells -/
def n229 : NF := ⟨26, [4],
 .seq (.region [
  ⟨(some 4), (.mov (.c (.c (.bool false)))), none⟩])
 (.seq (.kill [0, 1] 0) (.seq (.seq (.region [
  ⟨(some 6), (.mov (.t 0)), none⟩,
  ⟨(some 7), (.len .sl (.t 6)), none⟩,
  ⟨(some 8), (.mov (.t 1)), none⟩,
  ⟨(some 9), (.len .sl (.t 8)), none⟩,
  ⟨(some 10), (.bin .neq .num (.t 7) (.t 9)), none⟩])
 (.seq (.kill [0, 1, 10] 0) (.cond (.t 10)
 (.seq (.region [
   ⟨(some 4), (.mov (.c (.c (.bool false)))), none⟩])
  (.ret))
 (.skip))))
 (.seq (.kill [0, 1] 0) (.seq (.seq (.region [
  ⟨(some 11), (.mov (.t 0)), none⟩,
  ⟨(some 12), (.len .sl (.t 11)), none⟩,
  ⟨(some 13), (.mov (.c (.c (.int .i64 0)))), none⟩])
 (.seq (.kill [0, 1, 12, 13] 0) (.block 0 (.loop (.seq (.kill [0, 1, 12, 13] 0) (.seq (.region [
   ⟨(some 14), (.bin .lss .num (.t 13) (.t 12)), none⟩])
  (.seq (.kill [0, 1, 12, 13, 14] 0) (.seq (.cond (.t 14)
  (.skip)
  (.exit 0))
  (.seq (.kill [0, 1, 12, 13] 0) (.seq (.block 1 (.seq (.region [
   ⟨(some 15), (.mov (.t 13)), none⟩,
   ⟨(some 5), (.mov (.t 15)), none⟩])
  (.seq (.kill [0, 1, 5, 12, 13] 0) (.seq (.draw 0 [
   ⟨0, none, ⟨(some 16), (.mov (.t 0)), none⟩, []⟩,
   ⟨1, none, ⟨(some 17), (.mov (.t 5)), none⟩, []⟩,
   ⟨2, none, ⟨(some 18), (.iaddr 5 (.t 16) (.t 17)), none⟩, []⟩,
   ⟨3, none, ⟨(some 19), (.load (some 5) (.t 18)), none⟩, []⟩,
   ⟨4, none, ⟨(some 20), (.mov (.t 1)), none⟩, []⟩,
   ⟨5, none, ⟨(some 21), (.mov (.t 5)), none⟩, []⟩,
   ⟨6, none, ⟨(some 22), (.iaddr 5 (.t 20) (.t 21)), none⟩, []⟩,
   ⟨7, none, ⟨(some 23), (.load (some 5) (.t 22)), none⟩, []⟩,
   ⟨8, none, ⟨(some 24), (.bin .neq (.st [.int, .int, .int, .int, .int]) (.t 19) (.t 23)), none⟩, []⟩])
  (.seq (.kill [0, 1, 12, 13, 24] 0) (.cond (.t 24)
  (.seq (.region [
    ⟨(some 4), (.mov (.c (.c (.bool false)))), none⟩])
   (.ret))
  (.skip)))))))
  (.seq (.kill [0, 1, 12, 13] 0) (.region [
   ⟨(some 25), (.bin .add .num (.t 13) (.c (.c (.int .i64 1)))), none⟩,
   ⟨(some 13), (.mov (.t 25)), none⟩]))))))))))))
 (.seq (.kill [] 0) (.seq (.region [
  ⟨(some 4), (.mov (.c (.c (.bool true)))), none⟩])
 (.ret)))))))⟩
/-- (*campanile/version.Book).Cells -/
def n140 : NF := ⟨14, [4],
 .seq (.region [
  ⟨(some 4), (.mov (.c (.c .nils))), none⟩])
 (.seq (.kill [0, 1] 0) (.seq (.seq (.region [
  ⟨(some 5), (.mov (.t 0)), none⟩,
  ⟨(some 6), (.bin .eql .ptr (.t 5) (.c (.c .nilp))), none⟩])
 (.seq (.kill [0, 1, 6] 0) (.cond (.t 6)
 (.seq (.region [
   ⟨(some 4), (.mov (.c (.c .nils))), none⟩])
  (.ret))
 (.skip))))
 (.seq (.kill [0, 1] 0) (.seq (.region [
  ⟨(some 7), (.mov (.t 0)), none⟩,
  ⟨(some 8), (.nilck (.t 7)), none⟩,
  ⟨(some 9), (.faddr 3 (.t 8)), none⟩,
  ⟨(some 10), (.load none (.t 9)), none⟩,
  ⟨(some 11), (.mov (.t 1)), none⟩,
  ⟨(some 12), (.look (.int .i64) (.c .nils) false (.t 10) (.t 11)), none⟩,
  ⟨(some 13), (.call 147 [(.t 12)]), none⟩,
  ⟨(some 4), (.mov (.t 13)), none⟩])
 (.ret)))))⟩
/-- (*campanile/version.Plan).Prepare -/
def n141 : NF := ⟨43, [6],
 .seq (.region [
  ⟨(some 6), (.mov (.c (.c (.int .i64 0)))), none⟩])
 (.seq (.kill [0, 1, 2] 0) (.seq (.block 0 (.seq (.region [
  ⟨(some 8), (.mov (.t 0)), none⟩,
  ⟨(some 9), (.bin .eql .ptr (.t 8) (.c (.c .nilp))), none⟩,
  ⟨(some 10), (.mov (.t 9)), none⟩,
  ⟨(some 11), (.mov (.t 1)), (some (10, false))⟩,
  ⟨(some 12), (.bin .lss .num (.t 11) (.c (.c (.int .i64 1)))), (some (10, false))⟩,
  ⟨(some 13), (.pick (.t 10) (.c (.c (.bool true))) (.t 12)), none⟩,
  ⟨(some 14), (.mov (.t 13)), none⟩,
  ⟨(some 15), (.mov (.t 2)), (some (14, false))⟩,
  ⟨(some 16), (.len .sl (.t 15)), (some (14, false))⟩,
  ⟨(some 17), (.bin .gtr .num (.t 16) (.c (.c (.int .i64 64)))), (some (14, false))⟩,
  ⟨(some 18), (.pick (.t 14) (.c (.c (.bool true))) (.t 17)), none⟩,
  ⟨(some 19), (.mov (.t 18)), none⟩,
  ⟨(some 20), (.mov (.t 2)), (some (19, false))⟩,
  ⟨(some 21), (.call 148 [(.t 20), (.c (.c (.fn 149 [])))]), (some (19, false))⟩,
  ⟨(some 22), (.pick (.t 19) (.c (.c (.bool true))) (.t 21)), none⟩,
  ⟨(some 23), (.mov (.t 22)), none⟩,
  ⟨(some 24), (.mov (.t 2)), (some (23, false))⟩,
  ⟨(some 25), (.call 150 [(.t 24)]), (some (23, false))⟩,
  ⟨(some 26), (.pick (.t 23) (.c (.c (.bool true))) (.t 25)), none⟩,
  ⟨(some 7), (.mov (.t 26)), none⟩])
 (.seq (.kill [0, 1, 2, 7] 0) (.cond (.t 7)
 (.seq (.region [
   ⟨(some 6), (.mov (.c (.c (.int .i64 1)))), none⟩])
  (.ret))
 (.seq (.region [
   ⟨(some 28), (.mov (.t 1)), none⟩,
   ⟨(some 29), (.mov (.t 0)), none⟩,
   ⟨(some 30), (.nilck (.t 29)), none⟩,
   ⟨(some 31), (.faddr 0 (.t 30)), none⟩,
   ⟨(some 32), (.load none (.t 31)), none⟩,
   ⟨(some 33), (.bin .leq .num (.t 28) (.t 32)), none⟩,
   ⟨(some 27), (.mov (.t 33)), none⟩])
  (.seq (.kill [0, 1, 2, 27] 0) (.cond (.t 27)
  (.seq (.region [
    ⟨(some 6), (.mov (.c (.c (.int .i64 8)))), none⟩])
   (.ret))
  (.skip))))))))
 (.seq (.kill [0, 1, 2] 0) (.seq (.region [
  ⟨(some 34), (.mov (.t 0)), none⟩,
  ⟨(some 35), (.mov (.t 0)), none⟩,
  ⟨(some 36), (.mov (.t 1)), none⟩,
  ⟨(some 37), (.mov (.t 2)), none⟩,
  ⟨(some 38), (.call 146 [(.t 37)]), none⟩,
  ⟨(some 39), (.nilck (.t 34)), none⟩,
  ⟨(some 40), (.faddr 2 (.t 39)), none⟩,
  ⟨none, (.store 1 (.t 40) (.t 36)), none⟩,
  ⟨(some 41), (.nilck (.t 35)), none⟩,
  ⟨(some 42), (.faddr 3 (.t 41)), none⟩,
  ⟨none, (.store 1 (.t 42) (.t 38)), none⟩])
 (.seq (.kill [] 0) (.seq (.region [
  ⟨(some 6), (.mov (.c (.c (.int .i64 0)))), none⟩])
 (.ret)))))))⟩
/-- (*campanile/version.Plan).Commit -/
def n142 : NF := ⟨39, [4],
 .seq (.region [
  ⟨(some 4), (.mov (.c (.c (.int .i64 0)))), none⟩])
 (.seq (.kill [0, 1] 0) (.seq (.block 0 (.seq (.region [
  ⟨(some 6), (.mov (.t 0)), none⟩,
  ⟨(some 7), (.bin .eql .ptr (.t 6) (.c (.c .nilp))), none⟩,
  ⟨(some 5), (.mov (.t 7)), none⟩])
 (.seq (.kill [0, 1, 5] 0) (.cond (.t 5)
 (.seq (.region [
   ⟨(some 4), (.mov (.c (.c (.int .i64 1)))), none⟩])
  (.ret))
 (.seq (.region [
   ⟨(some 9), (.mov (.t 0)), none⟩,
   ⟨(some 10), (.nilck (.t 9)), none⟩,
   ⟨(some 11), (.faddr 2 (.t 10)), none⟩,
   ⟨(some 12), (.load none (.t 11)), none⟩,
   ⟨(some 13), (.bin .eql .num (.t 12) (.c (.c (.int .i64 0)))), none⟩,
   ⟨(some 14), (.mov (.t 13)), none⟩,
   ⟨(some 15), (.mov (.t 1)), (some (14, false))⟩,
   ⟨(some 16), (.mov (.t 0)), (some (14, false))⟩,
   ⟨(some 17), (.nilck (.t 16)), (some (14, false))⟩,
   ⟨(some 18), (.faddr 2 (.t 17)), (some (14, false))⟩,
   ⟨(some 19), (.load none (.t 18)), (some (14, false))⟩,
   ⟨(some 20), (.bin .neq .num (.t 15) (.t 19)), (some (14, false))⟩,
   ⟨(some 21), (.pick (.t 14) (.c (.c (.bool true))) (.t 20)), none⟩,
   ⟨(some 8), (.mov (.t 21)), none⟩])
  (.seq (.kill [0, 1, 8] 0) (.cond (.t 8)
  (.seq (.region [
    ⟨(some 4), (.mov (.c (.c (.int .i64 7)))), none⟩])
   (.ret))
  (.skip))))))))
 (.seq (.kill [0, 1] 0) (.seq (.region [
  ⟨(some 22), (.mov (.t 0)), none⟩,
  ⟨(some 23), (.mov (.t 0)), none⟩,
  ⟨(some 24), (.mov (.t 0)), none⟩,
  ⟨(some 25), (.mov (.t 0)), none⟩,
  ⟨(some 26), (.mov (.t 1)), none⟩,
  ⟨(some 27), (.mov (.t 0)), none⟩,
  ⟨(some 28), (.nilck (.t 27)), none⟩,
  ⟨(some 29), (.faddr 3 (.t 28)), none⟩,
  ⟨(some 30), (.load none (.t 29)), none⟩,
  ⟨(some 31), (.nilck (.t 22)), none⟩,
  ⟨(some 32), (.faddr 0 (.t 31)), none⟩,
  ⟨none, (.store 1 (.t 32) (.t 26)), none⟩,
  ⟨(some 33), (.nilck (.t 23)), none⟩,
  ⟨(some 34), (.faddr 1 (.t 33)), none⟩,
  ⟨none, (.store 1 (.t 34) (.t 30)), none⟩,
  ⟨(some 35), (.nilck (.t 24)), none⟩,
  ⟨(some 36), (.faddr 2 (.t 35)), none⟩,
  ⟨none, (.store 1 (.t 36) (.c (.c (.int .i64 0)))), none⟩,
  ⟨(some 37), (.nilck (.t 25)), none⟩,
  ⟨(some 38), (.faddr 3 (.t 37)), none⟩,
  ⟨none, (.store 1 (.t 38) (.c (.c .nils))), none⟩])
 (.seq (.kill [] 0) (.seq (.region [
  ⟨(some 4), (.mov (.c (.c (.int .i64 0)))), none⟩])
 (.ret)))))))⟩
/-- (*campanile/version.Plan).Cells -/
def n143 : NF := ⟨10, [2],
 .seq (.region [
  ⟨(some 2), (.mov (.c (.c .nils))), none⟩])
 (.seq (.kill [0] 0) (.seq (.seq (.region [
  ⟨(some 3), (.mov (.t 0)), none⟩,
  ⟨(some 4), (.bin .eql .ptr (.t 3) (.c (.c .nilp))), none⟩])
 (.seq (.kill [0, 4] 0) (.cond (.t 4)
 (.seq (.region [
   ⟨(some 2), (.mov (.c (.c .nils))), none⟩])
  (.ret))
 (.skip))))
 (.seq (.kill [0] 0) (.seq (.region [
  ⟨(some 5), (.mov (.t 0)), none⟩,
  ⟨(some 6), (.nilck (.t 5)), none⟩,
  ⟨(some 7), (.faddr 1 (.t 6)), none⟩,
  ⟨(some 8), (.load none (.t 7)), none⟩,
  ⟨(some 9), (.call 147 [(.t 8)]), none⟩,
  ⟨(some 2), (.mov (.t 9)), none⟩])
 (.ret)))))⟩
/-- (*campanile/version.Plan).Version -/
def n144 : NF := ⟨9, [2],
 .seq (.region [
  ⟨(some 2), (.mov (.c (.c (.int .i64 0)))), none⟩])
 (.seq (.kill [0] 0) (.seq (.seq (.region [
  ⟨(some 3), (.mov (.t 0)), none⟩,
  ⟨(some 4), (.bin .eql .ptr (.t 3) (.c (.c .nilp))), none⟩])
 (.seq (.kill [0, 4] 0) (.cond (.t 4)
 (.seq (.region [
   ⟨(some 2), (.mov (.c (.c (.int .i64 0)))), none⟩])
  (.ret))
 (.skip))))
 (.seq (.kill [0] 0) (.seq (.region [
  ⟨(some 5), (.mov (.t 0)), none⟩,
  ⟨(some 6), (.nilck (.t 5)), none⟩,
  ⟨(some 7), (.faddr 0 (.t 6)), none⟩,
  ⟨(some 8), (.load none (.t 7)), none⟩,
  ⟨(some 2), (.mov (.t 8)), none⟩])
 (.ret)))))⟩
/-- campanile/version.NewPlan -/
def n231 : NF := ⟨3, [0],
 .seq (.region [
  ⟨(some 0), (.mov (.c (.c .nilp))), none⟩])
 (.seq (.kill [] 0) (.seq (.region [
  ⟨(some 1), (.build [(.int .i64 0), .nils, (.int .i64 0), .nils] []), none⟩,
  ⟨(some 2), (.box false 4 (.t 1)), none⟩,
  ⟨(some 0), (.mov (.t 2)), none⟩])
 (.ret)))⟩
/-- campanile/campanileref18.Clean -/
def n217 : NF := ⟨70, [2],
 .seq (.region [
  ⟨(some 1), (.box true 16 (.t 0)), none⟩,
  ⟨(some 2), (.mov (.c (.c (.bool false)))), none⟩])
 (.seq (.kill [1] 1) (.seq (.seq (.region [
  ⟨(some 12), (.faddr 0 (.t 1)), none⟩,
  ⟨(some 13), (.load (some 16) (.t 12)), none⟩,
  ⟨(some 14), (.mov (.c (.c (.int .i64 0)))), none⟩])
 (.seq (.kill [1, 13, 14] 1) (.block 0 (.loop (.seq (.kill [1, 13, 14] 1) (.seq (.region [
   ⟨(some 15), (.bin .lss .num (.t 14) (.c (.c (.int .i64 16)))), none⟩])
  (.seq (.kill [1, 13, 14, 15] 1) (.seq (.cond (.t 15)
  (.skip)
  (.exit 0))
  (.seq (.kill [1, 13, 14] 1) (.seq (.block 1 (.seq (.region [
   ⟨(some 16), (.mov (.t 14)), none⟩,
   ⟨(some 17), (.index 16 1 false (.t 13) (.t 14)), none⟩,
   ⟨(some 3), (.mov (.t 16)), none⟩,
   ⟨(some 4), (.mov (.t 17)), none⟩])
  (.seq (.kill [1, 3, 4, 13, 14] 1) (.seq (.region [
   ⟨(some 18), (.mov (.t 4)), none⟩,
   ⟨(some 19), (.len .sl (.t 18)), none⟩,
   ⟨(some 20), (.mov (.c (.c (.int .i64 0)))), none⟩])
  (.seq (.kill [1, 3, 4, 13, 14, 18, 19, 20] 1) (.block 2 (.loop (.seq (.kill [1, 3, 4, 13, 14, 18, 19, 20] 1) (.seq (.region [
    ⟨(some 21), (.bin .lss .num (.t 20) (.t 19)), none⟩])
   (.seq (.kill [1, 3, 4, 13, 14, 18, 19, 20, 21] 1) (.seq (.cond (.t 21)
   (.skip)
   (.exit 2))
   (.seq (.kill [1, 3, 4, 13, 14, 18, 19, 20] 1) (.seq (.block 3 (.seq (.region [
    ⟨(some 22), (.mov (.t 20)), none⟩,
    ⟨(some 23), (.iaddr 5 (.t 18) (.t 20)), none⟩,
    ⟨(some 24), (.load (some 5) (.t 23)), none⟩,
    ⟨(some 6), (.box true 5 (.c (.agg [(.int .i64 0), (.int .i64 0), (.int .i64 0), (.int .i64 0), (.int .i64 0)]))), none⟩,
    ⟨(some 5), (.mov (.t 22)), none⟩,
    ⟨none, (.store 5 (.t 6) (.t 24)), none⟩])
   (.seq (.kill [1, 3, 4, 5, 6, 13, 14, 18, 19, 20] 2) (.seq (.seq (.region [
    ⟨(some 25), (.load (some 5) (.t 6)), none⟩,
    ⟨(some 26), (.call 218 [(.t 25)]), none⟩,
    ⟨(some 27), (.un .not (.t 26)), none⟩,
    ⟨(some 28), (.mov (.t 27)), none⟩,
    ⟨(some 29), (.faddr 3 (.t 6)), (some (28, false))⟩,
    ⟨(some 30), (.load none (.t 29)), (some (28, false))⟩,
    ⟨(some 31), (.bin .and .num (.t 30) (.c (.c (.int .i64 4)))), (some (28, false))⟩,
    ⟨(some 32), (.bin .neq .num (.t 31) (.c (.c (.int .i64 0)))), (some (28, false))⟩,
    ⟨(some 33), (.pick (.t 28) (.c (.c (.bool true))) (.t 32)), none⟩])
   (.seq (.kill [1, 3, 4, 5, 6, 13, 14, 18, 19, 20, 33] 2) (.cond (.t 33)
   (.seq (.region [
     ⟨(some 2), (.mov (.c (.c (.bool false)))), none⟩])
    (.ret))
   (.skip))))
   (.seq (.kill [1, 3, 4, 5, 6, 13, 14, 18, 19, 20] 2) (.seq (.seq (.region [
    ⟨(some 34), (.mov (.t 4)), none⟩,
    ⟨(some 35), (.mov (.t 5)), none⟩,
    ⟨(some 36), (.slice 5 (.t 34) none (some (.t 35)) none), none⟩,
    ⟨(some 37), (.len .sl (.t 36)), none⟩,
    ⟨(some 38), (.mov (.c (.c (.int .i64 0)))), none⟩])
   (.seq (.kill [1, 3, 4, 6, 13, 14, 18, 19, 20, 36, 37, 38] 2) (.block 4 (.loop (.seq (.kill [1, 3, 4, 6, 13, 14, 18, 19, 20, 36, 37, 38] 2) (.seq (.region [
     ⟨(some 39), (.bin .lss .num (.t 38) (.t 37)), none⟩])
    (.seq (.kill [1, 3, 4, 6, 13, 14, 18, 19, 20, 36, 37, 38, 39] 2) (.seq (.cond (.t 39)
    (.skip)
    (.exit 4))
    (.seq (.kill [1, 3, 4, 6, 13, 14, 18, 19, 20, 36, 37, 38] 2) (.seq (.block 5 (.seq (.region [
     ⟨(some 40), (.iaddr 5 (.t 36) (.t 38)), none⟩,
     ⟨(some 41), (.load (some 5) (.t 40)), none⟩,
     ⟨(some 8), (.box true 5 (.c (.agg [(.int .i64 0), (.int .i64 0), (.int .i64 0), (.int .i64 0), (.int .i64 0)]))), none⟩,
     ⟨none, (.store 5 (.t 8) (.t 41)), none⟩])
    (.seq (.kill [1, 3, 4, 6, 8, 13, 14, 18, 19, 20, 36, 37, 38] 3) (.seq (.region [
     ⟨(some 42), (.load (some 5) (.t 6)), none⟩,
     ⟨(some 43), (.load (some 5) (.t 8)), none⟩,
     ⟨(some 44), (.mov (.t 3)), none⟩,
     ⟨(some 45), (.mov (.t 3)), none⟩,
     ⟨(some 46), (.call 216 [(.t 42), (.t 43), (.t 44), (.t 45)]), none⟩])
    (.seq (.kill [1, 3, 4, 6, 13, 14, 18, 19, 20, 36, 37, 38, 46] 2) (.cond (.t 46)
    (.seq (.region [
      ⟨(some 2), (.mov (.c (.c (.bool false)))), none⟩])
     (.ret))
    (.skip)))))))
    (.seq (.kill [1, 3, 4, 6, 13, 14, 18, 19, 20, 36, 37, 38] 2) (.region [
     ⟨(some 47), (.bin .add .num (.t 38) (.c (.c (.int .i64 1)))), none⟩,
     ⟨(some 38), (.mov (.t 47)), none⟩]))))))))))))
   (.seq (.kill [1, 3, 4, 6, 13, 14, 18, 19, 20] 2) (.seq (.region [
    ⟨(some 48), (.mov (.t 3)), none⟩,
    ⟨(some 49), (.mov (.c (.c (.int .i64 0)))), none⟩])
   (.seq (.kill [1, 3, 4, 6, 13, 14, 18, 19, 20, 48, 49] 2) (.block 6 (.loop (.seq (.kill [1, 3, 4, 6, 13, 14, 18, 19, 20, 48, 49] 2) (.seq (.region [
     ⟨(some 50), (.bin .lss .num (.t 49) (.t 48)), none⟩])
    (.seq (.kill [1, 3, 4, 6, 13, 14, 18, 19, 20, 48, 49, 50] 2) (.seq (.cond (.t 50)
    (.skip)
    (.exit 6))
    (.seq (.kill [1, 3, 4, 6, 13, 14, 18, 19, 20, 48, 49] 2) (.seq (.block 7 (.seq (.region [
     ⟨(some 51), (.mov (.t 49)), none⟩,
     ⟨(some 9), (.mov (.t 51)), none⟩])
    (.seq (.kill [1, 3, 4, 6, 9, 13, 14, 18, 19, 20, 48, 49] 2) (.seq (.region [
     ⟨(some 52), (.mov (.t 9)), none⟩,
     ⟨(some 53), (.faddr 0 (.t 1)), none⟩,
     ⟨(some 54), (.iaddrA 16 1 (.t 53) (.t 52)), none⟩,
     ⟨(some 55), (.load none (.t 54)), none⟩,
     ⟨(some 56), (.len .sl (.t 55)), none⟩,
     ⟨(some 57), (.mov (.c (.c (.int .i64 0)))), none⟩])
    (.seq (.kill [1, 3, 4, 6, 9, 13, 14, 18, 19, 20, 48, 49, 55, 56, 57] 2) (.block 8 (.loop (.seq (.kill [1, 3, 4, 6, 9, 13, 14, 18, 19, 20, 48, 49, 55, 56, 57] 2) (.seq (.region [
      ⟨(some 58), (.bin .lss .num (.t 57) (.t 56)), none⟩])
     (.seq (.kill [1, 3, 4, 6, 9, 13, 14, 18, 19, 20, 48, 49, 55, 56, 57, 58] 2) (.seq (.cond (.t 58)
     (.skip)
     (.exit 8))
     (.seq (.kill [1, 3, 4, 6, 9, 13, 14, 18, 19, 20, 48, 49, 55, 56, 57] 2) (.seq (.block 9 (.seq (.region [
      ⟨(some 59), (.iaddr 5 (.t 55) (.t 57)), none⟩,
      ⟨(some 60), (.load (some 5) (.t 59)), none⟩,
      ⟨(some 11), (.box true 5 (.c (.agg [(.int .i64 0), (.int .i64 0), (.int .i64 0), (.int .i64 0), (.int .i64 0)]))), none⟩,
      ⟨none, (.store 5 (.t 11) (.t 60)), none⟩])
     (.seq (.kill [1, 3, 4, 6, 9, 11, 13, 14, 18, 19, 20, 48, 49, 55, 56, 57] 3) (.seq (.region [
      ⟨(some 61), (.load (some 5) (.t 6)), none⟩,
      ⟨(some 62), (.load (some 5) (.t 11)), none⟩,
      ⟨(some 63), (.mov (.t 3)), none⟩,
      ⟨(some 64), (.mov (.t 9)), none⟩,
      ⟨(some 65), (.call 216 [(.t 61), (.t 62), (.t 63), (.t 64)]), none⟩])
     (.seq (.kill [1, 3, 4, 6, 9, 13, 14, 18, 19, 20, 48, 49, 55, 56, 57, 65] 2) (.cond (.t 65)
     (.seq (.region [
       ⟨(some 2), (.mov (.c (.c (.bool false)))), none⟩])
      (.ret))
     (.skip)))))))
     (.seq (.kill [1, 3, 4, 6, 9, 13, 14, 18, 19, 20, 48, 49, 55, 56, 57] 2) (.region [
      ⟨(some 66), (.bin .add .num (.t 57) (.c (.c (.int .i64 1)))), none⟩,
      ⟨(some 57), (.mov (.t 66)), none⟩])))))))))))))))
    (.seq (.kill [1, 3, 4, 6, 13, 14, 18, 19, 20, 48, 49] 2) (.region [
     ⟨(some 67), (.bin .add .num (.t 49) (.c (.c (.int .i64 1)))), none⟩,
     ⟨(some 49), (.mov (.t 67)), none⟩])))))))))))))))))))
   (.seq (.kill [1, 3, 4, 13, 14, 18, 19, 20] 1) (.region [
    ⟨(some 68), (.bin .add .num (.t 20) (.c (.c (.int .i64 1)))), none⟩,
    ⟨(some 20), (.mov (.t 68)), none⟩])))))))))))))))
  (.seq (.kill [1, 13, 14] 1) (.region [
   ⟨(some 69), (.bin .add .num (.t 14) (.c (.c (.int .i64 1)))), none⟩,
   ⟨(some 14), (.mov (.t 69)), none⟩]))))))))))))
 (.seq (.kill [] 0) (.seq (.region [
  ⟨(some 2), (.mov (.c (.c (.bool true)))), none⟩])
 (.ret)))))⟩
/-- campanile/campanileref8.Sorted -/
def n232 : NF := ⟨41, [2],
 .seq (.region [
  ⟨(some 2), (.mov (.c (.c .nils))), none⟩])
 (.seq (.kill [0] 0) (.seq (.region [
  ⟨(some 3), (.mov (.c (.c .nils))), none⟩])
 (.seq (.kill [0, 3] 0) (.seq (.seq (.region [
  ⟨(some 7), (.mov (.t 0)), none⟩,
  ⟨(some 8), (.len .sl (.t 7)), none⟩,
  ⟨(some 9), (.mov (.c (.c (.int .i64 0)))), none⟩])
 (.seq (.kill [3, 7, 8, 9] 0) (.block 0 (.loop (.seq (.kill [3, 7, 8, 9] 0) (.seq (.region [
   ⟨(some 10), (.bin .lss .num (.t 9) (.t 8)), none⟩])
  (.seq (.kill [3, 7, 8, 9, 10] 0) (.seq (.cond (.t 10)
  (.skip)
  (.exit 0))
  (.seq (.kill [3, 7, 8, 9] 0) (.seq (.block 1 (.seq (.region [
   ⟨(some 11), (.iaddr 5 (.t 7) (.t 9)), none⟩,
   ⟨(some 12), (.load (some 5) (.t 11)), none⟩,
   ⟨(some 5), (.box true 5 (.c (.agg [(.int .i64 0), (.int .i64 0), (.int .i64 0), (.int .i64 0), (.int .i64 0)]))), none⟩,
   ⟨none, (.store 5 (.t 5) (.t 12)), none⟩])
  (.seq (.kill [3, 5, 7, 8, 9] 1) (.seq (.region [
   ⟨(some 6), (.mov (.c (.c (.int .i64 0)))), none⟩])
  (.seq (.kill [3, 5, 6, 7, 8, 9] 1) (.seq (.block 2 (.loop (.seq (.kill [3, 5, 6, 7, 8, 9] 1) (.seq (.seq (.draw 0 [
    ⟨0, none, ⟨(some 13), (.mov (.t 6)), none⟩, []⟩,
    ⟨1, none, ⟨(some 14), (.mov (.t 3)), none⟩, []⟩,
    ⟨2, none, ⟨(some 15), (.len .sl (.t 14)), none⟩, []⟩,
    ⟨3, none, ⟨(some 16), (.bin .lss .num (.t 13) (.t 15)), none⟩, []⟩,
    ⟨4, none, ⟨(some 17), (.mov (.t 16)), none⟩, []⟩,
    ⟨5, none, ⟨(some 18), (.load (some 5) (.t 5)), (some (17, true))⟩, []⟩,
    ⟨6, none, ⟨(some 19), (.mov (.t 3)), (some (17, true))⟩, []⟩,
    ⟨7, none, ⟨(some 20), (.mov (.t 6)), (some (17, true))⟩, []⟩,
    ⟨8, none, ⟨(some 21), (.iaddr 5 (.t 19) (.t 20)), (some (17, true))⟩, []⟩,
    ⟨9, none, ⟨(some 22), (.load (some 5) (.t 21)), (some (17, true))⟩, []⟩,
    ⟨10, none, ⟨(some 23), (.call 233 [(.t 18), (.t 22)]), (some (17, true))⟩, []⟩,
    ⟨11, none, ⟨(some 24), (.un .not (.t 23)), (some (17, true))⟩, []⟩,
    ⟨12, none, ⟨(some 25), (.pick (.t 17) (.t 24) (.c (.c (.bool false)))), none⟩, []⟩])
   (.seq (.kill [3, 5, 6, 7, 8, 9, 25] 1) (.cond (.t 25)
   (.skip)
   (.exit 2))))
   (.seq (.kill [3, 5, 6, 7, 8, 9] 1) (.block 3 (.region [
    ⟨(some 26), (.mov (.t 6)), none⟩,
    ⟨(some 27), (.bin .add .num (.t 26) (.c (.c (.int .i64 1)))), none⟩,
    ⟨(some 6), (.mov (.t 27)), none⟩])))))))
  (.seq (.kill [3, 5, 6, 7, 8, 9] 1) (.draw 1 [
   ⟨0, none, ⟨(some 28), (.mov (.t 3)), none⟩, []⟩,
   ⟨1, none, ⟨(some 29), (.mov (.t 6)), none⟩, []⟩,
   ⟨2, none, ⟨(some 30), (.slice 5 (.t 28) none (some (.t 29)) none), none⟩, []⟩,
   ⟨4, none, ⟨(some 32), (.load (some 5) (.t 5)), none⟩, []⟩,
   ⟨7, none, ⟨(some 35), (.mov (.t 3)), none⟩, []⟩,
   ⟨8, none, ⟨(some 36), (.mov (.t 6)), none⟩, []⟩,
   ⟨9, none, ⟨(some 37), (.slice 5 (.t 35) (some (.t 36)) none none), none⟩, []⟩,
   ⟨3, none, ⟨(some 31), (.app 5 40 (.c (.c .nils)) (.t 30)), none⟩, [(4, ⟨(some 32), (.load (some 5) (.t 5)), none⟩), (9, ⟨(some 37), (.slice 5 (.t 35) (some (.t 36)) none none), none⟩)]⟩,
   ⟨5, (some 0), ⟨(some 33), (.bslice false 5 1 [(.int .i64 0), (.int .i64 0), (.int .i64 0), (.int .i64 0), (.int .i64 0)] [(0, (5, (.t 32)))]), none⟩, []⟩,
   ⟨6, none, ⟨(some 34), (.app 5 40 (.t 31) (.t 33)), none⟩, [(9, ⟨(some 37), (.slice 5 (.t 35) (some (.t 36)) none none), none⟩)]⟩,
   ⟨10, none, ⟨(some 38), (.app 5 40 (.t 34) (.t 37)), none⟩, []⟩,
   ⟨11, none, ⟨(some 3), (.mov (.t 38)), none⟩, []⟩]))))))))
  (.seq (.kill [3, 7, 8, 9] 0) (.region [
   ⟨(some 39), (.bin .add .num (.t 9) (.c (.c (.int .i64 1)))), none⟩,
   ⟨(some 9), (.mov (.t 39)), none⟩]))))))))))))
 (.seq (.kill [3] 0) (.seq (.region [
  ⟨(some 40), (.mov (.t 3)), none⟩,
  ⟨(some 2), (.mov (.t 40)), none⟩])
 (.ret)))))))⟩
/-- campanile/campanileref1.Node -/
def n44 : NF := ⟨9, [2],
 .seq (.region [
  ⟨(some 2), (.mov (.c (.c (.bool false)))), none⟩])
 (.seq (.kill [0] 0) (.seq (.region [
  ⟨(some 3), (.mov (.t 0)), none⟩,
  ⟨(some 4), (.bin .geq .num (.t 3) (.c (.c (.int .i64 0)))), none⟩,
  ⟨(some 5), (.mov (.t 4)), none⟩,
  ⟨(some 6), (.mov (.t 0)), (some (5, true))⟩,
  ⟨(some 7), (.bin .lss .num (.t 6) (.c (.c (.int .i64 16)))), (some (5, true))⟩,
  ⟨(some 8), (.pick (.t 5) (.t 7) (.c (.c (.bool false)))), none⟩,
  ⟨(some 2), (.mov (.t 8)), none⟩])
 (.ret)))⟩
/-- (*campanile/version.Book).has -/
def n145 : NF := ⟨15, [4],
 .seq (.region [
  ⟨(some 4), (.mov (.c (.c (.bool false)))), none⟩])
 (.seq (.kill [0, 1] 0) (.seq (.region [
  ⟨(some 5), (.mov (.t 1)), none⟩,
  ⟨(some 6), (.bin .geq .num (.t 5) (.c (.c (.int .i64 0)))), none⟩,
  ⟨(some 7), (.mov (.t 6)), none⟩,
  ⟨(some 8), (.mov (.t 1)), (some (7, true))⟩,
  ⟨(some 9), (.mov (.t 0)), (some (7, true))⟩,
  ⟨(some 10), (.nilck (.t 9)), (some (7, true))⟩,
  ⟨(some 11), (.faddr 0 (.t 10)), (some (7, true))⟩,
  ⟨(some 12), (.load none (.t 11)), (some (7, true))⟩,
  ⟨(some 13), (.bin .lss .num (.t 8) (.t 12)), (some (7, true))⟩,
  ⟨(some 14), (.pick (.t 7) (.t 13) (.c (.c (.bool false)))), none⟩,
  ⟨(some 4), (.mov (.t 14)), none⟩])
 (.ret)))⟩
/-- campanile/version.sorted -/
def n146 : NF := ⟨8, [2],
 .seq (.region [
  ⟨(some 2), (.mov (.c (.c .nils))), none⟩])
 (.seq (.kill [0] 0) (.seq (.region [
  ⟨(some 3), (.mov (.t 0)), none⟩,
  ⟨(some 4), (.call 147 [(.t 3)]), none⟩,
  ⟨(some 0), (.mov (.t 4)), none⟩])
 (.seq (.kill [0] 0) (.seq (.region [
  ⟨(some 5), (.mov (.t 0)), none⟩,
  ⟨(some 6), (.call 151 [(.t 5), (.c (.c (.fn 152 [])))]), none⟩])
 (.seq (.kill [0] 0) (.seq (.region [
  ⟨(some 7), (.mov (.t 0)), none⟩,
  ⟨(some 2), (.mov (.t 7)), none⟩])
 (.ret)))))))⟩
/-- campanile/alloc.Clean -/
def n120 : NF := ⟨48, [2],
 .seq (.region [
  ⟨(some 2), (.mov (.c (.c (.bool false)))), none⟩])
 (.seq (.kill [0] 0) (.seq (.region [
  ⟨(some 3), (.mov (.c (.c .nils))), none⟩])
 (.seq (.kill [0, 3] 0) (.seq (.seq (.region [
  ⟨(some 8), (.mov (.t 0)), none⟩,
  ⟨(some 9), (.range .map (.t 8)), none⟩])
 (.seq (.kill [3, 9] 0) (.block 0 (.loop (.seq (.kill [3, 9] 0) (.seq (.region [
   ⟨(some 10), (.next false (.t 9)), none⟩,
   ⟨(some 11), (.ext (.t 10) 0), none⟩])
  (.seq (.kill [3, 9, 11] 0) (.seq (.cond (.t 11)
  (.skip)
  (.exit 0))
  (.seq (.kill [3, 9] 0) (.block 1 (.seq (.region [
   ⟨(some 12), (.entry (.t 9)), none⟩,
   ⟨(some 13), (.ext (.t 12) 0), none⟩,
   ⟨(some 14), (.ext (.t 12) 1), none⟩,
   ⟨(some 4), (.mov (.t 13)), none⟩,
   ⟨(some 5), (.mov (.t 14)), none⟩])
  (.seq (.kill [3, 4, 5, 9] 0) (.seq (.region [
   ⟨(some 15), (.mov (.t 5)), none⟩,
   ⟨(some 16), (.len .sl (.t 15)), none⟩,
   ⟨(some 17), (.mov (.c (.c (.int .i64 0)))), none⟩])
  (.seq (.kill [3, 4, 9, 15, 16, 17] 0) (.block 2 (.loop (.seq (.kill [3, 4, 9, 15, 16, 17] 0) (.seq (.region [
    ⟨(some 18), (.bin .lss .num (.t 17) (.t 16)), none⟩])
   (.seq (.kill [3, 4, 9, 15, 16, 17, 18] 0) (.seq (.cond (.t 18)
   (.skip)
   (.exit 2))
   (.seq (.kill [3, 4, 9, 15, 16, 17] 0) (.seq (.block 3 (.seq (.region [
    ⟨(some 19), (.iaddr 5 (.t 15) (.t 17)), none⟩,
    ⟨(some 20), (.load (some 5) (.t 19)), none⟩,
    ⟨(some 7), (.box true 5 (.c (.agg [(.int .i64 0), (.int .i64 0), (.int .i64 0), (.int .i64 0), (.int .i64 0)]))), none⟩,
    ⟨none, (.store 5 (.t 7) (.t 20)), none⟩])
   (.seq (.kill [3, 4, 7, 9, 15, 16, 17] 1) (.seq (.seq (.region [
    ⟨(some 21), (.mov (.t 4)), none⟩,
    ⟨(some 22), (.call 122 [(.t 21)]), none⟩,
    ⟨(some 23), (.un .not (.t 22)), none⟩,
    ⟨(some 24), (.mov (.t 23)), none⟩,
    ⟨(some 25), (.load (some 5) (.t 7)), (some (24, false))⟩,
    ⟨(some 26), (.call 121 [(.t 25)]), (some (24, false))⟩,
    ⟨(some 27), (.un .not (.t 26)), (some (24, false))⟩,
    ⟨(some 28), (.pick (.t 24) (.c (.c (.bool true))) (.t 27)), none⟩,
    ⟨(some 29), (.mov (.t 28)), none⟩,
    ⟨(some 30), (.faddr 3 (.t 7)), (some (29, false))⟩,
    ⟨(some 31), (.load none (.t 30)), (some (29, false))⟩,
    ⟨(some 32), (.bin .and .num (.t 31) (.c (.c (.int .i64 4)))), (some (29, false))⟩,
    ⟨(some 33), (.bin .neq .num (.t 32) (.c (.c (.int .i64 0)))), (some (29, false))⟩,
    ⟨(some 34), (.pick (.t 29) (.c (.c (.bool true))) (.t 33)), none⟩,
    ⟨(some 35), (.mov (.t 34)), none⟩,
    ⟨(some 36), (.mov (.t 3)), (some (35, false))⟩,
    ⟨(some 37), (.mov (.t 4)), (some (35, false))⟩,
    ⟨(some 38), (.load (some 5) (.t 7)), (some (35, false))⟩,
    ⟨(some 39), (.call 126 [(.t 36), (.t 37), (.t 38)]), (some (35, false))⟩,
    ⟨(some 40), (.pick (.t 35) (.c (.c (.bool true))) (.t 39)), none⟩])
   (.seq (.kill [3, 4, 7, 9, 15, 16, 17, 40] 1) (.cond (.t 40)
   (.seq (.region [
     ⟨(some 2), (.mov (.c (.c (.bool false)))), none⟩])
    (.ret))
   (.skip))))
   (.seq (.kill [3, 4, 7, 9, 15, 16, 17] 1) (.region [
    ⟨(some 41), (.mov (.t 3)), none⟩,
    ⟨(some 42), (.mov (.t 4)), none⟩,
    ⟨(some 43), (.load (some 5) (.t 7)), none⟩,
    ⟨(some 44), (.build [(.int .i64 0), (.int .i64 0), (.int .i64 0), (.int .i64 0), (.int .i64 0), (.int .i64 0)] [(0, (1, (.t 42))), (1, (5, (.t 43)))]), none⟩,
    ⟨(some 45), (.bslice true 6 1 [(.int .i64 0), (.int .i64 0), (.int .i64 0), (.int .i64 0), (.int .i64 0), (.int .i64 0)] [(0, (6, (.t 44)))]), none⟩,
    ⟨(some 46), (.app 6 48 (.t 41) (.t 45)), none⟩,
    ⟨(some 3), (.mov (.t 46)), none⟩]))))))
   (.seq (.kill [3, 4, 9, 15, 16, 17] 0) (.region [
    ⟨(some 47), (.bin .add .num (.t 17) (.c (.c (.int .i64 1)))), none⟩,
    ⟨(some 17), (.mov (.t 47)), none⟩]))))))))))))))))))))))))
 (.seq (.kill [] 0) (.seq (.region [
  ⟨(some 2), (.mov (.c (.c (.bool true)))), none⟩])
 (.ret)))))))⟩
/-- slices.Clone[[]campanile/api.Cell,campanile/api.Cell] -/
def n147 : NF := ⟨8, [2],
 .seq (.region [
  ⟨(some 2), (.mov (.c (.c .nils))), none⟩])
 (.seq (.kill [0] 0) (.seq (.seq (.region [
  ⟨(some 3), (.mov (.t 0)), none⟩,
  ⟨(some 4), (.bin .eql .sl (.t 3) (.c (.c .nils))), none⟩])
 (.seq (.kill [0, 4] 0) (.cond (.t 4)
 (.seq (.region [
   ⟨(some 2), (.mov (.c (.c .nils))), none⟩])
  (.ret))
 (.skip))))
 (.seq (.kill [0] 0) (.seq (.region [
  ⟨(some 5), (.bslice false 5 0 [(.int .i64 0), (.int .i64 0), (.int .i64 0), (.int .i64 0), (.int .i64 0)] []), none⟩,
  ⟨(some 6), (.mov (.t 0)), none⟩,
  ⟨(some 7), (.app 5 40 (.t 5) (.t 6)), none⟩,
  ⟨(some 2), (.mov (.t 7)), none⟩])
 (.ret)))))⟩
/-- slices.ContainsFunc[[]campanile/api.Cell,campanile/api.Cell] -/
def n148 : NF := ⟨9, [4],
 .seq (.region [
  ⟨(some 4), (.mov (.c (.c (.bool false)))), none⟩])
 (.seq (.kill [0, 1] 0) (.seq (.region [
  ⟨(some 5), (.mov (.t 0)), none⟩,
  ⟨(some 6), (.mov (.t 1)), none⟩,
  ⟨(some 7), (.call 153 [(.t 5), (.t 6)]), none⟩,
  ⟨(some 8), (.bin .geq .num (.t 7) (.c (.c (.int .i64 0)))), none⟩,
  ⟨(some 4), (.mov (.t 8)), none⟩])
 (.ret)))⟩
/-- (*campanile/version.Plan).Prepare$1 -/
def n149 : NF := ⟨6, [2],
 .seq (.region [
  ⟨(some 1), (.box true 5 (.t 0)), none⟩,
  ⟨(some 2), (.mov (.c (.c (.bool false)))), none⟩])
 (.seq (.kill [1] 1) (.seq (.region [
  ⟨(some 3), (.load (some 5) (.t 1)), none⟩,
  ⟨(some 4), (.call 121 [(.t 3)]), none⟩,
  ⟨(some 5), (.un .not (.t 4)), none⟩,
  ⟨(some 2), (.mov (.t 5)), none⟩])
 (.ret)))⟩
/-- campanile/cell.May -/
def n121 : NF := ⟨54, [2],
 .seq (.region [
  ⟨(some 1), (.box true 5 (.t 0)), none⟩,
  ⟨(some 2), (.mov (.c (.c (.bool false)))), none⟩])
 (.seq (.kill [1] 1) (.seq (.region [
  ⟨(some 5), (.faddr 3 (.t 1)), none⟩,
  ⟨(some 6), (.load none (.t 5)), none⟩,
  ⟨(some 7), (.bin .and .num (.t 6) (.c (.c (.int .i64 3)))), none⟩,
  ⟨(some 8), (.bin .neq .num (.t 7) (.c (.c (.int .i64 0)))), none⟩,
  ⟨(some 3), (.mov (.t 8)), none⟩])
 (.seq (.kill [1, 3] 1) (.seq (.region [
  ⟨(some 9), (.faddr 3 (.t 1)), none⟩,
  ⟨(some 10), (.load none (.t 9)), none⟩,
  ⟨(some 11), (.bin .and .num (.t 10) (.c (.c (.int .i64 4)))), none⟩,
  ⟨(some 12), (.bin .neq .num (.t 11) (.c (.c (.int .i64 0)))), none⟩,
  ⟨(some 13), (.mov (.t 12)), none⟩,
  ⟨(some 14), (.faddr 3 (.t 1)), (some (13, true))⟩,
  ⟨(some 15), (.load none (.t 14)), (some (13, true))⟩,
  ⟨(some 16), (.bin .and .num (.t 15) (.c (.c (.int .i64 1)))), (some (13, true))⟩,
  ⟨(some 17), (.bin .eql .num (.t 16) (.c (.c (.int .i64 0)))), (some (13, true))⟩,
  ⟨(some 18), (.pick (.t 13) (.t 17) (.c (.c (.bool false)))), none⟩,
  ⟨(some 4), (.mov (.t 18)), none⟩])
 (.seq (.kill [1, 3, 4] 1) (.seq (.region [
  ⟨(some 19), (.faddr 0 (.t 1)), none⟩,
  ⟨(some 20), (.load none (.t 19)), none⟩,
  ⟨(some 21), (.call 124 [(.t 20), (.c (.c (.int .i64 0))), (.c (.c (.int .i64 3)))]), none⟩,
  ⟨(some 22), (.mov (.t 21)), none⟩,
  ⟨(some 23), (.faddr 1 (.t 1)), (some (22, true))⟩,
  ⟨(some 24), (.load none (.t 23)), (some (22, true))⟩,
  ⟨(some 25), (.call 124 [(.t 24), (.c (.c (.int .i64 0))), (.c (.c (.int .i64 199)))]), (some (22, true))⟩,
  ⟨(some 26), (.pick (.t 22) (.t 25) (.c (.c (.bool false)))), none⟩,
  ⟨(some 27), (.mov (.t 26)), none⟩,
  ⟨(some 28), (.faddr 2 (.t 1)), (some (27, true))⟩,
  ⟨(some 29), (.load none (.t 28)), (some (27, true))⟩,
  ⟨(some 30), (.call 124 [(.t 29), (.c (.c (.int .i64 0))), (.c (.c (.int .i64 15)))]), (some (27, true))⟩,
  ⟨(some 31), (.pick (.t 27) (.t 30) (.c (.c (.bool false)))), none⟩,
  ⟨(some 32), (.mov (.t 31)), none⟩,
  ⟨(some 33), (.faddr 3 (.t 1)), (some (32, true))⟩,
  ⟨(some 34), (.load none (.t 33)), (some (32, true))⟩,
  ⟨(some 35), (.call 124 [(.t 34), (.c (.c (.int .i64 1))), (.c (.c (.int .i64 15)))]), (some (32, true))⟩,
  ⟨(some 36), (.pick (.t 32) (.t 35) (.c (.c (.bool false)))), none⟩,
  ⟨(some 37), (.mov (.t 36)), none⟩,
  ⟨(some 38), (.mov (.t 3)), (some (37, true))⟩,
  ⟨(some 39), (.pick (.t 37) (.t 38) (.c (.c (.bool false)))), none⟩,
  ⟨(some 40), (.mov (.t 39)), none⟩,
  ⟨(some 41), (.mov (.t 4)), (some (40, true))⟩,
  ⟨(some 42), (.un .not (.t 41)), (some (40, true))⟩,
  ⟨(some 43), (.pick (.t 40) (.t 42) (.c (.c (.bool false)))), none⟩,
  ⟨(some 44), (.mov (.t 43)), none⟩,
  ⟨(some 45), (.faddr 4 (.t 1)), (some (44, true))⟩,
  ⟨(some 46), (.load none (.t 45)), (some (44, true))⟩,
  ⟨(some 47), (.call 124 [(.t 46), (.c (.c (.int .i64 0))), (.c (.c (.int .i64 15)))]), (some (44, true))⟩,
  ⟨(some 48), (.mov (.t 47)), (some (44, true))⟩,
  ⟨(some 49), (.faddr 4 (.t 1)), (some (48, false))⟩,
  ⟨(some 50), (.load none (.t 49)), (some (48, false))⟩,
  ⟨(some 51), (.bin .eql .num (.t 50) (.c (.c (.int .i64 64)))), (some (48, false))⟩,
  ⟨(some 52), (.pick (.t 48) (.c (.c (.bool true))) (.t 51)), (some (44, true))⟩,
  ⟨(some 53), (.pick (.t 44) (.t 52) (.c (.c (.bool false)))), none⟩,
  ⟨(some 2), (.mov (.t 53)), none⟩])
 (.ret)))))))⟩
/-- campanile/version.twice -/
def n150 : NF := ⟨18, [2],
 .seq (.region [
  ⟨(some 2), (.mov (.c (.c (.bool false)))), none⟩])
 (.seq (.kill [0] 0) (.seq (.seq (.region [
  ⟨(some 5), (.mov (.t 0)), none⟩,
  ⟨(some 6), (.len .sl (.t 5)), none⟩,
  ⟨(some 7), (.mov (.c (.c (.int .i64 0)))), none⟩])
 (.seq (.kill [0, 5, 6, 7] 0) (.block 0 (.loop (.seq (.kill [0, 5, 6, 7] 0) (.seq (.region [
   ⟨(some 8), (.bin .lss .num (.t 7) (.t 6)), none⟩])
  (.seq (.kill [0, 5, 6, 7, 8] 0) (.seq (.cond (.t 8)
  (.skip)
  (.exit 0))
  (.seq (.kill [0, 5, 6, 7] 0) (.seq (.block 1 (.seq (.region [
   ⟨(some 9), (.mov (.t 7)), none⟩,
   ⟨(some 10), (.iaddr 5 (.t 5) (.t 7)), none⟩,
   ⟨(some 11), (.load (some 5) (.t 10)), none⟩,
   ⟨(some 4), (.box false 5 (.c (.agg [(.int .i64 0), (.int .i64 0), (.int .i64 0), (.int .i64 0), (.int .i64 0)]))), none⟩,
   ⟨(some 3), (.mov (.t 9)), none⟩,
   ⟨none, (.store 5 (.t 4) (.t 11)), none⟩])
  (.seq (.kill [0, 3, 4, 5, 6, 7] 0) (.seq (.region [
   ⟨(some 12), (.mov (.t 0)), none⟩,
   ⟨(some 13), (.mov (.t 3)), none⟩,
   ⟨(some 14), (.slice 5 (.t 12) none (some (.t 13)) none), none⟩,
   ⟨(some 15), (.mkfn 154 [(.t 4)]), none⟩,
   ⟨(some 16), (.call 148 [(.t 14), (.t 15)]), none⟩])
  (.seq (.kill [0, 5, 6, 7, 16] 0) (.cond (.t 16)
  (.seq (.region [
    ⟨(some 2), (.mov (.c (.c (.bool true)))), none⟩])
   (.ret))
  (.skip)))))))
  (.seq (.kill [0, 5, 6, 7] 0) (.region [
   ⟨(some 17), (.bin .add .num (.t 7) (.c (.c (.int .i64 1)))), none⟩,
   ⟨(some 7), (.mov (.t 17)), none⟩]))))))))))))
 (.seq (.kill [] 0) (.seq (.region [
  ⟨(some 2), (.mov (.c (.c (.bool false)))), none⟩])
 (.ret)))))⟩
/-- campanile/campanileref8.MayCell -/
def n218 : NF := ⟨69, [2],
 .seq (.region [
  ⟨(some 1), (.box true 5 (.t 0)), none⟩,
  ⟨(some 2), (.mov (.c (.c (.bool false)))), none⟩])
 (.seq (.kill [1] 1) (.seq (.region [
  ⟨(some 3), (.faddr 0 (.t 1)), none⟩,
  ⟨(some 4), (.load none (.t 3)), none⟩,
  ⟨(some 5), (.bin .geq .num (.t 4) (.c (.c (.int .i64 0)))), none⟩,
  ⟨(some 6), (.mov (.t 5)), none⟩,
  ⟨(some 7), (.faddr 0 (.t 1)), (some (6, true))⟩,
  ⟨(some 8), (.load none (.t 7)), (some (6, true))⟩,
  ⟨(some 9), (.bin .lss .num (.t 8) (.c (.c (.int .i64 4)))), (some (6, true))⟩,
  ⟨(some 10), (.pick (.t 6) (.t 9) (.c (.c (.bool false)))), none⟩,
  ⟨(some 11), (.mov (.t 10)), none⟩,
  ⟨(some 12), (.faddr 1 (.t 1)), (some (11, true))⟩,
  ⟨(some 13), (.load none (.t 12)), (some (11, true))⟩,
  ⟨(some 14), (.bin .geq .num (.t 13) (.c (.c (.int .i64 0)))), (some (11, true))⟩,
  ⟨(some 15), (.pick (.t 11) (.t 14) (.c (.c (.bool false)))), none⟩,
  ⟨(some 16), (.mov (.t 15)), none⟩,
  ⟨(some 17), (.faddr 1 (.t 1)), (some (16, true))⟩,
  ⟨(some 18), (.load none (.t 17)), (some (16, true))⟩,
  ⟨(some 19), (.bin .lss .num (.t 18) (.c (.c (.int .i64 200)))), (some (16, true))⟩,
  ⟨(some 20), (.pick (.t 16) (.t 19) (.c (.c (.bool false)))), none⟩,
  ⟨(some 21), (.mov (.t 20)), none⟩,
  ⟨(some 22), (.faddr 2 (.t 1)), (some (21, true))⟩,
  ⟨(some 23), (.load none (.t 22)), (some (21, true))⟩,
  ⟨(some 24), (.bin .geq .num (.t 23) (.c (.c (.int .i64 0)))), (some (21, true))⟩,
  ⟨(some 25), (.pick (.t 21) (.t 24) (.c (.c (.bool false)))), none⟩,
  ⟨(some 26), (.mov (.t 25)), none⟩,
  ⟨(some 27), (.faddr 2 (.t 1)), (some (26, true))⟩,
  ⟨(some 28), (.load none (.t 27)), (some (26, true))⟩,
  ⟨(some 29), (.bin .leq .num (.t 28) (.c (.c (.int .i64 15)))), (some (26, true))⟩,
  ⟨(some 30), (.pick (.t 26) (.t 29) (.c (.c (.bool false)))), none⟩,
  ⟨(some 31), (.mov (.t 30)), none⟩,
  ⟨(some 32), (.faddr 3 (.t 1)), (some (31, true))⟩,
  ⟨(some 33), (.load none (.t 32)), (some (31, true))⟩,
  ⟨(some 34), (.bin .geq .num (.t 33) (.c (.c (.int .i64 1)))), (some (31, true))⟩,
  ⟨(some 35), (.pick (.t 31) (.t 34) (.c (.c (.bool false)))), none⟩,
  ⟨(some 36), (.mov (.t 35)), none⟩,
  ⟨(some 37), (.faddr 3 (.t 1)), (some (36, true))⟩,
  ⟨(some 38), (.load none (.t 37)), (some (36, true))⟩,
  ⟨(some 39), (.bin .leq .num (.t 38) (.c (.c (.int .i64 15)))), (some (36, true))⟩,
  ⟨(some 40), (.pick (.t 36) (.t 39) (.c (.c (.bool false)))), none⟩,
  ⟨(some 41), (.mov (.t 40)), none⟩,
  ⟨(some 42), (.faddr 3 (.t 1)), (some (41, true))⟩,
  ⟨(some 43), (.load none (.t 42)), (some (41, true))⟩,
  ⟨(some 44), (.bin .and .num (.t 43) (.c (.c (.int .i64 3)))), (some (41, true))⟩,
  ⟨(some 45), (.bin .neq .num (.t 44) (.c (.c (.int .i64 0)))), (some (41, true))⟩,
  ⟨(some 46), (.pick (.t 41) (.t 45) (.c (.c (.bool false)))), none⟩,
  ⟨(some 47), (.mov (.t 46)), none⟩,
  ⟨(some 48), (.faddr 3 (.t 1)), (some (47, true))⟩,
  ⟨(some 49), (.load none (.t 48)), (some (47, true))⟩,
  ⟨(some 50), (.bin .and .num (.t 49) (.c (.c (.int .i64 4)))), (some (47, true))⟩,
  ⟨(some 51), (.bin .eql .num (.t 50) (.c (.c (.int .i64 0)))), (some (47, true))⟩,
  ⟨(some 52), (.mov (.t 51)), (some (47, true))⟩,
  ⟨(some 53), (.faddr 3 (.t 1)), (some (52, false))⟩,
  ⟨(some 54), (.load none (.t 53)), (some (52, false))⟩,
  ⟨(some 55), (.bin .and .num (.t 54) (.c (.c (.int .i64 1)))), (some (52, false))⟩,
  ⟨(some 56), (.bin .neq .num (.t 55) (.c (.c (.int .i64 0)))), (some (52, false))⟩,
  ⟨(some 57), (.pick (.t 52) (.c (.c (.bool true))) (.t 56)), (some (47, true))⟩,
  ⟨(some 58), (.pick (.t 47) (.t 57) (.c (.c (.bool false)))), none⟩,
  ⟨(some 59), (.mov (.t 58)), none⟩,
  ⟨(some 60), (.faddr 4 (.t 1)), (some (59, true))⟩,
  ⟨(some 61), (.load none (.t 60)), (some (59, true))⟩,
  ⟨(some 62), (.call 44 [(.t 61)]), (some (59, true))⟩,
  ⟨(some 63), (.mov (.t 62)), (some (59, true))⟩,
  ⟨(some 64), (.faddr 4 (.t 1)), (some (63, false))⟩,
  ⟨(some 65), (.load none (.t 64)), (some (63, false))⟩,
  ⟨(some 66), (.bin .eql .num (.t 65) (.c (.c (.int .i64 64)))), (some (63, false))⟩,
  ⟨(some 67), (.pick (.t 63) (.c (.c (.bool true))) (.t 66)), (some (59, true))⟩,
  ⟨(some 68), (.pick (.t 59) (.t 67) (.c (.c (.bool false)))), none⟩,
  ⟨(some 2), (.mov (.t 68)), none⟩])
 (.ret)))⟩
/-- campanile/campanileref18.Clash -/
def n216 : NF := ⟨100, [8],
 .seq (.region [
  ⟨(some 4), (.box true 5 (.t 0)), none⟩,
  ⟨(some 5), (.box true 5 (.t 1)), none⟩,
  ⟨(some 8), (.mov (.c (.c (.bool false)))), none⟩])
 (.seq (.kill [2, 3, 4, 5] 2) (.seq (.seq (.region [
  ⟨(some 9), (.load (some 5) (.t 4)), none⟩,
  ⟨(some 10), (.call 218 [(.t 9)]), none⟩,
  ⟨(some 11), (.un .not (.t 10)), none⟩,
  ⟨(some 12), (.mov (.t 11)), none⟩,
  ⟨(some 13), (.load (some 5) (.t 5)), (some (12, false))⟩,
  ⟨(some 14), (.call 218 [(.t 13)]), (some (12, false))⟩,
  ⟨(some 15), (.un .not (.t 14)), (some (12, false))⟩,
  ⟨(some 16), (.pick (.t 12) (.c (.c (.bool true))) (.t 15)), none⟩,
  ⟨(some 17), (.mov (.t 16)), none⟩,
  ⟨(some 18), (.mov (.t 2)), (some (17, false))⟩,
  ⟨(some 19), (.call 44 [(.t 18)]), (some (17, false))⟩,
  ⟨(some 20), (.un .not (.t 19)), (some (17, false))⟩,
  ⟨(some 21), (.pick (.t 17) (.c (.c (.bool true))) (.t 20)), none⟩,
  ⟨(some 22), (.mov (.t 21)), none⟩,
  ⟨(some 23), (.mov (.t 3)), (some (22, false))⟩,
  ⟨(some 24), (.call 44 [(.t 23)]), (some (22, false))⟩,
  ⟨(some 25), (.un .not (.t 24)), (some (22, false))⟩,
  ⟨(some 26), (.pick (.t 22) (.c (.c (.bool true))) (.t 25)), none⟩])
 (.seq (.kill [2, 3, 4, 5, 26] 2) (.cond (.t 26)
 (.seq (.region [
   ⟨(some 8), (.mov (.c (.c (.bool true)))), none⟩])
  (.ret))
 (.skip))))
 (.seq (.kill [2, 3, 4, 5] 2) (.seq (.seq (.region [
  ⟨(some 27), (.faddr 0 (.t 4)), none⟩,
  ⟨(some 28), (.load none (.t 27)), none⟩,
  ⟨(some 29), (.faddr 0 (.t 5)), none⟩,
  ⟨(some 30), (.load none (.t 29)), none⟩,
  ⟨(some 31), (.bin .neq .num (.t 28) (.t 30)), none⟩,
  ⟨(some 32), (.mov (.t 31)), none⟩,
  ⟨(some 33), (.faddr 1 (.t 4)), (some (32, false))⟩,
  ⟨(some 34), (.load none (.t 33)), (some (32, false))⟩,
  ⟨(some 35), (.faddr 1 (.t 5)), (some (32, false))⟩,
  ⟨(some 36), (.load none (.t 35)), (some (32, false))⟩,
  ⟨(some 37), (.bin .neq .num (.t 34) (.t 36)), (some (32, false))⟩,
  ⟨(some 38), (.pick (.t 32) (.c (.c (.bool true))) (.t 37)), none⟩])
 (.seq (.kill [2, 3, 4, 5, 38] 2) (.cond (.t 38)
 (.seq (.region [
   ⟨(some 8), (.mov (.c (.c (.bool false)))), none⟩])
  (.ret))
 (.skip))))
 (.seq (.kill [2, 3, 4, 5] 2) (.seq (.seq (.region [
  ⟨(some 39), (.mov (.t 2)), none⟩,
  ⟨(some 40), (.mov (.t 3)), none⟩,
  ⟨(some 41), (.bin .neq .num (.t 39) (.t 40)), none⟩,
  ⟨(some 42), (.mov (.t 41)), none⟩,
  ⟨(some 43), (.faddr 4 (.t 4)), (some (42, true))⟩,
  ⟨(some 44), (.load none (.t 43)), (some (42, true))⟩,
  ⟨(some 45), (.mov (.t 3)), (some (42, true))⟩,
  ⟨(some 46), (.bin .eql .num (.t 44) (.t 45)), (some (42, true))⟩,
  ⟨(some 47), (.pick (.t 42) (.t 46) (.c (.c (.bool false)))), none⟩,
  ⟨(some 48), (.mov (.t 47)), none⟩,
  ⟨(some 49), (.faddr 4 (.t 5)), (some (48, true))⟩,
  ⟨(some 50), (.load none (.t 49)), (some (48, true))⟩,
  ⟨(some 51), (.mov (.t 2)), (some (48, true))⟩,
  ⟨(some 52), (.bin .eql .num (.t 50) (.t 51)), (some (48, true))⟩,
  ⟨(some 53), (.pick (.t 48) (.t 52) (.c (.c (.bool false)))), none⟩,
  ⟨(some 54), (.mov (.t 53)), none⟩,
  ⟨(some 55), (.faddr 2 (.t 4)), (some (54, true))⟩,
  ⟨(some 56), (.load none (.t 55)), (some (54, true))⟩,
  ⟨(some 57), (.faddr 2 (.t 5)), (some (54, true))⟩,
  ⟨(some 58), (.load none (.t 57)), (some (54, true))⟩,
  ⟨(some 59), (.bin .eql .num (.t 56) (.t 58)), (some (54, true))⟩,
  ⟨(some 60), (.pick (.t 54) (.t 59) (.c (.c (.bool false)))), none⟩,
  ⟨(some 61), (.mov (.t 60)), none⟩,
  ⟨(some 62), (.load (some 5) (.t 4)), (some (61, true))⟩,
  ⟨(some 63), (.load (some 5) (.t 5)), (some (61, true))⟩,
  ⟨(some 64), (.call 219 [(.t 62), (.t 63)]), (some (61, true))⟩,
  ⟨(some 65), (.pick (.t 61) (.t 64) (.c (.c (.bool false)))), none⟩])
 (.seq (.kill [2, 3, 4, 5, 65] 2) (.cond (.t 65)
 (.seq (.region [
   ⟨(some 8), (.mov (.c (.c (.bool false)))), none⟩])
  (.ret))
 (.skip))))
 (.seq (.kill [2, 3, 4, 5] 2) (.seq (.region [
  ⟨(some 66), (.mov (.t 2)), none⟩,
  ⟨(some 67), (.mov (.t 3)), none⟩,
  ⟨(some 68), (.bin .eql .num (.t 66) (.t 67)), none⟩,
  ⟨(some 69), (.mov (.t 68)), none⟩,
  ⟨(some 70), (.faddr 2 (.t 4)), (some (69, false))⟩,
  ⟨(some 71), (.load none (.t 70)), (some (69, false))⟩,
  ⟨(some 72), (.faddr 2 (.t 5)), (some (69, false))⟩,
  ⟨(some 73), (.load none (.t 72)), (some (69, false))⟩,
  ⟨(some 74), (.bin .eql .num (.t 71) (.t 73)), (some (69, false))⟩,
  ⟨(some 75), (.pick (.t 69) (.c (.c (.bool true))) (.t 74)), none⟩,
  ⟨(some 76), (.mov (.t 75)), none⟩,
  ⟨(some 77), (.faddr 4 (.t 4)), (some (76, false))⟩,
  ⟨(some 78), (.load none (.t 77)), (some (76, false))⟩,
  ⟨(some 79), (.mov (.t 3)), (some (76, false))⟩,
  ⟨(some 80), (.bin .eql .num (.t 78) (.t 79)), (some (76, false))⟩,
  ⟨(some 81), (.pick (.t 76) (.c (.c (.bool true))) (.t 80)), none⟩,
  ⟨(some 82), (.mov (.t 81)), none⟩,
  ⟨(some 83), (.faddr 4 (.t 5)), (some (82, false))⟩,
  ⟨(some 84), (.load none (.t 83)), (some (82, false))⟩,
  ⟨(some 85), (.mov (.t 2)), (some (82, false))⟩,
  ⟨(some 86), (.bin .eql .num (.t 84) (.t 85)), (some (82, false))⟩,
  ⟨(some 87), (.pick (.t 82) (.c (.c (.bool true))) (.t 86)), none⟩,
  ⟨(some 88), (.mov (.t 87)), none⟩,
  ⟨(some 89), (.faddr 4 (.t 4)), (some (88, false))⟩,
  ⟨(some 90), (.load none (.t 89)), (some (88, false))⟩,
  ⟨(some 91), (.faddr 4 (.t 5)), (some (88, false))⟩,
  ⟨(some 92), (.load none (.t 91)), (some (88, false))⟩,
  ⟨(some 93), (.bin .eql .num (.t 90) (.t 92)), (some (88, false))⟩,
  ⟨(some 94), (.mov (.t 93)), (some (88, false))⟩,
  ⟨(some 95), (.faddr 4 (.t 4)), (some (94, true))⟩,
  ⟨(some 96), (.load none (.t 95)), (some (94, true))⟩,
  ⟨(some 97), (.bin .neq .num (.t 96) (.c (.c (.int .i64 64)))), (some (94, true))⟩,
  ⟨(some 98), (.pick (.t 94) (.t 97) (.c (.c (.bool false)))), (some (88, false))⟩,
  ⟨(some 99), (.pick (.t 88) (.c (.c (.bool true))) (.t 98)), none⟩,
  ⟨(some 8), (.mov (.t 99)), none⟩])
 (.ret)))))))))⟩
/-- campanile/campanileref8.Less -/
def n233 : NF := ⟨48, [4],
 .seq (.region [
  ⟨(some 2), (.box true 5 (.t 0)), none⟩,
  ⟨(some 3), (.box true 5 (.t 1)), none⟩,
  ⟨(some 4), (.mov (.c (.c (.bool false)))), none⟩])
 (.seq (.kill [2, 3] 2) (.seq (.region [
  ⟨(some 8), (.faddr 0 (.t 2)), none⟩,
  ⟨(some 9), (.load none (.t 8)), none⟩,
  ⟨(some 10), (.faddr 1 (.t 2)), none⟩,
  ⟨(some 11), (.load none (.t 10)), none⟩,
  ⟨(some 12), (.faddr 2 (.t 2)), none⟩,
  ⟨(some 13), (.load none (.t 12)), none⟩,
  ⟨(some 14), (.faddr 3 (.t 2)), none⟩,
  ⟨(some 15), (.load none (.t 14)), none⟩,
  ⟨(some 16), (.faddr 4 (.t 2)), none⟩,
  ⟨(some 17), (.load none (.t 16)), none⟩,
  ⟨(some 18), (.build [(.int .i64 0), (.int .i64 0), (.int .i64 0), (.int .i64 0), (.int .i64 0)] [(0, (1, (.t 9))), (1, (1, (.t 11))), (2, (1, (.t 13))), (3, (1, (.t 15))), (4, (1, (.t 17)))]), none⟩,
  ⟨(some 5), (.box true 5 (.c (.agg [(.int .i64 0), (.int .i64 0), (.int .i64 0), (.int .i64 0), (.int .i64 0)]))), none⟩,
  ⟨none, (.store 5 (.t 5) (.t 18)), none⟩])
 (.seq (.kill [3, 5] 3) (.seq (.region [
  ⟨(some 19), (.faddr 0 (.t 3)), none⟩,
  ⟨(some 20), (.load none (.t 19)), none⟩,
  ⟨(some 21), (.faddr 1 (.t 3)), none⟩,
  ⟨(some 22), (.load none (.t 21)), none⟩,
  ⟨(some 23), (.faddr 2 (.t 3)), none⟩,
  ⟨(some 24), (.load none (.t 23)), none⟩,
  ⟨(some 25), (.faddr 3 (.t 3)), none⟩,
  ⟨(some 26), (.load none (.t 25)), none⟩,
  ⟨(some 27), (.faddr 4 (.t 3)), none⟩,
  ⟨(some 28), (.load none (.t 27)), none⟩,
  ⟨(some 29), (.build [(.int .i64 0), (.int .i64 0), (.int .i64 0), (.int .i64 0), (.int .i64 0)] [(0, (1, (.t 20))), (1, (1, (.t 22))), (2, (1, (.t 24))), (3, (1, (.t 26))), (4, (1, (.t 28)))]), none⟩,
  ⟨(some 6), (.box true 5 (.c (.agg [(.int .i64 0), (.int .i64 0), (.int .i64 0), (.int .i64 0), (.int .i64 0)]))), none⟩,
  ⟨none, (.store 5 (.t 6) (.t 29)), none⟩])
 (.seq (.kill [5, 6] 4) (.seq (.seq (.region [
  ⟨(some 30), (.mov (.c (.c (.int .i64 0)))), none⟩])
 (.seq (.kill [5, 6, 30] 4) (.block 0 (.loop (.seq (.kill [5, 6, 30] 4) (.seq (.region [
   ⟨(some 31), (.bin .lss .num (.t 30) (.c (.c (.int .i64 5)))), none⟩])
  (.seq (.kill [5, 6, 30, 31] 4) (.seq (.cond (.t 31)
  (.skip)
  (.exit 0))
  (.seq (.kill [5, 6, 30] 4) (.seq (.block 1 (.seq (.region [
   ⟨(some 32), (.mov (.t 30)), none⟩,
   ⟨(some 7), (.mov (.t 32)), none⟩])
  (.seq (.kill [5, 6, 7, 30] 4) (.seq (.draw 0 [
   ⟨0, none, ⟨(some 33), (.mov (.t 7)), none⟩, []⟩,
   ⟨1, none, ⟨(some 34), (.iaddrA 5 1 (.t 5) (.t 33)), none⟩, []⟩,
   ⟨2, none, ⟨(some 35), (.load none (.t 34)), none⟩, []⟩,
   ⟨3, none, ⟨(some 36), (.mov (.t 7)), none⟩, []⟩,
   ⟨4, none, ⟨(some 37), (.iaddrA 5 1 (.t 6) (.t 36)), none⟩, []⟩,
   ⟨5, none, ⟨(some 38), (.load none (.t 37)), none⟩, []⟩,
   ⟨6, none, ⟨(some 39), (.bin .neq .num (.t 35) (.t 38)), none⟩, []⟩])
  (.seq (.kill [5, 6, 7, 30, 39] 4) (.cond (.t 39)
  (.seq (.draw 0 [
    ⟨0, none, ⟨(some 40), (.mov (.t 7)), none⟩, []⟩,
    ⟨1, none, ⟨(some 41), (.iaddrA 5 1 (.t 5) (.t 40)), none⟩, []⟩,
    ⟨2, none, ⟨(some 42), (.load none (.t 41)), none⟩, []⟩,
    ⟨3, none, ⟨(some 43), (.mov (.t 7)), none⟩, []⟩,
    ⟨4, none, ⟨(some 44), (.iaddrA 5 1 (.t 6) (.t 43)), none⟩, []⟩,
    ⟨5, none, ⟨(some 45), (.load none (.t 44)), none⟩, []⟩,
    ⟨6, none, ⟨(some 46), (.bin .lss .num (.t 42) (.t 45)), none⟩, []⟩,
    ⟨7, none, ⟨(some 4), (.mov (.t 46)), none⟩, []⟩])
   (.ret))
  (.skip)))))))
  (.seq (.kill [5, 6, 30] 4) (.region [
   ⟨(some 47), (.bin .add .num (.t 30) (.c (.c (.int .i64 1)))), none⟩,
   ⟨(some 30), (.mov (.t 47)), none⟩]))))))))))))
 (.seq (.kill [] 0) (.seq (.region [
  ⟨(some 4), (.mov (.c (.c (.bool false)))), none⟩])
 (.ret)))))))))⟩
/-- slices.SortFunc[[]campanile/api.Cell,campanile/api.Cell] -/
def n151 : NF := ⟨14, [],
 .seq (.region [
  ⟨(some 5), (.mov (.t 0)), none⟩,
  ⟨(some 6), (.len .sl (.t 5)), none⟩,
  ⟨(some 4), (.mov (.t 6)), none⟩])
 (.seq (.kill [0, 1, 4] 0) (.region [
  ⟨(some 7), (.mov (.t 0)), none⟩,
  ⟨(some 8), (.mov (.t 4)), none⟩,
  ⟨(some 9), (.mov (.t 4)), none⟩,
  ⟨(some 10), (.conv (.toInt .u64) (.t 9)), none⟩,
  ⟨(some 11), (.call 82 [(.t 10)]), none⟩,
  ⟨(some 12), (.mov (.t 1)), none⟩,
  ⟨(some 13), (.call 155 [(.t 7), (.c (.c (.int .i64 0))), (.t 8), (.t 11), (.t 12)]), none⟩]))⟩
/-- campanile/version.sorted$1 -/
def n152 : NF := ⟨13, [4],
 .seq (.region [
  ⟨(some 2), (.box true 5 (.t 0)), none⟩,
  ⟨(some 3), (.box true 5 (.t 1)), none⟩,
  ⟨(some 4), (.mov (.c (.c (.int .i64 0)))), none⟩])
 (.seq (.kill [2, 3] 2) (.seq (.block 0 (.seq (.region [
  ⟨(some 6), (.load (some 5) (.t 2)), none⟩,
  ⟨(some 7), (.load (some 5) (.t 3)), none⟩,
  ⟨(some 8), (.call 156 [(.t 6), (.t 7)]), none⟩,
  ⟨(some 5), (.mov (.t 8)), none⟩])
 (.seq (.kill [2, 3, 5] 2) (.cond (.t 5)
 (.seq (.region [
   ⟨(some 4), (.mov (.c (.c (.int .i64 (-1))))), none⟩])
  (.ret))
 (.seq (.region [
   ⟨(some 10), (.load (some 5) (.t 3)), none⟩,
   ⟨(some 11), (.load (some 5) (.t 2)), none⟩,
   ⟨(some 12), (.call 156 [(.t 10), (.t 11)]), none⟩,
   ⟨(some 9), (.mov (.t 12)), none⟩])
  (.seq (.kill [9] 0) (.cond (.t 9)
  (.seq (.region [
    ⟨(some 4), (.mov (.c (.c (.int .i64 1)))), none⟩])
   (.ret))
  (.skip))))))))
 (.seq (.kill [] 0) (.seq (.region [
  ⟨(some 4), (.mov (.c (.c (.int .i64 0)))), none⟩])
 (.ret)))))⟩
/-- campanile/cell.Less -/
def n156 : NF := ⟨9, [4],
 .seq (.region [
  ⟨(some 2), (.box true 5 (.t 0)), none⟩,
  ⟨(some 3), (.box true 5 (.t 1)), none⟩,
  ⟨(some 4), (.mov (.c (.c (.bool false)))), none⟩])
 (.seq (.kill [2, 3] 2) (.seq (.region [
  ⟨(some 5), (.load (some 5) (.t 2)), none⟩,
  ⟨(some 6), (.load (some 5) (.t 3)), none⟩,
  ⟨(some 7), (.call 157 [(.t 5), (.t 6)]), none⟩,
  ⟨(some 8), (.bin .lss .num (.t 7) (.c (.c (.int .i64 0)))), none⟩,
  ⟨(some 4), (.mov (.t 8)), none⟩])
 (.ret)))⟩
/-- campanile/alloc.node -/
def n122 : NF := ⟨9, [2],
 .seq (.region [
  ⟨(some 2), (.mov (.c (.c (.bool false)))), none⟩])
 (.seq (.kill [0] 0) (.seq (.region [
  ⟨(some 3), (.mov (.t 0)), none⟩,
  ⟨(some 4), (.bin .geq .num (.t 3) (.c (.c (.int .i64 0)))), none⟩,
  ⟨(some 5), (.mov (.t 4)), none⟩,
  ⟨(some 6), (.mov (.t 0)), (some (5, true))⟩,
  ⟨(some 7), (.bin .lss .num (.t 6) (.c (.c (.int .i64 16)))), (some (5, true))⟩,
  ⟨(some 8), (.pick (.t 5) (.t 7) (.c (.c (.bool false)))), none⟩,
  ⟨(some 2), (.mov (.t 8)), none⟩])
 (.ret)))⟩
/-- campanile/alloc.clashes -/
def n126 : NF := ⟨10, [6],
 .seq (.region [
  ⟨(some 4), (.box false 1 (.t 1)), none⟩,
  ⟨(some 5), (.box false 5 (.t 2)), none⟩,
  ⟨(some 6), (.mov (.c (.c (.bool false)))), none⟩])
 (.seq (.kill [0, 4, 5] 0) (.seq (.region [
  ⟨(some 7), (.mov (.t 0)), none⟩,
  ⟨(some 8), (.mkfn 127 [(.t 5), (.t 4)]), none⟩,
  ⟨(some 9), (.call 128 [(.t 7), (.t 8)]), none⟩,
  ⟨(some 6), (.mov (.t 9)), none⟩])
 (.ret)))⟩
/-- slices.IndexFunc[[]campanile/api.Cell,campanile/api.Cell] -/
def n153 : NF := ⟨19, [4],
 .seq (.region [
  ⟨(some 4), (.mov (.c (.c (.int .i64 0)))), none⟩])
 (.seq (.kill [0, 1] 0) (.seq (.seq (.region [
  ⟨(some 6), (.mov (.t 0)), none⟩,
  ⟨(some 7), (.len .sl (.t 6)), none⟩,
  ⟨(some 8), (.mov (.c (.c (.int .i64 0)))), none⟩])
 (.seq (.kill [0, 1, 7, 8] 0) (.block 0 (.loop (.seq (.kill [0, 1, 7, 8] 0) (.seq (.region [
   ⟨(some 9), (.bin .lss .num (.t 8) (.t 7)), none⟩])
  (.seq (.kill [0, 1, 7, 8, 9] 0) (.seq (.cond (.t 9)
  (.skip)
  (.exit 0))
  (.seq (.kill [0, 1, 7, 8] 0) (.seq (.block 1 (.seq (.region [
   ⟨(some 10), (.mov (.t 8)), none⟩,
   ⟨(some 5), (.mov (.t 10)), none⟩])
  (.seq (.kill [0, 1, 5, 7, 8] 0) (.seq (.region [
   ⟨(some 11), (.mov (.t 1)), none⟩,
   ⟨(some 12), (.mov (.t 0)), none⟩,
   ⟨(some 13), (.mov (.t 5)), none⟩,
   ⟨(some 14), (.iaddr 5 (.t 12) (.t 13)), none⟩,
   ⟨(some 15), (.load (some 5) (.t 14)), none⟩,
   ⟨(some 16), (.dyn (.t 11) [(.t 15)]), none⟩])
  (.seq (.kill [0, 1, 5, 7, 8, 16] 0) (.cond (.t 16)
  (.seq (.region [
    ⟨(some 17), (.mov (.t 5)), none⟩,
    ⟨(some 4), (.mov (.t 17)), none⟩])
   (.ret))
  (.skip)))))))
  (.seq (.kill [0, 1, 7, 8] 0) (.region [
   ⟨(some 18), (.bin .add .num (.t 8) (.c (.c (.int .i64 1)))), none⟩,
   ⟨(some 8), (.mov (.t 18)), none⟩]))))))))))))
 (.seq (.kill [] 0) (.seq (.region [
  ⟨(some 4), (.mov (.c (.c (.int .i64 (-1))))), none⟩])
 (.ret)))))⟩
/-- campanile/cell.in -/
def n124 : NF := ⟨15, [6],
 .seq (.region [
  ⟨(some 6), (.mov (.c (.c (.bool false)))), none⟩])
 (.seq (.kill [0, 1, 2] 0) (.seq (.region [
  ⟨(some 7), (.mov (.t 0)), none⟩,
  ⟨(some 8), (.mov (.t 1)), none⟩,
  ⟨(some 9), (.bin .geq .num (.t 7) (.t 8)), none⟩,
  ⟨(some 10), (.mov (.t 9)), none⟩,
  ⟨(some 11), (.mov (.t 0)), (some (10, true))⟩,
  ⟨(some 12), (.mov (.t 2)), (some (10, true))⟩,
  ⟨(some 13), (.bin .leq .num (.t 11) (.t 12)), (some (10, true))⟩,
  ⟨(some 14), (.pick (.t 10) (.t 13) (.c (.c (.bool false)))), none⟩,
  ⟨(some 6), (.mov (.t 14)), none⟩])
 (.ret)))⟩
/-- campanile/version.twice$1 -/
def n154 : NF := ⟨23, [3],
 .seq (.region [
  ⟨(some 2), (.box true 5 (.t 0)), none⟩,
  ⟨(some 3), (.mov (.c (.c (.bool false)))), none⟩])
 (.seq (.kill [1, 2] 1) (.seq (.region [
  ⟨(some 4), (.faddr 0 (.t 1)), none⟩,
  ⟨(some 5), (.load none (.t 4)), none⟩,
  ⟨(some 6), (.faddr 0 (.t 2)), none⟩,
  ⟨(some 7), (.load none (.t 6)), none⟩,
  ⟨(some 8), (.bin .eql .num (.t 5) (.t 7)), none⟩,
  ⟨(some 9), (.mov (.t 8)), none⟩,
  ⟨(some 10), (.faddr 1 (.t 1)), (some (9, true))⟩,
  ⟨(some 11), (.load none (.t 10)), (some (9, true))⟩,
  ⟨(some 12), (.faddr 1 (.t 2)), (some (9, true))⟩,
  ⟨(some 13), (.load none (.t 12)), (some (9, true))⟩,
  ⟨(some 14), (.bin .eql .num (.t 11) (.t 13)), (some (9, true))⟩,
  ⟨(some 15), (.pick (.t 9) (.t 14) (.c (.c (.bool false)))), none⟩,
  ⟨(some 16), (.mov (.t 15)), none⟩,
  ⟨(some 17), (.faddr 2 (.t 1)), (some (16, true))⟩,
  ⟨(some 18), (.load none (.t 17)), (some (16, true))⟩,
  ⟨(some 19), (.faddr 2 (.t 2)), (some (16, true))⟩,
  ⟨(some 20), (.load none (.t 19)), (some (16, true))⟩,
  ⟨(some 21), (.bin .eql .num (.t 18) (.t 20)), (some (16, true))⟩,
  ⟨(some 22), (.pick (.t 16) (.t 21) (.c (.c (.bool false)))), none⟩,
  ⟨(some 3), (.mov (.t 22)), none⟩])
 (.ret)))⟩
/-- campanile/campanileref18.ends -/
def n219 : NF := ⟨30, [4],
 .seq (.region [
  ⟨(some 2), (.box true 5 (.t 0)), none⟩,
  ⟨(some 3), (.box true 5 (.t 1)), none⟩,
  ⟨(some 4), (.mov (.c (.c (.bool false)))), none⟩])
 (.seq (.kill [2, 3] 2) (.seq (.draw 0 [
  ⟨0, none, ⟨(some 7), (.faddr 3 (.t 2)), none⟩, []⟩,
  ⟨1, none, ⟨(some 8), (.load none (.t 7)), none⟩, []⟩,
  ⟨2, none, ⟨(some 9), (.bin .and .num (.t 8) (.c (.c (.int .i64 3)))), none⟩, []⟩,
  ⟨3, none, ⟨(some 10), (.faddr 3 (.t 3)), none⟩, []⟩,
  ⟨4, none, ⟨(some 11), (.load none (.t 10)), none⟩, []⟩,
  ⟨5, none, ⟨(some 12), (.bin .and .num (.t 11) (.c (.c (.int .i64 3)))), none⟩, []⟩,
  ⟨6, none, ⟨(some 5), (.mov (.t 9)), none⟩, []⟩,
  ⟨7, none, ⟨(some 6), (.mov (.t 12)), none⟩, []⟩])
 (.seq (.kill [5, 6] 0) (.seq (.region [
  ⟨(some 13), (.mov (.t 5)), none⟩,
  ⟨(some 14), (.mov (.t 6)), none⟩,
  ⟨(some 15), (.bin .add .num (.t 13) (.t 14)), none⟩,
  ⟨(some 16), (.bin .eql .num (.t 15) (.c (.c (.int .i64 3)))), none⟩,
  ⟨(some 17), (.mov (.t 16)), none⟩,
  ⟨(some 18), (.mov (.t 5)), (some (17, true))⟩,
  ⟨(some 19), (.mov (.t 6)), (some (17, true))⟩,
  ⟨(some 20), (.bin .neq .num (.t 18) (.t 19)), (some (17, true))⟩,
  ⟨(some 21), (.pick (.t 17) (.t 20) (.c (.c (.bool false)))), none⟩,
  ⟨(some 22), (.mov (.t 21)), none⟩,
  ⟨(some 23), (.mov (.t 5)), (some (22, true))⟩,
  ⟨(some 24), (.bin .eql .num (.t 23) (.c (.c (.int .i64 1)))), (some (22, true))⟩,
  ⟨(some 25), (.mov (.t 24)), (some (22, true))⟩,
  ⟨(some 26), (.mov (.t 5)), (some (25, false))⟩,
  ⟨(some 27), (.bin .eql .num (.t 26) (.c (.c (.int .i64 2)))), (some (25, false))⟩,
  ⟨(some 28), (.pick (.t 25) (.c (.c (.bool true))) (.t 27)), (some (22, true))⟩,
  ⟨(some 29), (.pick (.t 22) (.t 28) (.c (.c (.bool false)))), none⟩,
  ⟨(some 4), (.mov (.t 29)), none⟩])
 (.ret)))))⟩
/-- slices.pdqsortCmpFunc[campanile/api.Cell] -/
def n155 : NF := ⟨148, [],
 .seq (.region [
  ⟨(some 10), (.mov (.c (.c (.bool true)))), none⟩])
 (.seq (.kill [0, 1, 2, 3, 4, 10] 0) (.seq (.region [
  ⟨(some 11), (.mov (.c (.c (.bool true)))), none⟩])
 (.seq (.kill [0, 1, 2, 3, 4, 10, 11] 0) (.block 0 (.loop (.seq (.kill [0, 1, 2, 3, 4, 10, 11] 0) (.block 1 (.seq (.region [
   ⟨(some 21), (.mov (.t 2)), none⟩,
   ⟨(some 22), (.mov (.t 1)), none⟩,
   ⟨(some 23), (.bin .sub .num (.t 21) (.t 22)), none⟩,
   ⟨(some 12), (.mov (.t 23)), none⟩])
  (.seq (.kill [0, 1, 2, 3, 4, 10, 11, 12] 0) (.seq (.seq (.region [
   ⟨(some 24), (.mov (.t 12)), none⟩,
   ⟨(some 25), (.bin .leq .num (.t 24) (.c (.c (.int .i64 12)))), none⟩])
  (.seq (.kill [0, 1, 2, 3, 4, 10, 11, 12, 25] 0) (.cond (.t 25)
  (.seq (.region [
    ⟨(some 26), (.mov (.t 0)), none⟩,
    ⟨(some 27), (.mov (.t 1)), none⟩,
    ⟨(some 28), (.mov (.t 2)), none⟩,
    ⟨(some 29), (.mov (.t 4)), none⟩,
    ⟨(some 30), (.call 158 [(.t 26), (.t 27), (.t 28), (.t 29)]), none⟩])
   (.ret))
  (.skip))))
  (.seq (.kill [0, 1, 2, 3, 4, 10, 11, 12] 0) (.seq (.seq (.region [
   ⟨(some 31), (.mov (.t 3)), none⟩,
   ⟨(some 32), (.bin .eql .num (.t 31) (.c (.c (.int .i64 0)))), none⟩])
  (.seq (.kill [0, 1, 2, 3, 4, 10, 11, 12, 32] 0) (.cond (.t 32)
  (.seq (.region [
    ⟨(some 33), (.mov (.t 0)), none⟩,
    ⟨(some 34), (.mov (.t 1)), none⟩,
    ⟨(some 35), (.mov (.t 2)), none⟩,
    ⟨(some 36), (.mov (.t 4)), none⟩,
    ⟨(some 37), (.call 159 [(.t 33), (.t 34), (.t 35), (.t 36)]), none⟩])
   (.ret))
  (.skip))))
  (.seq (.kill [0, 1, 2, 3, 4, 10, 11, 12] 0) (.seq (.seq (.region [
   ⟨(some 38), (.mov (.t 10)), none⟩,
   ⟨(some 39), (.un .not (.t 38)), none⟩])
  (.seq (.kill [0, 1, 2, 3, 4, 10, 11, 12, 39] 0) (.cond (.t 39)
  (.seq (.region [
    ⟨(some 40), (.mov (.t 0)), none⟩,
    ⟨(some 41), (.mov (.t 1)), none⟩,
    ⟨(some 42), (.mov (.t 2)), none⟩,
    ⟨(some 43), (.mov (.t 4)), none⟩,
    ⟨(some 44), (.call 160 [(.t 40), (.t 41), (.t 42), (.t 43)]), none⟩])
   (.seq (.kill [0, 1, 2, 3, 4, 10, 11, 12] 0) (.region [
    ⟨(some 45), (.mov (.t 3)), none⟩,
    ⟨(some 46), (.bin .sub .num (.t 45) (.c (.c (.int .i64 1)))), none⟩,
    ⟨(some 3), (.mov (.t 46)), none⟩])))
  (.skip))))
  (.seq (.kill [0, 1, 2, 3, 4, 10, 11, 12] 0) (.seq (.region [
   ⟨(some 48), (.mov (.t 0)), none⟩,
   ⟨(some 49), (.mov (.t 1)), none⟩,
   ⟨(some 50), (.mov (.t 2)), none⟩,
   ⟨(some 51), (.mov (.t 4)), none⟩,
   ⟨(some 52), (.call 161 [(.t 48), (.t 49), (.t 50), (.t 51)]), none⟩,
   ⟨(some 47), (.mov (.t 52)), none⟩,
   ⟨(some 53), (.ext (.t 47) 0), none⟩,
   ⟨(some 54), (.ext (.t 47) 1), none⟩,
   ⟨(some 13), (.mov (.t 53)), none⟩,
   ⟨(some 14), (.mov (.t 54)), none⟩])
  (.seq (.kill [0, 1, 2, 3, 4, 10, 11, 12, 13, 14] 0) (.seq (.seq (.region [
   ⟨(some 55), (.mov (.t 14)), none⟩,
   ⟨(some 56), (.bin .eql .num (.t 55) (.c (.c (.int .i64 2)))), none⟩])
  (.seq (.kill [0, 1, 2, 3, 4, 10, 11, 12, 13, 14, 56] 0) (.cond (.t 56)
  (.seq (.region [
    ⟨(some 57), (.mov (.t 0)), none⟩,
    ⟨(some 58), (.mov (.t 1)), none⟩,
    ⟨(some 59), (.mov (.t 2)), none⟩,
    ⟨(some 60), (.mov (.t 4)), none⟩,
    ⟨(some 61), (.call 162 [(.t 57), (.t 58), (.t 59), (.t 60)]), none⟩])
   (.seq (.kill [0, 1, 2, 3, 4, 10, 11, 12, 13] 0) (.seq (.region [
    ⟨(some 62), (.mov (.t 2)), none⟩,
    ⟨(some 63), (.bin .sub .num (.t 62) (.c (.c (.int .i64 1)))), none⟩,
    ⟨(some 64), (.mov (.t 13)), none⟩,
    ⟨(some 65), (.mov (.t 1)), none⟩,
    ⟨(some 66), (.bin .sub .num (.t 64) (.t 65)), none⟩,
    ⟨(some 67), (.bin .sub .num (.t 63) (.t 66)), none⟩,
    ⟨(some 13), (.mov (.t 67)), none⟩])
   (.seq (.kill [0, 1, 2, 3, 4, 10, 11, 12, 13] 0) (.region [
    ⟨(some 14), (.mov (.c (.c (.int .i64 1)))), none⟩])))))
  (.skip))))
  (.seq (.kill [0, 1, 2, 3, 4, 10, 11, 12, 13, 14] 0) (.seq (.seq (.region [
   ⟨(some 68), (.mov (.t 10)), none⟩,
   ⟨(some 69), (.mov (.t 68)), none⟩,
   ⟨(some 70), (.mov (.t 11)), (some (69, true))⟩,
   ⟨(some 71), (.pick (.t 69) (.t 70) (.c (.c (.bool false)))), none⟩,
   ⟨(some 72), (.mov (.t 71)), none⟩,
   ⟨(some 73), (.mov (.t 14)), (some (72, true))⟩,
   ⟨(some 74), (.bin .eql .num (.t 73) (.c (.c (.int .i64 1)))), (some (72, true))⟩,
   ⟨(some 75), (.pick (.t 72) (.t 74) (.c (.c (.bool false)))), none⟩])
  (.seq (.kill [0, 1, 2, 3, 4, 10, 11, 12, 13, 75] 0) (.cond (.t 75)
  (.seq (.region [
    ⟨(some 76), (.mov (.t 0)), none⟩,
    ⟨(some 77), (.mov (.t 1)), none⟩,
    ⟨(some 78), (.mov (.t 2)), none⟩,
    ⟨(some 79), (.mov (.t 4)), none⟩,
    ⟨(some 80), (.call 163 [(.t 76), (.t 77), (.t 78), (.t 79)]), none⟩])
   (.seq (.kill [0, 1, 2, 3, 4, 10, 11, 12, 13, 80] 0) (.cond (.t 80)
   (.ret)
   (.skip))))
  (.skip))))
  (.seq (.kill [0, 1, 2, 3, 4, 10, 11, 12, 13] 0) (.seq (.seq (.draw 0 [
   ⟨0, none, ⟨(some 81), (.mov (.t 1)), none⟩, []⟩,
   ⟨1, none, ⟨(some 82), (.bin .gtr .num (.t 81) (.c (.c (.int .i64 0)))), none⟩, []⟩,
   ⟨2, none, ⟨(some 83), (.mov (.t 82)), none⟩, []⟩,
   ⟨3, none, ⟨(some 84), (.mov (.t 4)), (some (83, true))⟩, []⟩,
   ⟨4, none, ⟨(some 85), (.mov (.t 0)), (some (83, true))⟩, []⟩,
   ⟨5, none, ⟨(some 86), (.mov (.t 1)), (some (83, true))⟩, []⟩,
   ⟨6, none, ⟨(some 87), (.bin .sub .num (.t 86) (.c (.c (.int .i64 1)))), (some (83, true))⟩, []⟩,
   ⟨7, none, ⟨(some 88), (.iaddr 5 (.t 85) (.t 87)), (some (83, true))⟩, []⟩,
   ⟨8, none, ⟨(some 89), (.load (some 5) (.t 88)), (some (83, true))⟩, []⟩,
   ⟨9, none, ⟨(some 90), (.mov (.t 0)), (some (83, true))⟩, []⟩,
   ⟨10, none, ⟨(some 91), (.mov (.t 13)), (some (83, true))⟩, []⟩,
   ⟨11, none, ⟨(some 92), (.iaddr 5 (.t 90) (.t 91)), (some (83, true))⟩, []⟩,
   ⟨12, none, ⟨(some 93), (.load (some 5) (.t 92)), (some (83, true))⟩, []⟩,
   ⟨13, none, ⟨(some 94), (.dyn (.t 84) [(.t 89), (.t 93)]), (some (83, true))⟩, []⟩,
   ⟨14, none, ⟨(some 95), (.bin .lss .num (.t 94) (.c (.c (.int .i64 0)))), (some (83, true))⟩, []⟩,
   ⟨15, none, ⟨(some 96), (.un .not (.t 95)), (some (83, true))⟩, []⟩,
   ⟨16, none, ⟨(some 97), (.pick (.t 83) (.t 96) (.c (.c (.bool false)))), none⟩, []⟩])
  (.seq (.kill [0, 1, 2, 3, 4, 10, 11, 12, 13, 97] 0) (.cond (.t 97)
  (.seq (.region [
    ⟨(some 98), (.mov (.t 0)), none⟩,
    ⟨(some 99), (.mov (.t 1)), none⟩,
    ⟨(some 100), (.mov (.t 2)), none⟩,
    ⟨(some 101), (.mov (.t 13)), none⟩,
    ⟨(some 102), (.mov (.t 4)), none⟩,
    ⟨(some 103), (.call 164 [(.t 98), (.t 99), (.t 100), (.t 101), (.t 102)]), none⟩,
    ⟨(some 15), (.mov (.t 103)), none⟩])
   (.seq (.kill [0, 2, 3, 4, 10, 11, 15] 0) (.seq (.region [
    ⟨(some 104), (.mov (.t 15)), none⟩,
    ⟨(some 1), (.mov (.t 104)), none⟩])
   (.exit 1))))
  (.skip))))
  (.seq (.kill [0, 1, 2, 3, 4, 12, 13] 0) (.seq (.region [
   ⟨(some 106), (.mov (.t 0)), none⟩,
   ⟨(some 107), (.mov (.t 1)), none⟩,
   ⟨(some 108), (.mov (.t 2)), none⟩,
   ⟨(some 109), (.mov (.t 13)), none⟩,
   ⟨(some 110), (.mov (.t 4)), none⟩,
   ⟨(some 111), (.call 165 [(.t 106), (.t 107), (.t 108), (.t 109), (.t 110)]), none⟩,
   ⟨(some 105), (.mov (.t 111)), none⟩,
   ⟨(some 112), (.ext (.t 105) 0), none⟩,
   ⟨(some 113), (.ext (.t 105) 1), none⟩,
   ⟨(some 16), (.mov (.t 112)), none⟩,
   ⟨(some 17), (.mov (.t 113)), none⟩])
  (.seq (.kill [0, 1, 2, 3, 4, 12, 16, 17] 0) (.seq (.region [
   ⟨(some 114), (.mov (.t 17)), none⟩,
   ⟨(some 11), (.mov (.t 114)), none⟩])
  (.seq (.kill [0, 1, 2, 3, 4, 11, 12, 16] 0) (.seq (.region [
   ⟨(some 115), (.mov (.t 16)), none⟩,
   ⟨(some 116), (.mov (.t 1)), none⟩,
   ⟨(some 117), (.bin .sub .num (.t 115) (.t 116)), none⟩,
   ⟨(some 118), (.mov (.t 2)), none⟩,
   ⟨(some 119), (.mov (.t 16)), none⟩,
   ⟨(some 120), (.bin .sub .num (.t 118) (.t 119)), none⟩,
   ⟨(some 18), (.mov (.t 117)), none⟩,
   ⟨(some 19), (.mov (.t 120)), none⟩])
  (.seq (.kill [0, 1, 2, 3, 4, 11, 12, 16, 18, 19] 0) (.seq (.region [
   ⟨(some 121), (.mov (.t 12)), none⟩,
   ⟨(some 122), (.bin .quo .num (.t 121) (.c (.c (.int .i64 8)))), none⟩,
   ⟨(some 20), (.mov (.t 122)), none⟩])
  (.seq (.kill [0, 1, 2, 3, 4, 11, 16, 18, 19, 20] 0) (.seq (.region [
   ⟨(some 123), (.mov (.t 18)), none⟩,
   ⟨(some 124), (.mov (.t 19)), none⟩,
   ⟨(some 125), (.bin .lss .num (.t 123) (.t 124)), none⟩])
  (.seq (.kill [0, 1, 2, 3, 4, 11, 16, 18, 19, 20, 125] 0) (.cond (.t 125)
  (.seq (.region [
    ⟨(some 126), (.mov (.t 18)), none⟩,
    ⟨(some 127), (.mov (.t 20)), none⟩,
    ⟨(some 128), (.bin .geq .num (.t 126) (.t 127)), none⟩,
    ⟨(some 10), (.mov (.t 128)), none⟩])
   (.seq (.kill [0, 1, 2, 3, 4, 10, 11, 16] 0) (.seq (.region [
    ⟨(some 129), (.mov (.t 0)), none⟩,
    ⟨(some 130), (.mov (.t 1)), none⟩,
    ⟨(some 131), (.mov (.t 16)), none⟩,
    ⟨(some 132), (.mov (.t 3)), none⟩,
    ⟨(some 133), (.mov (.t 4)), none⟩,
    ⟨(some 134), (.call 155 [(.t 129), (.t 130), (.t 131), (.t 132), (.t 133)]), none⟩])
   (.seq (.kill [0, 2, 3, 4, 10, 11, 16] 0) (.region [
    ⟨(some 135), (.mov (.t 16)), none⟩,
    ⟨(some 136), (.bin .add .num (.t 135) (.c (.c (.int .i64 1)))), none⟩,
    ⟨(some 1), (.mov (.t 136)), none⟩])))))
  (.seq (.region [
    ⟨(some 137), (.mov (.t 19)), none⟩,
    ⟨(some 138), (.mov (.t 20)), none⟩,
    ⟨(some 139), (.bin .geq .num (.t 137) (.t 138)), none⟩,
    ⟨(some 10), (.mov (.t 139)), none⟩])
   (.seq (.kill [0, 1, 2, 3, 4, 10, 11, 16] 0) (.seq (.region [
    ⟨(some 140), (.mov (.t 0)), none⟩,
    ⟨(some 141), (.mov (.t 16)), none⟩,
    ⟨(some 142), (.bin .add .num (.t 141) (.c (.c (.int .i64 1)))), none⟩,
    ⟨(some 143), (.mov (.t 2)), none⟩,
    ⟨(some 144), (.mov (.t 3)), none⟩,
    ⟨(some 145), (.mov (.t 4)), none⟩,
    ⟨(some 146), (.call 155 [(.t 140), (.t 142), (.t 143), (.t 144), (.t 145)]), none⟩])
   (.seq (.kill [0, 1, 3, 4, 10, 11, 16] 0) (.region [
    ⟨(some 147), (.mov (.t 16)), none⟩,
    ⟨(some 2), (.mov (.t 147)), none⟩])))))))))))))))))))))))))))))))))))))))⟩
/-- math/bits.Len -/
def n82 : NF := ⟨8, [2],
 .seq (.region [
  ⟨(some 2), (.mov (.c (.c (.int .i64 0)))), none⟩])
 (.seq (.kill [0] 0) (.seq (.cond (.c (.c (.bool false)))
 (.seq (.region [
   ⟨(some 3), (.mov (.t 0)), none⟩,
   ⟨(some 4), (.conv (.toInt .u32) (.t 3)), none⟩,
   ⟨(some 5), (.call 96 [(.t 4)]), none⟩,
   ⟨(some 2), (.mov (.t 5)), none⟩])
  (.ret))
 (.skip))
 (.seq (.kill [0] 0) (.seq (.region [
  ⟨(some 6), (.mov (.t 0)), none⟩,
  ⟨(some 7), (.call 97 [(.t 6)]), none⟩,
  ⟨(some 2), (.mov (.t 7)), none⟩])
 (.ret)))))⟩
/-- campanile/cell.compare -/
def n157 : NF := ⟨32, [4],
 .seq (.region [
  ⟨(some 2), (.box true 5 (.t 0)), none⟩,
  ⟨(some 3), (.box true 5 (.t 1)), none⟩,
  ⟨(some 4), (.mov (.c (.c (.int .i64 0)))), none⟩])
 (.seq (.kill [2, 3] 2) (.seq (.draw 1 [
  ⟨0, none, ⟨(some 5), (.faddr 0 (.t 2)), none⟩, []⟩,
  ⟨1, none, ⟨(some 6), (.load none (.t 5)), none⟩, []⟩,
  ⟨2, none, ⟨(some 7), (.faddr 0 (.t 3)), none⟩, []⟩,
  ⟨3, none, ⟨(some 8), (.load none (.t 7)), none⟩, []⟩,
  ⟨5, none, ⟨(some 10), (.faddr 1 (.t 2)), none⟩, []⟩,
  ⟨6, none, ⟨(some 11), (.load none (.t 10)), none⟩, []⟩,
  ⟨7, none, ⟨(some 12), (.faddr 1 (.t 3)), none⟩, []⟩,
  ⟨8, none, ⟨(some 13), (.load none (.t 12)), none⟩, []⟩,
  ⟨10, none, ⟨(some 15), (.faddr 2 (.t 2)), none⟩, []⟩,
  ⟨11, none, ⟨(some 16), (.load none (.t 15)), none⟩, []⟩,
  ⟨12, none, ⟨(some 17), (.faddr 2 (.t 3)), none⟩, []⟩,
  ⟨13, none, ⟨(some 18), (.load none (.t 17)), none⟩, []⟩,
  ⟨15, none, ⟨(some 20), (.faddr 3 (.t 2)), none⟩, []⟩,
  ⟨16, none, ⟨(some 21), (.load none (.t 20)), none⟩, []⟩,
  ⟨17, none, ⟨(some 22), (.faddr 3 (.t 3)), none⟩, []⟩,
  ⟨18, none, ⟨(some 23), (.load none (.t 22)), none⟩, []⟩,
  ⟨20, none, ⟨(some 25), (.faddr 4 (.t 2)), none⟩, []⟩,
  ⟨21, none, ⟨(some 26), (.load none (.t 25)), none⟩, []⟩,
  ⟨22, none, ⟨(some 27), (.faddr 4 (.t 3)), none⟩, []⟩,
  ⟨23, none, ⟨(some 28), (.load none (.t 27)), none⟩, []⟩,
  ⟨4, none, ⟨(some 9), (.call 46 [(.t 6), (.t 8)]), none⟩, [(6, ⟨(some 11), (.load none (.t 10)), none⟩), (8, ⟨(some 13), (.load none (.t 12)), none⟩), (11, ⟨(some 16), (.load none (.t 15)), none⟩), (13, ⟨(some 18), (.load none (.t 17)), none⟩), (16, ⟨(some 21), (.load none (.t 20)), none⟩), (18, ⟨(some 23), (.load none (.t 22)), none⟩), (21, ⟨(some 26), (.load none (.t 25)), none⟩), (23, ⟨(some 28), (.load none (.t 27)), none⟩)]⟩,
  ⟨9, none, ⟨(some 14), (.call 46 [(.t 11), (.t 13)]), none⟩, [(11, ⟨(some 16), (.load none (.t 15)), none⟩), (13, ⟨(some 18), (.load none (.t 17)), none⟩), (16, ⟨(some 21), (.load none (.t 20)), none⟩), (18, ⟨(some 23), (.load none (.t 22)), none⟩), (21, ⟨(some 26), (.load none (.t 25)), none⟩), (23, ⟨(some 28), (.load none (.t 27)), none⟩)]⟩,
  ⟨14, none, ⟨(some 19), (.call 46 [(.t 16), (.t 18)]), none⟩, [(16, ⟨(some 21), (.load none (.t 20)), none⟩), (18, ⟨(some 23), (.load none (.t 22)), none⟩), (21, ⟨(some 26), (.load none (.t 25)), none⟩), (23, ⟨(some 28), (.load none (.t 27)), none⟩)]⟩,
  ⟨19, none, ⟨(some 24), (.call 46 [(.t 21), (.t 23)]), none⟩, [(21, ⟨(some 26), (.load none (.t 25)), none⟩), (23, ⟨(some 28), (.load none (.t 27)), none⟩)]⟩,
  ⟨24, none, ⟨(some 29), (.call 46 [(.t 26), (.t 28)]), none⟩, []⟩,
  ⟨25, (some 0), ⟨(some 30), (.bslice false 1 5 [(.int .i64 0)] [(0, (1, (.t 9))), (1, (1, (.t 14))), (2, (1, (.t 19))), (3, (1, (.t 24))), (4, (1, (.t 29)))]), none⟩, []⟩,
  ⟨26, none, ⟨(some 31), (.call 86 [(.t 30)]), none⟩, []⟩,
  ⟨27, none, ⟨(some 4), (.mov (.t 31)), none⟩, []⟩])
 (.ret)))⟩
/-- slices.ContainsFunc[[]campanile/alloc.held,campanile/alloc.held] -/
def n128 : NF := ⟨9, [4],
 .seq (.region [
  ⟨(some 4), (.mov (.c (.c (.bool false)))), none⟩])
 (.seq (.kill [0, 1] 0) (.seq (.region [
  ⟨(some 5), (.mov (.t 0)), none⟩,
  ⟨(some 6), (.mov (.t 1)), none⟩,
  ⟨(some 7), (.call 129 [(.t 5), (.t 6)]), none⟩,
  ⟨(some 8), (.bin .geq .num (.t 7) (.c (.c (.int .i64 0)))), none⟩,
  ⟨(some 4), (.mov (.t 8)), none⟩])
 (.ret)))⟩
/-- campanile/alloc.clashes$1 -/
def n127 : NF := ⟨12, [4],
 .seq (.region [
  ⟨(some 3), (.box true 6 (.t 0)), none⟩,
  ⟨(some 4), (.mov (.c (.c (.bool false)))), none⟩])
 (.seq (.kill [1, 2, 3] 1) (.seq (.region [
  ⟨(some 5), (.faddr 1 (.t 3)), none⟩,
  ⟨(some 6), (.load (some 5) (.t 5)), none⟩,
  ⟨(some 7), (.load (some 5) (.t 1)), none⟩,
  ⟨(some 8), (.faddr 0 (.t 3)), none⟩,
  ⟨(some 9), (.load none (.t 8)), none⟩,
  ⟨(some 10), (.load none (.t 2)), none⟩,
  ⟨(some 11), (.call 118 [(.t 6), (.t 7), (.t 9), (.t 10)]), none⟩,
  ⟨(some 4), (.mov (.t 11)), none⟩])
 (.ret)))⟩
/-- campanile/alloc.Clash -/
def n118 : NF := ⟨80, [8],
 .seq (.region [
  ⟨(some 4), (.box true 5 (.t 0)), none⟩,
  ⟨(some 5), (.box true 5 (.t 1)), none⟩,
  ⟨(some 8), (.mov (.c (.c (.bool false)))), none⟩])
 (.seq (.kill [2, 3, 4, 5] 2) (.seq (.block 0 (.seq (.region [
  ⟨(some 10), (.load (some 5) (.t 4)), none⟩,
  ⟨(some 11), (.call 121 [(.t 10)]), none⟩,
  ⟨(some 12), (.un .not (.t 11)), none⟩,
  ⟨(some 13), (.mov (.t 12)), none⟩,
  ⟨(some 14), (.load (some 5) (.t 5)), (some (13, false))⟩,
  ⟨(some 15), (.call 121 [(.t 14)]), (some (13, false))⟩,
  ⟨(some 16), (.un .not (.t 15)), (some (13, false))⟩,
  ⟨(some 17), (.pick (.t 13) (.c (.c (.bool true))) (.t 16)), none⟩,
  ⟨(some 18), (.mov (.t 17)), none⟩,
  ⟨(some 19), (.mov (.t 2)), (some (18, false))⟩,
  ⟨(some 20), (.call 122 [(.t 19)]), (some (18, false))⟩,
  ⟨(some 21), (.un .not (.t 20)), (some (18, false))⟩,
  ⟨(some 22), (.pick (.t 18) (.c (.c (.bool true))) (.t 21)), none⟩,
  ⟨(some 23), (.mov (.t 22)), none⟩,
  ⟨(some 24), (.mov (.t 3)), (some (23, false))⟩,
  ⟨(some 25), (.call 122 [(.t 24)]), (some (23, false))⟩,
  ⟨(some 26), (.un .not (.t 25)), (some (23, false))⟩,
  ⟨(some 27), (.pick (.t 23) (.c (.c (.bool true))) (.t 26)), none⟩,
  ⟨(some 9), (.mov (.t 27)), none⟩])
 (.seq (.kill [2, 3, 4, 5, 9] 2) (.cond (.t 9)
 (.seq (.region [
   ⟨(some 8), (.mov (.c (.c (.bool true)))), none⟩])
  (.ret))
 (.seq (.region [
   ⟨(some 29), (.faddr 0 (.t 4)), none⟩,
   ⟨(some 30), (.load none (.t 29)), none⟩,
   ⟨(some 31), (.faddr 0 (.t 5)), none⟩,
   ⟨(some 32), (.load none (.t 31)), none⟩,
   ⟨(some 33), (.bin .neq .num (.t 30) (.t 32)), none⟩,
   ⟨(some 34), (.mov (.t 33)), none⟩,
   ⟨(some 35), (.faddr 1 (.t 4)), (some (34, false))⟩,
   ⟨(some 36), (.load none (.t 35)), (some (34, false))⟩,
   ⟨(some 37), (.faddr 1 (.t 5)), (some (34, false))⟩,
   ⟨(some 38), (.load none (.t 37)), (some (34, false))⟩,
   ⟨(some 39), (.bin .neq .num (.t 36) (.t 38)), (some (34, false))⟩,
   ⟨(some 40), (.pick (.t 34) (.c (.c (.bool true))) (.t 39)), none⟩,
   ⟨(some 28), (.mov (.t 40)), none⟩])
  (.seq (.kill [2, 3, 4, 5, 28] 2) (.cond (.t 28)
  (.seq (.region [
    ⟨(some 8), (.mov (.c (.c (.bool false)))), none⟩])
   (.ret))
  (.seq (.region [
    ⟨(some 42), (.mov (.t 2)), none⟩,
    ⟨(some 43), (.mov (.t 3)), none⟩,
    ⟨(some 44), (.bin .eql .num (.t 42) (.t 43)), none⟩,
    ⟨(some 41), (.mov (.t 44)), none⟩])
   (.seq (.kill [2, 3, 4, 5, 41] 2) (.cond (.t 41)
   (.seq (.region [
     ⟨(some 8), (.mov (.c (.c (.bool true)))), none⟩])
    (.ret))
   (.seq (.region [
     ⟨(some 46), (.load (some 5) (.t 4)), none⟩,
     ⟨(some 47), (.load (some 5) (.t 5)), none⟩,
     ⟨(some 48), (.mov (.t 2)), none⟩,
     ⟨(some 49), (.mov (.t 3)), none⟩,
     ⟨(some 50), (.call 123 [(.t 46), (.t 47), (.t 48), (.t 49)]), none⟩,
     ⟨(some 45), (.mov (.t 50)), none⟩])
    (.seq (.kill [2, 3, 4, 5, 45] 2) (.cond (.t 45)
    (.seq (.region [
      ⟨(some 8), (.mov (.c (.c (.bool false)))), none⟩])
     (.ret))
    (.skip))))))))))))))
 (.seq (.kill [2, 3, 4, 5] 2) (.seq (.region [
  ⟨(some 51), (.faddr 2 (.t 4)), none⟩,
  ⟨(some 52), (.load none (.t 51)), none⟩,
  ⟨(some 53), (.faddr 2 (.t 5)), none⟩,
  ⟨(some 54), (.load none (.t 53)), none⟩,
  ⟨(some 55), (.bin .eql .num (.t 52) (.t 54)), none⟩,
  ⟨(some 56), (.mov (.t 55)), none⟩,
  ⟨(some 57), (.mov (.t 2)), (some (56, false))⟩,
  ⟨(some 58), (.faddr 4 (.t 5)), (some (56, false))⟩,
  ⟨(some 59), (.load none (.t 58)), (some (56, false))⟩,
  ⟨(some 60), (.bin .eql .num (.t 57) (.t 59)), (some (56, false))⟩,
  ⟨(some 61), (.pick (.t 56) (.c (.c (.bool true))) (.t 60)), none⟩,
  ⟨(some 62), (.mov (.t 61)), none⟩,
  ⟨(some 63), (.mov (.t 3)), (some (62, false))⟩,
  ⟨(some 64), (.faddr 4 (.t 4)), (some (62, false))⟩,
  ⟨(some 65), (.load none (.t 64)), (some (62, false))⟩,
  ⟨(some 66), (.bin .eql .num (.t 63) (.t 65)), (some (62, false))⟩,
  ⟨(some 67), (.pick (.t 62) (.c (.c (.bool true))) (.t 66)), none⟩,
  ⟨(some 68), (.mov (.t 67)), none⟩,
  ⟨(some 69), (.faddr 4 (.t 4)), (some (68, false))⟩,
  ⟨(some 70), (.load none (.t 69)), (some (68, false))⟩,
  ⟨(some 71), (.faddr 4 (.t 5)), (some (68, false))⟩,
  ⟨(some 72), (.load none (.t 71)), (some (68, false))⟩,
  ⟨(some 73), (.bin .eql .num (.t 70) (.t 72)), (some (68, false))⟩,
  ⟨(some 74), (.mov (.t 73)), (some (68, false))⟩,
  ⟨(some 75), (.faddr 4 (.t 4)), (some (74, true))⟩,
  ⟨(some 76), (.load none (.t 75)), (some (74, true))⟩,
  ⟨(some 77), (.bin .neq .num (.t 76) (.c (.c (.int .i64 64)))), (some (74, true))⟩,
  ⟨(some 78), (.pick (.t 74) (.t 77) (.c (.c (.bool false)))), (some (68, false))⟩,
  ⟨(some 79), (.pick (.t 68) (.c (.c (.bool true))) (.t 78)), none⟩,
  ⟨(some 8), (.mov (.t 79)), none⟩])
 (.ret)))))⟩
/-- slices.insertionSortCmpFunc[campanile/api.Cell] -/
def n158 : NF := ⟨53, [],
 .seq (.region [
  ⟨(some 10), (.mov (.t 1)), none⟩,
  ⟨(some 11), (.bin .add .num (.t 10) (.c (.c (.int .i64 1)))), none⟩,
  ⟨(some 8), (.mov (.t 11)), none⟩])
 (.seq (.kill [0, 1, 2, 3, 8] 0) (.block 0 (.loop (.seq (.kill [0, 1, 2, 3, 8] 0) (.seq (.seq (.region [
   ⟨(some 12), (.mov (.t 8)), none⟩,
   ⟨(some 13), (.mov (.t 2)), none⟩,
   ⟨(some 14), (.bin .lss .num (.t 12) (.t 13)), none⟩])
  (.seq (.kill [0, 1, 2, 3, 8, 14] 0) (.cond (.t 14)
  (.skip)
  (.exit 0))))
  (.seq (.kill [0, 1, 2, 3, 8] 0) (.seq (.block 1 (.seq (.region [
   ⟨(some 17), (.mov (.t 8)), none⟩,
   ⟨(some 9), (.mov (.t 17)), none⟩])
  (.seq (.kill [0, 1, 2, 3, 8, 9] 0) (.block 2 (.loop (.seq (.kill [0, 1, 2, 3, 8, 9] 0) (.seq (.seq (.draw 0 [
    ⟨0, none, ⟨(some 18), (.mov (.t 9)), none⟩, []⟩,
    ⟨1, none, ⟨(some 19), (.mov (.t 1)), none⟩, []⟩,
    ⟨2, none, ⟨(some 20), (.bin .gtr .num (.t 18) (.t 19)), none⟩, []⟩,
    ⟨3, none, ⟨(some 21), (.mov (.t 20)), none⟩, []⟩,
    ⟨4, none, ⟨(some 22), (.mov (.t 3)), (some (21, true))⟩, []⟩,
    ⟨5, none, ⟨(some 23), (.mov (.t 0)), (some (21, true))⟩, []⟩,
    ⟨6, none, ⟨(some 24), (.mov (.t 9)), (some (21, true))⟩, []⟩,
    ⟨7, none, ⟨(some 25), (.iaddr 5 (.t 23) (.t 24)), (some (21, true))⟩, []⟩,
    ⟨8, none, ⟨(some 26), (.load (some 5) (.t 25)), (some (21, true))⟩, []⟩,
    ⟨9, none, ⟨(some 27), (.mov (.t 0)), (some (21, true))⟩, []⟩,
    ⟨10, none, ⟨(some 28), (.mov (.t 9)), (some (21, true))⟩, []⟩,
    ⟨11, none, ⟨(some 29), (.bin .sub .num (.t 28) (.c (.c (.int .i64 1)))), (some (21, true))⟩, []⟩,
    ⟨12, none, ⟨(some 30), (.iaddr 5 (.t 27) (.t 29)), (some (21, true))⟩, []⟩,
    ⟨13, none, ⟨(some 31), (.load (some 5) (.t 30)), (some (21, true))⟩, []⟩,
    ⟨14, none, ⟨(some 32), (.dyn (.t 22) [(.t 26), (.t 31)]), (some (21, true))⟩, []⟩,
    ⟨15, none, ⟨(some 33), (.bin .lss .num (.t 32) (.c (.c (.int .i64 0)))), (some (21, true))⟩, []⟩,
    ⟨16, none, ⟨(some 34), (.pick (.t 21) (.t 33) (.c (.c (.bool false)))), none⟩, []⟩])
   (.seq (.kill [0, 1, 2, 3, 8, 9, 34] 0) (.cond (.t 34)
   (.skip)
   (.exit 2))))
   (.seq (.kill [0, 1, 2, 3, 8, 9] 0) (.seq (.block 3 (.draw 0 [
    ⟨0, none, ⟨(some 37), (.mov (.t 0)), none⟩, []⟩,
    ⟨1, none, ⟨(some 38), (.mov (.t 9)), none⟩, []⟩,
    ⟨2, none, ⟨(some 39), (.mov (.t 0)), none⟩, []⟩,
    ⟨3, none, ⟨(some 40), (.mov (.t 9)), none⟩, []⟩,
    ⟨4, none, ⟨(some 41), (.bin .sub .num (.t 40) (.c (.c (.int .i64 1)))), none⟩, []⟩,
    ⟨5, none, ⟨(some 42), (.mov (.t 0)), none⟩, []⟩,
    ⟨6, none, ⟨(some 43), (.mov (.t 9)), none⟩, []⟩,
    ⟨7, none, ⟨(some 44), (.bin .sub .num (.t 43) (.c (.c (.int .i64 1)))), none⟩, []⟩,
    ⟨8, none, ⟨(some 45), (.iaddr 5 (.t 42) (.t 44)), none⟩, []⟩,
    ⟨9, none, ⟨(some 46), (.load (some 5) (.t 45)), none⟩, []⟩,
    ⟨10, none, ⟨(some 47), (.mov (.t 0)), none⟩, []⟩,
    ⟨11, none, ⟨(some 48), (.mov (.t 9)), none⟩, []⟩,
    ⟨12, none, ⟨(some 49), (.iaddr 5 (.t 47) (.t 48)), none⟩, []⟩,
    ⟨13, none, ⟨(some 50), (.load (some 5) (.t 49)), none⟩, []⟩,
    ⟨14, none, ⟨(some 51), (.iaddr 5 (.t 37) (.t 38)), none⟩, []⟩,
    ⟨15, none, ⟨none, (.store 5 (.t 51) (.t 46)), none⟩, []⟩,
    ⟨16, none, ⟨(some 52), (.iaddr 5 (.t 39) (.t 41)), none⟩, []⟩,
    ⟨17, none, ⟨none, (.store 5 (.t 52) (.t 50)), none⟩, []⟩]))
   (.seq (.kill [0, 1, 2, 3, 8, 9] 0) (.region [
    ⟨(some 35), (.mov (.t 9)), none⟩,
    ⟨(some 36), (.bin .sub .num (.t 35) (.c (.c (.int .i64 1)))), none⟩,
    ⟨(some 9), (.mov (.t 36)), none⟩])))))))))))
  (.seq (.kill [0, 1, 2, 3, 8] 0) (.region [
   ⟨(some 15), (.mov (.t 8)), none⟩,
   ⟨(some 16), (.bin .add .num (.t 15) (.c (.c (.int .i64 1)))), none⟩,
   ⟨(some 8), (.mov (.t 16)), none⟩])))))))))⟩
/-- slices.heapSortCmpFunc[campanile/api.Cell] -/
def n159 : NF := ⟨60, [],
 .seq (.region [
  ⟨(some 13), (.mov (.t 1)), none⟩,
  ⟨(some 8), (.mov (.t 13)), none⟩])
 (.seq (.kill [0, 1, 2, 3, 8] 0) (.seq (.region [
  ⟨(some 9), (.mov (.c (.c (.int .i64 0)))), none⟩])
 (.seq (.kill [0, 1, 2, 3, 8, 9] 0) (.seq (.region [
  ⟨(some 14), (.mov (.t 2)), none⟩,
  ⟨(some 15), (.mov (.t 1)), none⟩,
  ⟨(some 16), (.bin .sub .num (.t 14) (.t 15)), none⟩,
  ⟨(some 10), (.mov (.t 16)), none⟩])
 (.seq (.kill [0, 3, 8, 9, 10] 0) (.seq (.seq (.region [
  ⟨(some 17), (.mov (.t 10)), none⟩,
  ⟨(some 18), (.bin .sub .num (.t 17) (.c (.c (.int .i64 1)))), none⟩,
  ⟨(some 19), (.bin .quo .num (.t 18) (.c (.c (.int .i64 2)))), none⟩,
  ⟨(some 11), (.mov (.t 19)), none⟩])
 (.seq (.kill [0, 3, 8, 9, 10, 11] 0) (.block 0 (.loop (.seq (.kill [0, 3, 8, 9, 10, 11] 0) (.seq (.seq (.region [
   ⟨(some 20), (.mov (.t 11)), none⟩,
   ⟨(some 21), (.bin .geq .num (.t 20) (.c (.c (.int .i64 0)))), none⟩])
  (.seq (.kill [0, 3, 8, 9, 10, 11, 21] 0) (.cond (.t 21)
  (.skip)
  (.exit 0))))
  (.seq (.kill [0, 3, 8, 9, 10, 11] 0) (.seq (.block 1 (.region [
   ⟨(some 24), (.mov (.t 0)), none⟩,
   ⟨(some 25), (.mov (.t 11)), none⟩,
   ⟨(some 26), (.mov (.t 10)), none⟩,
   ⟨(some 27), (.mov (.t 8)), none⟩,
   ⟨(some 28), (.mov (.t 3)), none⟩,
   ⟨(some 29), (.call 166 [(.t 24), (.t 25), (.t 26), (.t 27), (.t 28)]), none⟩]))
  (.seq (.kill [0, 3, 8, 9, 10, 11] 0) (.region [
   ⟨(some 22), (.mov (.t 11)), none⟩,
   ⟨(some 23), (.bin .sub .num (.t 22) (.c (.c (.int .i64 1)))), none⟩,
   ⟨(some 11), (.mov (.t 23)), none⟩]))))))))))
 (.seq (.kill [0, 3, 8, 9, 10] 0) (.seq (.region [
  ⟨(some 30), (.mov (.t 10)), none⟩,
  ⟨(some 31), (.bin .sub .num (.t 30) (.c (.c (.int .i64 1)))), none⟩,
  ⟨(some 12), (.mov (.t 31)), none⟩])
 (.seq (.kill [0, 3, 8, 9, 12] 0) (.block 2 (.loop (.seq (.kill [0, 3, 8, 9, 12] 0) (.seq (.seq (.region [
   ⟨(some 32), (.mov (.t 12)), none⟩,
   ⟨(some 33), (.bin .geq .num (.t 32) (.c (.c (.int .i64 0)))), none⟩])
  (.seq (.kill [0, 3, 8, 9, 12, 33] 0) (.cond (.t 33)
  (.skip)
  (.exit 2))))
  (.seq (.kill [0, 3, 8, 9, 12] 0) (.seq (.block 3 (.seq (.draw 0 [
   ⟨0, none, ⟨(some 36), (.mov (.t 0)), none⟩, []⟩,
   ⟨1, none, ⟨(some 37), (.mov (.t 8)), none⟩, []⟩,
   ⟨2, none, ⟨(some 38), (.mov (.t 0)), none⟩, []⟩,
   ⟨3, none, ⟨(some 39), (.mov (.t 8)), none⟩, []⟩,
   ⟨4, none, ⟨(some 40), (.mov (.t 12)), none⟩, []⟩,
   ⟨5, none, ⟨(some 41), (.bin .add .num (.t 39) (.t 40)), none⟩, []⟩,
   ⟨6, none, ⟨(some 42), (.mov (.t 0)), none⟩, []⟩,
   ⟨7, none, ⟨(some 43), (.mov (.t 8)), none⟩, []⟩,
   ⟨8, none, ⟨(some 44), (.mov (.t 12)), none⟩, []⟩,
   ⟨9, none, ⟨(some 45), (.bin .add .num (.t 43) (.t 44)), none⟩, []⟩,
   ⟨10, none, ⟨(some 46), (.iaddr 5 (.t 42) (.t 45)), none⟩, []⟩,
   ⟨11, none, ⟨(some 47), (.load (some 5) (.t 46)), none⟩, []⟩,
   ⟨12, none, ⟨(some 48), (.mov (.t 0)), none⟩, []⟩,
   ⟨13, none, ⟨(some 49), (.mov (.t 8)), none⟩, []⟩,
   ⟨14, none, ⟨(some 50), (.iaddr 5 (.t 48) (.t 49)), none⟩, []⟩,
   ⟨15, none, ⟨(some 51), (.load (some 5) (.t 50)), none⟩, []⟩,
   ⟨16, none, ⟨(some 52), (.iaddr 5 (.t 36) (.t 37)), none⟩, []⟩,
   ⟨17, none, ⟨none, (.store 5 (.t 52) (.t 47)), none⟩, []⟩,
   ⟨18, none, ⟨(some 53), (.iaddr 5 (.t 38) (.t 41)), none⟩, []⟩,
   ⟨19, none, ⟨none, (.store 5 (.t 53) (.t 51)), none⟩, []⟩])
  (.seq (.kill [0, 3, 8, 9, 12] 0) (.region [
   ⟨(some 54), (.mov (.t 0)), none⟩,
   ⟨(some 55), (.mov (.t 9)), none⟩,
   ⟨(some 56), (.mov (.t 12)), none⟩,
   ⟨(some 57), (.mov (.t 8)), none⟩,
   ⟨(some 58), (.mov (.t 3)), none⟩,
   ⟨(some 59), (.call 166 [(.t 54), (.t 55), (.t 56), (.t 57), (.t 58)]), none⟩]))))
  (.seq (.kill [0, 3, 8, 9, 12] 0) (.region [
   ⟨(some 34), (.mov (.t 12)), none⟩,
   ⟨(some 35), (.bin .sub .num (.t 34) (.c (.c (.int .i64 1)))), none⟩,
   ⟨(some 12), (.mov (.t 35)), none⟩])))))))))))))))))⟩
/-- slices.breakPatternsCmpFunc[campanile/api.Cell] -/
def n160 : NF := ⟨67, [],
 .seq (.region [
  ⟨(some 13), (.mov (.t 2)), none⟩,
  ⟨(some 14), (.mov (.t 1)), none⟩,
  ⟨(some 15), (.bin .sub .num (.t 13) (.t 14)), none⟩,
  ⟨(some 8), (.mov (.t 15)), none⟩])
 (.seq (.kill [0, 1, 8] 0) (.seq (.region [
  ⟨(some 16), (.mov (.t 8)), none⟩,
  ⟨(some 17), (.bin .geq .num (.t 16) (.c (.c (.int .i64 8)))), none⟩])
 (.seq (.kill [0, 1, 8, 17] 0) (.cond (.t 17)
 (.seq (.region [
   ⟨(some 18), (.mov (.t 8)), none⟩,
   ⟨(some 19), (.conv (.toInt .u64) (.t 18)), none⟩,
   ⟨(some 9), (.box false 1 (.c (.c (.int .u64 0)))), none⟩,
   ⟨none, (.store 1 (.t 9) (.t 19)), none⟩])
  (.seq (.kill [0, 1, 8, 9] 0) (.seq (.region [
   ⟨(some 20), (.mov (.t 8)), none⟩,
   ⟨(some 21), (.call 108 [(.t 20)]), none⟩,
   ⟨(some 10), (.mov (.t 21)), none⟩])
  (.seq (.kill [0, 1, 8, 9, 10] 0) (.seq (.region [
   ⟨(some 22), (.mov (.t 1)), none⟩,
   ⟨(some 23), (.mov (.t 8)), none⟩,
   ⟨(some 24), (.bin .quo .num (.t 23) (.c (.c (.int .i64 4)))), none⟩,
   ⟨(some 25), (.bin .mul .num (.t 24) (.c (.c (.int .i64 2)))), none⟩,
   ⟨(some 26), (.bin .add .num (.t 22) (.t 25)), none⟩,
   ⟨(some 27), (.bin .sub .num (.t 26) (.c (.c (.int .i64 1)))), none⟩,
   ⟨(some 11), (.mov (.t 27)), none⟩])
  (.seq (.kill [0, 1, 8, 9, 10, 11] 0) (.block 0 (.loop (.seq (.kill [0, 1, 8, 9, 10, 11] 0) (.seq (.seq (.region [
    ⟨(some 28), (.mov (.t 11)), none⟩,
    ⟨(some 29), (.mov (.t 1)), none⟩,
    ⟨(some 30), (.mov (.t 8)), none⟩,
    ⟨(some 31), (.bin .quo .num (.t 30) (.c (.c (.int .i64 4)))), none⟩,
    ⟨(some 32), (.bin .mul .num (.t 31) (.c (.c (.int .i64 2)))), none⟩,
    ⟨(some 33), (.bin .add .num (.t 29) (.t 32)), none⟩,
    ⟨(some 34), (.bin .add .num (.t 33) (.c (.c (.int .i64 1)))), none⟩,
    ⟨(some 35), (.bin .leq .num (.t 28) (.t 34)), none⟩])
   (.seq (.kill [0, 1, 8, 9, 10, 11, 35] 0) (.cond (.t 35)
   (.skip)
   (.exit 0))))
   (.seq (.kill [0, 1, 8, 9, 10, 11] 0) (.seq (.block 1 (.seq (.region [
    ⟨(some 38), (.call 109 [(.t 9)]), none⟩,
    ⟨(some 39), (.mov (.t 10)), none⟩,
    ⟨(some 40), (.bin .sub .num (.t 39) (.c (.c (.int .u64 1)))), none⟩,
    ⟨(some 41), (.bin .and .num (.t 38) (.t 40)), none⟩,
    ⟨(some 42), (.conv (.toInt .i64) (.t 41)), none⟩,
    ⟨(some 12), (.mov (.t 42)), none⟩])
   (.seq (.kill [0, 1, 8, 9, 10, 11, 12] 0) (.seq (.seq (.region [
    ⟨(some 43), (.mov (.t 12)), none⟩,
    ⟨(some 44), (.mov (.t 8)), none⟩,
    ⟨(some 45), (.bin .geq .num (.t 43) (.t 44)), none⟩])
   (.seq (.kill [0, 1, 8, 9, 10, 11, 12, 45] 0) (.cond (.t 45)
   (.region [
     ⟨(some 46), (.mov (.t 12)), none⟩,
     ⟨(some 47), (.mov (.t 8)), none⟩,
     ⟨(some 48), (.bin .sub .num (.t 46) (.t 47)), none⟩,
     ⟨(some 12), (.mov (.t 48)), none⟩])
   (.skip))))
   (.seq (.kill [0, 1, 8, 9, 10, 11, 12] 0) (.draw 0 [
    ⟨0, none, ⟨(some 49), (.mov (.t 0)), none⟩, []⟩,
    ⟨1, none, ⟨(some 50), (.mov (.t 11)), none⟩, []⟩,
    ⟨2, none, ⟨(some 51), (.mov (.t 0)), none⟩, []⟩,
    ⟨3, none, ⟨(some 52), (.mov (.t 1)), none⟩, []⟩,
    ⟨4, none, ⟨(some 53), (.mov (.t 12)), none⟩, []⟩,
    ⟨5, none, ⟨(some 54), (.bin .add .num (.t 52) (.t 53)), none⟩, []⟩,
    ⟨6, none, ⟨(some 55), (.mov (.t 0)), none⟩, []⟩,
    ⟨7, none, ⟨(some 56), (.mov (.t 1)), none⟩, []⟩,
    ⟨8, none, ⟨(some 57), (.mov (.t 12)), none⟩, []⟩,
    ⟨9, none, ⟨(some 58), (.bin .add .num (.t 56) (.t 57)), none⟩, []⟩,
    ⟨10, none, ⟨(some 59), (.iaddr 5 (.t 55) (.t 58)), none⟩, []⟩,
    ⟨11, none, ⟨(some 60), (.load (some 5) (.t 59)), none⟩, []⟩,
    ⟨12, none, ⟨(some 61), (.mov (.t 0)), none⟩, []⟩,
    ⟨13, none, ⟨(some 62), (.mov (.t 11)), none⟩, []⟩,
    ⟨14, none, ⟨(some 63), (.iaddr 5 (.t 61) (.t 62)), none⟩, []⟩,
    ⟨15, none, ⟨(some 64), (.load (some 5) (.t 63)), none⟩, []⟩,
    ⟨16, none, ⟨(some 65), (.iaddr 5 (.t 49) (.t 50)), none⟩, []⟩,
    ⟨17, none, ⟨none, (.store 5 (.t 65) (.t 60)), none⟩, []⟩,
    ⟨18, none, ⟨(some 66), (.iaddr 5 (.t 51) (.t 54)), none⟩, []⟩,
    ⟨19, none, ⟨none, (.store 5 (.t 66) (.t 64)), none⟩, []⟩]))))))
   (.seq (.kill [0, 1, 8, 9, 10, 11] 0) (.region [
    ⟨(some 36), (.mov (.t 11)), none⟩,
    ⟨(some 37), (.bin .add .num (.t 36) (.c (.c (.int .i64 1)))), none⟩,
    ⟨(some 11), (.mov (.t 37)), none⟩]))))))))))))))
 (.skip)))))⟩
/-- slices.choosePivotCmpFunc[campanile/api.Cell] -/
def n161 : NF := ⟨63, [8, 9],
 .seq (.region [
  ⟨(some 8), (.mov (.c (.c (.int .i64 0)))), none⟩,
  ⟨(some 9), (.mov (.c (.c (.int .i64 0)))), none⟩])
 (.seq (.kill [0, 1, 2, 3] 0) (.seq (.region [
  ⟨(some 15), (.mov (.t 2)), none⟩,
  ⟨(some 16), (.mov (.t 1)), none⟩,
  ⟨(some 17), (.bin .sub .num (.t 15) (.t 16)), none⟩,
  ⟨(some 10), (.mov (.t 17)), none⟩])
 (.seq (.kill [0, 1, 3, 10] 0) (.seq (.region [
  ⟨(some 11), (.box false 1 (.c (.c (.int .i64 0)))), none⟩])
 (.seq (.kill [0, 1, 3, 10, 11] 0) (.seq (.region [
  ⟨(some 18), (.mov (.t 1)), none⟩,
  ⟨(some 19), (.mov (.t 10)), none⟩,
  ⟨(some 20), (.bin .quo .num (.t 19) (.c (.c (.int .i64 4)))), none⟩,
  ⟨(some 21), (.bin .mul .num (.t 20) (.c (.c (.int .i64 1)))), none⟩,
  ⟨(some 22), (.bin .add .num (.t 18) (.t 21)), none⟩,
  ⟨(some 12), (.mov (.t 22)), none⟩])
 (.seq (.kill [0, 1, 3, 10, 11, 12] 0) (.seq (.region [
  ⟨(some 23), (.mov (.t 1)), none⟩,
  ⟨(some 24), (.mov (.t 10)), none⟩,
  ⟨(some 25), (.bin .quo .num (.t 24) (.c (.c (.int .i64 4)))), none⟩,
  ⟨(some 26), (.bin .mul .num (.t 25) (.c (.c (.int .i64 2)))), none⟩,
  ⟨(some 27), (.bin .add .num (.t 23) (.t 26)), none⟩,
  ⟨(some 13), (.mov (.t 27)), none⟩])
 (.seq (.kill [0, 1, 3, 10, 11, 12, 13] 0) (.seq (.region [
  ⟨(some 28), (.mov (.t 1)), none⟩,
  ⟨(some 29), (.mov (.t 10)), none⟩,
  ⟨(some 30), (.bin .quo .num (.t 29) (.c (.c (.int .i64 4)))), none⟩,
  ⟨(some 31), (.bin .mul .num (.t 30) (.c (.c (.int .i64 3)))), none⟩,
  ⟨(some 32), (.bin .add .num (.t 28) (.t 31)), none⟩,
  ⟨(some 14), (.mov (.t 32)), none⟩])
 (.seq (.kill [0, 3, 10, 11, 12, 13, 14] 0) (.seq (.seq (.region [
  ⟨(some 33), (.mov (.t 10)), none⟩,
  ⟨(some 34), (.bin .geq .num (.t 33) (.c (.c (.int .i64 8)))), none⟩])
 (.seq (.kill [0, 3, 10, 11, 12, 13, 14, 34] 0) (.cond (.t 34)
 (.seq (.seq (.region [
   ⟨(some 35), (.mov (.t 10)), none⟩,
   ⟨(some 36), (.bin .geq .num (.t 35) (.c (.c (.int .i64 50)))), none⟩])
  (.seq (.kill [0, 3, 11, 12, 13, 14, 36] 0) (.cond (.t 36)
  (.seq (.region [
    ⟨(some 37), (.mov (.t 0)), none⟩,
    ⟨(some 38), (.mov (.t 12)), none⟩,
    ⟨(some 39), (.mov (.t 3)), none⟩,
    ⟨(some 40), (.call 167 [(.t 37), (.t 38), (.t 11), (.t 39)]), none⟩,
    ⟨(some 12), (.mov (.t 40)), none⟩])
   (.seq (.kill [0, 3, 11, 12, 13, 14] 0) (.seq (.region [
    ⟨(some 41), (.mov (.t 0)), none⟩,
    ⟨(some 42), (.mov (.t 13)), none⟩,
    ⟨(some 43), (.mov (.t 3)), none⟩,
    ⟨(some 44), (.call 167 [(.t 41), (.t 42), (.t 11), (.t 43)]), none⟩,
    ⟨(some 13), (.mov (.t 44)), none⟩])
   (.seq (.kill [0, 3, 11, 12, 13, 14] 0) (.region [
    ⟨(some 45), (.mov (.t 0)), none⟩,
    ⟨(some 46), (.mov (.t 14)), none⟩,
    ⟨(some 47), (.mov (.t 3)), none⟩,
    ⟨(some 48), (.call 167 [(.t 45), (.t 46), (.t 11), (.t 47)]), none⟩,
    ⟨(some 14), (.mov (.t 48)), none⟩])))))
  (.skip))))
  (.seq (.kill [0, 3, 11, 12, 13, 14] 0) (.region [
   ⟨(some 49), (.mov (.t 0)), none⟩,
   ⟨(some 50), (.mov (.t 12)), none⟩,
   ⟨(some 51), (.mov (.t 13)), none⟩,
   ⟨(some 52), (.mov (.t 14)), none⟩,
   ⟨(some 53), (.mov (.t 3)), none⟩,
   ⟨(some 54), (.call 168 [(.t 49), (.t 50), (.t 51), (.t 52), (.t 11), (.t 53)]), none⟩,
   ⟨(some 13), (.mov (.t 54)), none⟩])))
 (.skip))))
 (.seq (.kill [11, 13] 0) (.seq (.region [
  ⟨(some 55), (.load none (.t 11)), none⟩])
 (.seq (.kill [13, 55] 0) (.block 0 (.seq (.region [
  ⟨(some 58), (.bin .eql .num (.t 55) (.c (.c (.int .i64 0)))), none⟩,
  ⟨(some 57), (.mov (.t 58)), none⟩])
 (.seq (.kill [13, 55, 57] 0) (.cond (.t 57)
 (.seq (.region [
   ⟨(some 59), (.mov (.t 13)), none⟩,
   ⟨(some 8), (.mov (.t 59)), none⟩,
   ⟨(some 9), (.mov (.c (.c (.int .i64 1)))), none⟩])
  (.ret))
 (.seq (.region [
   ⟨(some 61), (.bin .eql .num (.t 55) (.c (.c (.int .i64 12)))), none⟩,
   ⟨(some 60), (.mov (.t 61)), none⟩])
  (.seq (.kill [13, 60] 0) (.cond (.t 60)
  (.seq (.region [
    ⟨(some 62), (.mov (.t 13)), none⟩,
    ⟨(some 8), (.mov (.t 62)), none⟩,
    ⟨(some 9), (.mov (.c (.c (.int .i64 2)))), none⟩])
   (.ret))
  (.seq (.region [
    ⟨(some 56), (.mov (.t 13)), none⟩,
    ⟨(some 8), (.mov (.t 56)), none⟩,
    ⟨(some 9), (.mov (.c (.c (.int .i64 0)))), none⟩])
   (.ret))))))))))))))))))))))))⟩
/-- slices.reverseRangeCmpFunc[campanile/api.Cell] -/
def n162 : NF := ⟨34, [],
 .seq (.region [
  ⟨(some 10), (.mov (.t 1)), none⟩,
  ⟨(some 8), (.mov (.t 10)), none⟩])
 (.seq (.kill [0, 2, 8] 0) (.seq (.region [
  ⟨(some 11), (.mov (.t 2)), none⟩,
  ⟨(some 12), (.bin .sub .num (.t 11) (.c (.c (.int .i64 1)))), none⟩,
  ⟨(some 9), (.mov (.t 12)), none⟩])
 (.seq (.kill [0, 8, 9] 0) (.block 0 (.loop (.seq (.kill [0, 8, 9] 0) (.seq (.seq (.region [
   ⟨(some 13), (.mov (.t 8)), none⟩,
   ⟨(some 14), (.mov (.t 9)), none⟩,
   ⟨(some 15), (.bin .lss .num (.t 13) (.t 14)), none⟩])
  (.seq (.kill [0, 8, 9, 15] 0) (.cond (.t 15)
  (.skip)
  (.exit 0))))
  (.seq (.kill [0, 8, 9] 0) (.block 1 (.seq (.draw 0 [
   ⟨0, none, ⟨(some 16), (.mov (.t 0)), none⟩, []⟩,
   ⟨1, none, ⟨(some 17), (.mov (.t 8)), none⟩, []⟩,
   ⟨2, none, ⟨(some 18), (.mov (.t 0)), none⟩, []⟩,
   ⟨3, none, ⟨(some 19), (.mov (.t 9)), none⟩, []⟩,
   ⟨4, none, ⟨(some 20), (.mov (.t 0)), none⟩, []⟩,
   ⟨5, none, ⟨(some 21), (.mov (.t 9)), none⟩, []⟩,
   ⟨6, none, ⟨(some 22), (.iaddr 5 (.t 20) (.t 21)), none⟩, []⟩,
   ⟨7, none, ⟨(some 23), (.load (some 5) (.t 22)), none⟩, []⟩,
   ⟨8, none, ⟨(some 24), (.mov (.t 0)), none⟩, []⟩,
   ⟨9, none, ⟨(some 25), (.mov (.t 8)), none⟩, []⟩,
   ⟨10, none, ⟨(some 26), (.iaddr 5 (.t 24) (.t 25)), none⟩, []⟩,
   ⟨11, none, ⟨(some 27), (.load (some 5) (.t 26)), none⟩, []⟩,
   ⟨12, none, ⟨(some 28), (.iaddr 5 (.t 16) (.t 17)), none⟩, []⟩,
   ⟨13, none, ⟨none, (.store 5 (.t 28) (.t 23)), none⟩, []⟩,
   ⟨14, none, ⟨(some 29), (.iaddr 5 (.t 18) (.t 19)), none⟩, []⟩,
   ⟨15, none, ⟨none, (.store 5 (.t 29) (.t 27)), none⟩, []⟩])
  (.seq (.kill [0, 8, 9] 0) (.seq (.region [
   ⟨(some 30), (.mov (.t 8)), none⟩,
   ⟨(some 31), (.bin .add .num (.t 30) (.c (.c (.int .i64 1)))), none⟩,
   ⟨(some 8), (.mov (.t 31)), none⟩])
  (.seq (.kill [0, 8, 9] 0) (.region [
   ⟨(some 32), (.mov (.t 9)), none⟩,
   ⟨(some 33), (.bin .sub .num (.t 32) (.c (.c (.int .i64 1)))), none⟩,
   ⟨(some 9), (.mov (.t 33)), none⟩]))))))))))))))⟩
/-- slices.partialInsertionSortCmpFunc[campanile/api.Cell] -/
def n163 : NF := ⟨141, [8],
 .seq (.region [
  ⟨(some 8), (.mov (.c (.c (.bool false)))), none⟩])
 (.seq (.kill [0, 1, 2, 3] 0) (.seq (.region [
  ⟨(some 13), (.mov (.t 1)), none⟩,
  ⟨(some 14), (.bin .add .num (.t 13) (.c (.c (.int .i64 1)))), none⟩,
  ⟨(some 9), (.mov (.t 14)), none⟩])
 (.seq (.kill [0, 1, 2, 3, 9] 0) (.seq (.seq (.region [
  ⟨(some 10), (.mov (.c (.c (.int .i64 0)))), none⟩])
 (.seq (.kill [0, 1, 2, 3, 9, 10] 0) (.block 0 (.loop (.seq (.kill [0, 1, 2, 3, 9, 10] 0) (.seq (.seq (.region [
   ⟨(some 15), (.mov (.t 10)), none⟩,
   ⟨(some 16), (.bin .lss .num (.t 15) (.c (.c (.int .i64 5)))), none⟩])
  (.seq (.kill [0, 1, 2, 3, 9, 10, 16] 0) (.cond (.t 16)
  (.skip)
  (.exit 0))))
  (.seq (.kill [0, 1, 2, 3, 9, 10] 0) (.seq (.block 1 (.seq (.block 2 (.loop (.seq (.kill [0, 1, 2, 3, 9, 10] 0) (.seq (.seq (.draw 0 [
    ⟨0, none, ⟨(some 19), (.mov (.t 9)), none⟩, []⟩,
    ⟨1, none, ⟨(some 20), (.mov (.t 2)), none⟩, []⟩,
    ⟨2, none, ⟨(some 21), (.bin .lss .num (.t 19) (.t 20)), none⟩, []⟩,
    ⟨3, none, ⟨(some 22), (.mov (.t 21)), none⟩, []⟩,
    ⟨4, none, ⟨(some 23), (.mov (.t 3)), (some (22, true))⟩, []⟩,
    ⟨5, none, ⟨(some 24), (.mov (.t 0)), (some (22, true))⟩, []⟩,
    ⟨6, none, ⟨(some 25), (.mov (.t 9)), (some (22, true))⟩, []⟩,
    ⟨7, none, ⟨(some 26), (.iaddr 5 (.t 24) (.t 25)), (some (22, true))⟩, []⟩,
    ⟨8, none, ⟨(some 27), (.load (some 5) (.t 26)), (some (22, true))⟩, []⟩,
    ⟨9, none, ⟨(some 28), (.mov (.t 0)), (some (22, true))⟩, []⟩,
    ⟨10, none, ⟨(some 29), (.mov (.t 9)), (some (22, true))⟩, []⟩,
    ⟨11, none, ⟨(some 30), (.bin .sub .num (.t 29) (.c (.c (.int .i64 1)))), (some (22, true))⟩, []⟩,
    ⟨12, none, ⟨(some 31), (.iaddr 5 (.t 28) (.t 30)), (some (22, true))⟩, []⟩,
    ⟨13, none, ⟨(some 32), (.load (some 5) (.t 31)), (some (22, true))⟩, []⟩,
    ⟨14, none, ⟨(some 33), (.dyn (.t 23) [(.t 27), (.t 32)]), (some (22, true))⟩, []⟩,
    ⟨15, none, ⟨(some 34), (.bin .lss .num (.t 33) (.c (.c (.int .i64 0)))), (some (22, true))⟩, []⟩,
    ⟨16, none, ⟨(some 35), (.un .not (.t 34)), (some (22, true))⟩, []⟩,
    ⟨17, none, ⟨(some 36), (.pick (.t 22) (.t 35) (.c (.c (.bool false)))), none⟩, []⟩])
   (.seq (.kill [0, 1, 2, 3, 9, 10, 36] 0) (.cond (.t 36)
   (.skip)
   (.exit 2))))
   (.seq (.kill [0, 1, 2, 3, 9, 10] 0) (.block 3 (.region [
    ⟨(some 37), (.mov (.t 9)), none⟩,
    ⟨(some 38), (.bin .add .num (.t 37) (.c (.c (.int .i64 1)))), none⟩,
    ⟨(some 9), (.mov (.t 38)), none⟩])))))))
  (.seq (.kill [0, 1, 2, 3, 9, 10] 0) (.seq (.seq (.region [
   ⟨(some 39), (.mov (.t 9)), none⟩,
   ⟨(some 40), (.mov (.t 2)), none⟩,
   ⟨(some 41), (.bin .eql .num (.t 39) (.t 40)), none⟩])
  (.seq (.kill [0, 1, 2, 3, 9, 10, 41] 0) (.cond (.t 41)
  (.seq (.region [
    ⟨(some 8), (.mov (.c (.c (.bool true)))), none⟩])
   (.ret))
  (.skip))))
  (.seq (.kill [0, 1, 2, 3, 9, 10] 0) (.seq (.seq (.region [
   ⟨(some 42), (.mov (.t 2)), none⟩,
   ⟨(some 43), (.mov (.t 1)), none⟩,
   ⟨(some 44), (.bin .sub .num (.t 42) (.t 43)), none⟩,
   ⟨(some 45), (.bin .lss .num (.t 44) (.c (.c (.int .i64 50)))), none⟩])
  (.seq (.kill [0, 1, 2, 3, 9, 10, 45] 0) (.cond (.t 45)
  (.seq (.region [
    ⟨(some 8), (.mov (.c (.c (.bool false)))), none⟩])
   (.ret))
  (.skip))))
  (.seq (.kill [0, 1, 2, 3, 9, 10] 0) (.seq (.draw 0 [
   ⟨0, none, ⟨(some 46), (.mov (.t 0)), none⟩, []⟩,
   ⟨1, none, ⟨(some 47), (.mov (.t 9)), none⟩, []⟩,
   ⟨2, none, ⟨(some 48), (.mov (.t 0)), none⟩, []⟩,
   ⟨3, none, ⟨(some 49), (.mov (.t 9)), none⟩, []⟩,
   ⟨4, none, ⟨(some 50), (.bin .sub .num (.t 49) (.c (.c (.int .i64 1)))), none⟩, []⟩,
   ⟨5, none, ⟨(some 51), (.mov (.t 0)), none⟩, []⟩,
   ⟨6, none, ⟨(some 52), (.mov (.t 9)), none⟩, []⟩,
   ⟨7, none, ⟨(some 53), (.bin .sub .num (.t 52) (.c (.c (.int .i64 1)))), none⟩, []⟩,
   ⟨8, none, ⟨(some 54), (.iaddr 5 (.t 51) (.t 53)), none⟩, []⟩,
   ⟨9, none, ⟨(some 55), (.load (some 5) (.t 54)), none⟩, []⟩,
   ⟨10, none, ⟨(some 56), (.mov (.t 0)), none⟩, []⟩,
   ⟨11, none, ⟨(some 57), (.mov (.t 9)), none⟩, []⟩,
   ⟨12, none, ⟨(some 58), (.iaddr 5 (.t 56) (.t 57)), none⟩, []⟩,
   ⟨13, none, ⟨(some 59), (.load (some 5) (.t 58)), none⟩, []⟩,
   ⟨14, none, ⟨(some 60), (.iaddr 5 (.t 46) (.t 47)), none⟩, []⟩,
   ⟨15, none, ⟨none, (.store 5 (.t 60) (.t 55)), none⟩, []⟩,
   ⟨16, none, ⟨(some 61), (.iaddr 5 (.t 48) (.t 50)), none⟩, []⟩,
   ⟨17, none, ⟨none, (.store 5 (.t 61) (.t 59)), none⟩, []⟩])
  (.seq (.kill [0, 1, 2, 3, 9, 10] 0) (.seq (.seq (.region [
   ⟨(some 62), (.mov (.t 9)), none⟩,
   ⟨(some 63), (.mov (.t 1)), none⟩,
   ⟨(some 64), (.bin .sub .num (.t 62) (.t 63)), none⟩,
   ⟨(some 65), (.bin .geq .num (.t 64) (.c (.c (.int .i64 2)))), none⟩])
  (.seq (.kill [0, 1, 2, 3, 9, 10, 65] 0) (.cond (.t 65)
  (.seq (.region [
    ⟨(some 66), (.mov (.t 9)), none⟩,
    ⟨(some 67), (.bin .sub .num (.t 66) (.c (.c (.int .i64 1)))), none⟩,
    ⟨(some 11), (.mov (.t 67)), none⟩])
   (.seq (.kill [0, 1, 2, 3, 9, 10, 11] 0) (.block 4 (.loop (.seq (.kill [0, 1, 2, 3, 9, 10, 11] 0) (.seq (.seq (.region [
     ⟨(some 68), (.mov (.t 11)), none⟩,
     ⟨(some 69), (.bin .geq .num (.t 68) (.c (.c (.int .i64 1)))), none⟩])
    (.seq (.kill [0, 1, 2, 3, 9, 10, 11, 69] 0) (.cond (.t 69)
    (.skip)
    (.exit 4))))
    (.seq (.kill [0, 1, 2, 3, 9, 10, 11] 0) (.seq (.block 5 (.seq (.seq (.draw 0 [
     ⟨0, none, ⟨(some 72), (.mov (.t 3)), none⟩, []⟩,
     ⟨1, none, ⟨(some 73), (.mov (.t 0)), none⟩, []⟩,
     ⟨2, none, ⟨(some 74), (.mov (.t 11)), none⟩, []⟩,
     ⟨3, none, ⟨(some 75), (.iaddr 5 (.t 73) (.t 74)), none⟩, []⟩,
     ⟨4, none, ⟨(some 76), (.load (some 5) (.t 75)), none⟩, []⟩,
     ⟨5, none, ⟨(some 77), (.mov (.t 0)), none⟩, []⟩,
     ⟨6, none, ⟨(some 78), (.mov (.t 11)), none⟩, []⟩,
     ⟨7, none, ⟨(some 79), (.bin .sub .num (.t 78) (.c (.c (.int .i64 1)))), none⟩, []⟩,
     ⟨8, none, ⟨(some 80), (.iaddr 5 (.t 77) (.t 79)), none⟩, []⟩,
     ⟨9, none, ⟨(some 81), (.load (some 5) (.t 80)), none⟩, []⟩,
     ⟨10, none, ⟨(some 82), (.dyn (.t 72) [(.t 76), (.t 81)]), none⟩, []⟩,
     ⟨11, none, ⟨(some 83), (.bin .lss .num (.t 82) (.c (.c (.int .i64 0)))), none⟩, []⟩,
     ⟨12, none, ⟨(some 84), (.un .not (.t 83)), none⟩, []⟩])
    (.seq (.kill [0, 1, 2, 3, 9, 10, 11, 84] 0) (.cond (.t 84)
    (.exit 4)
    (.skip))))
    (.seq (.kill [0, 1, 2, 3, 9, 10, 11] 0) (.draw 0 [
     ⟨0, none, ⟨(some 85), (.mov (.t 0)), none⟩, []⟩,
     ⟨1, none, ⟨(some 86), (.mov (.t 11)), none⟩, []⟩,
     ⟨2, none, ⟨(some 87), (.mov (.t 0)), none⟩, []⟩,
     ⟨3, none, ⟨(some 88), (.mov (.t 11)), none⟩, []⟩,
     ⟨4, none, ⟨(some 89), (.bin .sub .num (.t 88) (.c (.c (.int .i64 1)))), none⟩, []⟩,
     ⟨5, none, ⟨(some 90), (.mov (.t 0)), none⟩, []⟩,
     ⟨6, none, ⟨(some 91), (.mov (.t 11)), none⟩, []⟩,
     ⟨7, none, ⟨(some 92), (.bin .sub .num (.t 91) (.c (.c (.int .i64 1)))), none⟩, []⟩,
     ⟨8, none, ⟨(some 93), (.iaddr 5 (.t 90) (.t 92)), none⟩, []⟩,
     ⟨9, none, ⟨(some 94), (.load (some 5) (.t 93)), none⟩, []⟩,
     ⟨10, none, ⟨(some 95), (.mov (.t 0)), none⟩, []⟩,
     ⟨11, none, ⟨(some 96), (.mov (.t 11)), none⟩, []⟩,
     ⟨12, none, ⟨(some 97), (.iaddr 5 (.t 95) (.t 96)), none⟩, []⟩,
     ⟨13, none, ⟨(some 98), (.load (some 5) (.t 97)), none⟩, []⟩,
     ⟨14, none, ⟨(some 99), (.iaddr 5 (.t 85) (.t 86)), none⟩, []⟩,
     ⟨15, none, ⟨none, (.store 5 (.t 99) (.t 94)), none⟩, []⟩,
     ⟨16, none, ⟨(some 100), (.iaddr 5 (.t 87) (.t 89)), none⟩, []⟩,
     ⟨17, none, ⟨none, (.store 5 (.t 100) (.t 98)), none⟩, []⟩]))))
    (.seq (.kill [0, 1, 2, 3, 9, 10, 11] 0) (.region [
     ⟨(some 70), (.mov (.t 11)), none⟩,
     ⟨(some 71), (.bin .sub .num (.t 70) (.c (.c (.int .i64 1)))), none⟩,
     ⟨(some 11), (.mov (.t 71)), none⟩]))))))))))
  (.skip))))
  (.seq (.kill [0, 1, 2, 3, 9, 10] 0) (.seq (.region [
   ⟨(some 101), (.mov (.t 2)), none⟩,
   ⟨(some 102), (.mov (.t 9)), none⟩,
   ⟨(some 103), (.bin .sub .num (.t 101) (.t 102)), none⟩,
   ⟨(some 104), (.bin .geq .num (.t 103) (.c (.c (.int .i64 2)))), none⟩])
  (.seq (.kill [0, 1, 2, 3, 9, 10, 104] 0) (.cond (.t 104)
  (.seq (.region [
    ⟨(some 105), (.mov (.t 9)), none⟩,
    ⟨(some 106), (.bin .add .num (.t 105) (.c (.c (.int .i64 1)))), none⟩,
    ⟨(some 12), (.mov (.t 106)), none⟩])
   (.seq (.kill [0, 1, 2, 3, 9, 10, 12] 0) (.block 6 (.loop (.seq (.kill [0, 1, 2, 3, 9, 10, 12] 0) (.seq (.seq (.region [
     ⟨(some 107), (.mov (.t 12)), none⟩,
     ⟨(some 108), (.mov (.t 2)), none⟩,
     ⟨(some 109), (.bin .lss .num (.t 107) (.t 108)), none⟩])
    (.seq (.kill [0, 1, 2, 3, 9, 10, 12, 109] 0) (.cond (.t 109)
    (.skip)
    (.exit 6))))
    (.seq (.kill [0, 1, 2, 3, 9, 10, 12] 0) (.seq (.block 7 (.seq (.seq (.draw 0 [
     ⟨0, none, ⟨(some 112), (.mov (.t 3)), none⟩, []⟩,
     ⟨1, none, ⟨(some 113), (.mov (.t 0)), none⟩, []⟩,
     ⟨2, none, ⟨(some 114), (.mov (.t 12)), none⟩, []⟩,
     ⟨3, none, ⟨(some 115), (.iaddr 5 (.t 113) (.t 114)), none⟩, []⟩,
     ⟨4, none, ⟨(some 116), (.load (some 5) (.t 115)), none⟩, []⟩,
     ⟨5, none, ⟨(some 117), (.mov (.t 0)), none⟩, []⟩,
     ⟨6, none, ⟨(some 118), (.mov (.t 12)), none⟩, []⟩,
     ⟨7, none, ⟨(some 119), (.bin .sub .num (.t 118) (.c (.c (.int .i64 1)))), none⟩, []⟩,
     ⟨8, none, ⟨(some 120), (.iaddr 5 (.t 117) (.t 119)), none⟩, []⟩,
     ⟨9, none, ⟨(some 121), (.load (some 5) (.t 120)), none⟩, []⟩,
     ⟨10, none, ⟨(some 122), (.dyn (.t 112) [(.t 116), (.t 121)]), none⟩, []⟩,
     ⟨11, none, ⟨(some 123), (.bin .lss .num (.t 122) (.c (.c (.int .i64 0)))), none⟩, []⟩,
     ⟨12, none, ⟨(some 124), (.un .not (.t 123)), none⟩, []⟩])
    (.seq (.kill [0, 1, 2, 3, 9, 10, 12, 124] 0) (.cond (.t 124)
    (.exit 6)
    (.skip))))
    (.seq (.kill [0, 1, 2, 3, 9, 10, 12] 0) (.draw 0 [
     ⟨0, none, ⟨(some 125), (.mov (.t 0)), none⟩, []⟩,
     ⟨1, none, ⟨(some 126), (.mov (.t 12)), none⟩, []⟩,
     ⟨2, none, ⟨(some 127), (.mov (.t 0)), none⟩, []⟩,
     ⟨3, none, ⟨(some 128), (.mov (.t 12)), none⟩, []⟩,
     ⟨4, none, ⟨(some 129), (.bin .sub .num (.t 128) (.c (.c (.int .i64 1)))), none⟩, []⟩,
     ⟨5, none, ⟨(some 130), (.mov (.t 0)), none⟩, []⟩,
     ⟨6, none, ⟨(some 131), (.mov (.t 12)), none⟩, []⟩,
     ⟨7, none, ⟨(some 132), (.bin .sub .num (.t 131) (.c (.c (.int .i64 1)))), none⟩, []⟩,
     ⟨8, none, ⟨(some 133), (.iaddr 5 (.t 130) (.t 132)), none⟩, []⟩,
     ⟨9, none, ⟨(some 134), (.load (some 5) (.t 133)), none⟩, []⟩,
     ⟨10, none, ⟨(some 135), (.mov (.t 0)), none⟩, []⟩,
     ⟨11, none, ⟨(some 136), (.mov (.t 12)), none⟩, []⟩,
     ⟨12, none, ⟨(some 137), (.iaddr 5 (.t 135) (.t 136)), none⟩, []⟩,
     ⟨13, none, ⟨(some 138), (.load (some 5) (.t 137)), none⟩, []⟩,
     ⟨14, none, ⟨(some 139), (.iaddr 5 (.t 125) (.t 126)), none⟩, []⟩,
     ⟨15, none, ⟨none, (.store 5 (.t 139) (.t 134)), none⟩, []⟩,
     ⟨16, none, ⟨(some 140), (.iaddr 5 (.t 127) (.t 129)), none⟩, []⟩,
     ⟨17, none, ⟨none, (.store 5 (.t 140) (.t 138)), none⟩, []⟩]))))
    (.seq (.kill [0, 1, 2, 3, 9, 10, 12] 0) (.region [
     ⟨(some 110), (.mov (.t 12)), none⟩,
     ⟨(some 111), (.bin .add .num (.t 110) (.c (.c (.int .i64 1)))), none⟩,
     ⟨(some 12), (.mov (.t 111)), none⟩]))))))))))
  (.skip)))))))))))))))
  (.seq (.kill [0, 1, 2, 3, 9, 10] 0) (.region [
   ⟨(some 17), (.mov (.t 10)), none⟩,
   ⟨(some 18), (.bin .add .num (.t 17) (.c (.c (.int .i64 1)))), none⟩,
   ⟨(some 10), (.mov (.t 18)), none⟩]))))))))))
 (.seq (.kill [] 0) (.seq (.region [
  ⟨(some 8), (.mov (.c (.c (.bool false)))), none⟩])
 (.ret)))))))⟩
/-- slices.partitionEqualCmpFunc[campanile/api.Cell] -/
def n164 : NF := ⟨90, [10],
 .seq (.region [
  ⟨(some 10), (.mov (.c (.c (.int .i64 0)))), none⟩])
 (.seq (.kill [0, 1, 2, 3, 4] 0) (.seq (.draw 0 [
  ⟨0, none, ⟨(some 13), (.mov (.t 0)), none⟩, []⟩,
  ⟨1, none, ⟨(some 14), (.mov (.t 1)), none⟩, []⟩,
  ⟨2, none, ⟨(some 15), (.mov (.t 0)), none⟩, []⟩,
  ⟨3, none, ⟨(some 16), (.mov (.t 3)), none⟩, []⟩,
  ⟨4, none, ⟨(some 17), (.mov (.t 0)), none⟩, []⟩,
  ⟨5, none, ⟨(some 18), (.mov (.t 3)), none⟩, []⟩,
  ⟨6, none, ⟨(some 19), (.iaddr 5 (.t 17) (.t 18)), none⟩, []⟩,
  ⟨7, none, ⟨(some 20), (.load (some 5) (.t 19)), none⟩, []⟩,
  ⟨8, none, ⟨(some 21), (.mov (.t 0)), none⟩, []⟩,
  ⟨9, none, ⟨(some 22), (.mov (.t 1)), none⟩, []⟩,
  ⟨10, none, ⟨(some 23), (.iaddr 5 (.t 21) (.t 22)), none⟩, []⟩,
  ⟨11, none, ⟨(some 24), (.load (some 5) (.t 23)), none⟩, []⟩,
  ⟨12, none, ⟨(some 25), (.iaddr 5 (.t 13) (.t 14)), none⟩, []⟩,
  ⟨13, none, ⟨none, (.store 5 (.t 25) (.t 20)), none⟩, []⟩,
  ⟨14, none, ⟨(some 26), (.iaddr 5 (.t 15) (.t 16)), none⟩, []⟩,
  ⟨15, none, ⟨none, (.store 5 (.t 26) (.t 24)), none⟩, []⟩])
 (.seq (.kill [0, 1, 2, 4] 0) (.seq (.region [
  ⟨(some 27), (.mov (.t 1)), none⟩,
  ⟨(some 28), (.bin .add .num (.t 27) (.c (.c (.int .i64 1)))), none⟩,
  ⟨(some 29), (.mov (.t 2)), none⟩,
  ⟨(some 30), (.bin .sub .num (.t 29) (.c (.c (.int .i64 1)))), none⟩,
  ⟨(some 11), (.mov (.t 28)), none⟩,
  ⟨(some 12), (.mov (.t 30)), none⟩])
 (.seq (.kill [0, 1, 4, 11, 12] 0) (.seq (.block 0 (.loop (.seq (.kill [0, 1, 4, 11, 12] 0) (.block 1 (.seq (.block 2 (.loop (.seq (.kill [0, 1, 4, 11, 12] 0) (.seq (.seq (.draw 0 [
    ⟨0, none, ⟨(some 31), (.mov (.t 11)), none⟩, []⟩,
    ⟨1, none, ⟨(some 32), (.mov (.t 12)), none⟩, []⟩,
    ⟨2, none, ⟨(some 33), (.bin .leq .num (.t 31) (.t 32)), none⟩, []⟩,
    ⟨3, none, ⟨(some 34), (.mov (.t 33)), none⟩, []⟩,
    ⟨4, none, ⟨(some 35), (.mov (.t 4)), (some (34, true))⟩, []⟩,
    ⟨5, none, ⟨(some 36), (.mov (.t 0)), (some (34, true))⟩, []⟩,
    ⟨6, none, ⟨(some 37), (.mov (.t 1)), (some (34, true))⟩, []⟩,
    ⟨7, none, ⟨(some 38), (.iaddr 5 (.t 36) (.t 37)), (some (34, true))⟩, []⟩,
    ⟨8, none, ⟨(some 39), (.load (some 5) (.t 38)), (some (34, true))⟩, []⟩,
    ⟨9, none, ⟨(some 40), (.mov (.t 0)), (some (34, true))⟩, []⟩,
    ⟨10, none, ⟨(some 41), (.mov (.t 11)), (some (34, true))⟩, []⟩,
    ⟨11, none, ⟨(some 42), (.iaddr 5 (.t 40) (.t 41)), (some (34, true))⟩, []⟩,
    ⟨12, none, ⟨(some 43), (.load (some 5) (.t 42)), (some (34, true))⟩, []⟩,
    ⟨13, none, ⟨(some 44), (.dyn (.t 35) [(.t 39), (.t 43)]), (some (34, true))⟩, []⟩,
    ⟨14, none, ⟨(some 45), (.bin .lss .num (.t 44) (.c (.c (.int .i64 0)))), (some (34, true))⟩, []⟩,
    ⟨15, none, ⟨(some 46), (.un .not (.t 45)), (some (34, true))⟩, []⟩,
    ⟨16, none, ⟨(some 47), (.pick (.t 34) (.t 46) (.c (.c (.bool false)))), none⟩, []⟩])
   (.seq (.kill [0, 1, 4, 11, 12, 47] 0) (.cond (.t 47)
   (.skip)
   (.exit 2))))
   (.seq (.kill [0, 1, 4, 11, 12] 0) (.block 3 (.region [
    ⟨(some 48), (.mov (.t 11)), none⟩,
    ⟨(some 49), (.bin .add .num (.t 48) (.c (.c (.int .i64 1)))), none⟩,
    ⟨(some 11), (.mov (.t 49)), none⟩])))))))
  (.seq (.kill [0, 1, 4, 11, 12] 0) (.seq (.block 4 (.loop (.seq (.kill [0, 1, 4, 11, 12] 0) (.seq (.seq (.draw 0 [
    ⟨0, none, ⟨(some 50), (.mov (.t 11)), none⟩, []⟩,
    ⟨1, none, ⟨(some 51), (.mov (.t 12)), none⟩, []⟩,
    ⟨2, none, ⟨(some 52), (.bin .leq .num (.t 50) (.t 51)), none⟩, []⟩,
    ⟨3, none, ⟨(some 53), (.mov (.t 52)), none⟩, []⟩,
    ⟨4, none, ⟨(some 54), (.mov (.t 4)), (some (53, true))⟩, []⟩,
    ⟨5, none, ⟨(some 55), (.mov (.t 0)), (some (53, true))⟩, []⟩,
    ⟨6, none, ⟨(some 56), (.mov (.t 1)), (some (53, true))⟩, []⟩,
    ⟨7, none, ⟨(some 57), (.iaddr 5 (.t 55) (.t 56)), (some (53, true))⟩, []⟩,
    ⟨8, none, ⟨(some 58), (.load (some 5) (.t 57)), (some (53, true))⟩, []⟩,
    ⟨9, none, ⟨(some 59), (.mov (.t 0)), (some (53, true))⟩, []⟩,
    ⟨10, none, ⟨(some 60), (.mov (.t 12)), (some (53, true))⟩, []⟩,
    ⟨11, none, ⟨(some 61), (.iaddr 5 (.t 59) (.t 60)), (some (53, true))⟩, []⟩,
    ⟨12, none, ⟨(some 62), (.load (some 5) (.t 61)), (some (53, true))⟩, []⟩,
    ⟨13, none, ⟨(some 63), (.dyn (.t 54) [(.t 58), (.t 62)]), (some (53, true))⟩, []⟩,
    ⟨14, none, ⟨(some 64), (.bin .lss .num (.t 63) (.c (.c (.int .i64 0)))), (some (53, true))⟩, []⟩,
    ⟨15, none, ⟨(some 65), (.pick (.t 53) (.t 64) (.c (.c (.bool false)))), none⟩, []⟩])
   (.seq (.kill [0, 1, 4, 11, 12, 65] 0) (.cond (.t 65)
   (.skip)
   (.exit 4))))
   (.seq (.kill [0, 1, 4, 11, 12] 0) (.block 5 (.region [
    ⟨(some 66), (.mov (.t 12)), none⟩,
    ⟨(some 67), (.bin .sub .num (.t 66) (.c (.c (.int .i64 1)))), none⟩,
    ⟨(some 12), (.mov (.t 67)), none⟩])))))))
  (.seq (.kill [0, 1, 4, 11, 12] 0) (.seq (.seq (.region [
   ⟨(some 68), (.mov (.t 11)), none⟩,
   ⟨(some 69), (.mov (.t 12)), none⟩,
   ⟨(some 70), (.bin .gtr .num (.t 68) (.t 69)), none⟩])
  (.seq (.kill [0, 1, 4, 11, 12, 70] 0) (.cond (.t 70)
  (.exit 0)
  (.skip))))
  (.seq (.kill [0, 1, 4, 11, 12] 0) (.seq (.draw 0 [
   ⟨0, none, ⟨(some 71), (.mov (.t 0)), none⟩, []⟩,
   ⟨1, none, ⟨(some 72), (.mov (.t 11)), none⟩, []⟩,
   ⟨2, none, ⟨(some 73), (.mov (.t 0)), none⟩, []⟩,
   ⟨3, none, ⟨(some 74), (.mov (.t 12)), none⟩, []⟩,
   ⟨4, none, ⟨(some 75), (.mov (.t 0)), none⟩, []⟩,
   ⟨5, none, ⟨(some 76), (.mov (.t 12)), none⟩, []⟩,
   ⟨6, none, ⟨(some 77), (.iaddr 5 (.t 75) (.t 76)), none⟩, []⟩,
   ⟨7, none, ⟨(some 78), (.load (some 5) (.t 77)), none⟩, []⟩,
   ⟨8, none, ⟨(some 79), (.mov (.t 0)), none⟩, []⟩,
   ⟨9, none, ⟨(some 80), (.mov (.t 11)), none⟩, []⟩,
   ⟨10, none, ⟨(some 81), (.iaddr 5 (.t 79) (.t 80)), none⟩, []⟩,
   ⟨11, none, ⟨(some 82), (.load (some 5) (.t 81)), none⟩, []⟩,
   ⟨12, none, ⟨(some 83), (.iaddr 5 (.t 71) (.t 72)), none⟩, []⟩,
   ⟨13, none, ⟨none, (.store 5 (.t 83) (.t 78)), none⟩, []⟩,
   ⟨14, none, ⟨(some 84), (.iaddr 5 (.t 73) (.t 74)), none⟩, []⟩,
   ⟨15, none, ⟨none, (.store 5 (.t 84) (.t 82)), none⟩, []⟩])
  (.seq (.kill [0, 1, 4, 11, 12] 0) (.seq (.region [
   ⟨(some 85), (.mov (.t 11)), none⟩,
   ⟨(some 86), (.bin .add .num (.t 85) (.c (.c (.int .i64 1)))), none⟩,
   ⟨(some 11), (.mov (.t 86)), none⟩])
  (.seq (.kill [0, 1, 4, 11, 12] 0) (.region [
   ⟨(some 87), (.mov (.t 12)), none⟩,
   ⟨(some 88), (.bin .sub .num (.t 87) (.c (.c (.int .i64 1)))), none⟩,
   ⟨(some 12), (.mov (.t 88)), none⟩])))))))))))))))
 (.seq (.kill [11] 0) (.seq (.region [
  ⟨(some 89), (.mov (.t 11)), none⟩,
  ⟨(some 10), (.mov (.t 89)), none⟩])
 (.ret)))))))))⟩
/-- slices.partitionCmpFunc[campanile/api.Cell] -/
def n165 : NF := ⟨178, [10, 11],
 .seq (.region [
  ⟨(some 10), (.mov (.c (.c (.int .i64 0)))), none⟩,
  ⟨(some 11), (.mov (.c (.c (.bool false)))), none⟩])
 (.seq (.kill [0, 1, 2, 3, 4] 0) (.seq (.draw 0 [
  ⟨0, none, ⟨(some 14), (.mov (.t 0)), none⟩, []⟩,
  ⟨1, none, ⟨(some 15), (.mov (.t 1)), none⟩, []⟩,
  ⟨2, none, ⟨(some 16), (.mov (.t 0)), none⟩, []⟩,
  ⟨3, none, ⟨(some 17), (.mov (.t 3)), none⟩, []⟩,
  ⟨4, none, ⟨(some 18), (.mov (.t 0)), none⟩, []⟩,
  ⟨5, none, ⟨(some 19), (.mov (.t 3)), none⟩, []⟩,
  ⟨6, none, ⟨(some 20), (.iaddr 5 (.t 18) (.t 19)), none⟩, []⟩,
  ⟨7, none, ⟨(some 21), (.load (some 5) (.t 20)), none⟩, []⟩,
  ⟨8, none, ⟨(some 22), (.mov (.t 0)), none⟩, []⟩,
  ⟨9, none, ⟨(some 23), (.mov (.t 1)), none⟩, []⟩,
  ⟨10, none, ⟨(some 24), (.iaddr 5 (.t 22) (.t 23)), none⟩, []⟩,
  ⟨11, none, ⟨(some 25), (.load (some 5) (.t 24)), none⟩, []⟩,
  ⟨12, none, ⟨(some 26), (.iaddr 5 (.t 14) (.t 15)), none⟩, []⟩,
  ⟨13, none, ⟨none, (.store 5 (.t 26) (.t 21)), none⟩, []⟩,
  ⟨14, none, ⟨(some 27), (.iaddr 5 (.t 16) (.t 17)), none⟩, []⟩,
  ⟨15, none, ⟨none, (.store 5 (.t 27) (.t 25)), none⟩, []⟩])
 (.seq (.kill [0, 1, 2, 4] 0) (.seq (.region [
  ⟨(some 28), (.mov (.t 1)), none⟩,
  ⟨(some 29), (.bin .add .num (.t 28) (.c (.c (.int .i64 1)))), none⟩,
  ⟨(some 30), (.mov (.t 2)), none⟩,
  ⟨(some 31), (.bin .sub .num (.t 30) (.c (.c (.int .i64 1)))), none⟩,
  ⟨(some 12), (.mov (.t 29)), none⟩,
  ⟨(some 13), (.mov (.t 31)), none⟩])
 (.seq (.kill [0, 1, 4, 12, 13] 0) (.seq (.block 0 (.loop (.seq (.kill [0, 1, 4, 12, 13] 0) (.seq (.seq (.draw 0 [
   ⟨0, none, ⟨(some 32), (.mov (.t 12)), none⟩, []⟩,
   ⟨1, none, ⟨(some 33), (.mov (.t 13)), none⟩, []⟩,
   ⟨2, none, ⟨(some 34), (.bin .leq .num (.t 32) (.t 33)), none⟩, []⟩,
   ⟨3, none, ⟨(some 35), (.mov (.t 34)), none⟩, []⟩,
   ⟨4, none, ⟨(some 36), (.mov (.t 4)), (some (35, true))⟩, []⟩,
   ⟨5, none, ⟨(some 37), (.mov (.t 0)), (some (35, true))⟩, []⟩,
   ⟨6, none, ⟨(some 38), (.mov (.t 12)), (some (35, true))⟩, []⟩,
   ⟨7, none, ⟨(some 39), (.iaddr 5 (.t 37) (.t 38)), (some (35, true))⟩, []⟩,
   ⟨8, none, ⟨(some 40), (.load (some 5) (.t 39)), (some (35, true))⟩, []⟩,
   ⟨9, none, ⟨(some 41), (.mov (.t 0)), (some (35, true))⟩, []⟩,
   ⟨10, none, ⟨(some 42), (.mov (.t 1)), (some (35, true))⟩, []⟩,
   ⟨11, none, ⟨(some 43), (.iaddr 5 (.t 41) (.t 42)), (some (35, true))⟩, []⟩,
   ⟨12, none, ⟨(some 44), (.load (some 5) (.t 43)), (some (35, true))⟩, []⟩,
   ⟨13, none, ⟨(some 45), (.dyn (.t 36) [(.t 40), (.t 44)]), (some (35, true))⟩, []⟩,
   ⟨14, none, ⟨(some 46), (.bin .lss .num (.t 45) (.c (.c (.int .i64 0)))), (some (35, true))⟩, []⟩,
   ⟨15, none, ⟨(some 47), (.pick (.t 35) (.t 46) (.c (.c (.bool false)))), none⟩, []⟩])
  (.seq (.kill [0, 1, 4, 12, 13, 47] 0) (.cond (.t 47)
  (.skip)
  (.exit 0))))
  (.seq (.kill [0, 1, 4, 12, 13] 0) (.block 1 (.region [
   ⟨(some 48), (.mov (.t 12)), none⟩,
   ⟨(some 49), (.bin .add .num (.t 48) (.c (.c (.int .i64 1)))), none⟩,
   ⟨(some 12), (.mov (.t 49)), none⟩])))))))
 (.seq (.kill [0, 1, 4, 12, 13] 0) (.seq (.block 2 (.loop (.seq (.kill [0, 1, 4, 12, 13] 0) (.seq (.seq (.draw 0 [
   ⟨0, none, ⟨(some 50), (.mov (.t 12)), none⟩, []⟩,
   ⟨1, none, ⟨(some 51), (.mov (.t 13)), none⟩, []⟩,
   ⟨2, none, ⟨(some 52), (.bin .leq .num (.t 50) (.t 51)), none⟩, []⟩,
   ⟨3, none, ⟨(some 53), (.mov (.t 52)), none⟩, []⟩,
   ⟨4, none, ⟨(some 54), (.mov (.t 4)), (some (53, true))⟩, []⟩,
   ⟨5, none, ⟨(some 55), (.mov (.t 0)), (some (53, true))⟩, []⟩,
   ⟨6, none, ⟨(some 56), (.mov (.t 13)), (some (53, true))⟩, []⟩,
   ⟨7, none, ⟨(some 57), (.iaddr 5 (.t 55) (.t 56)), (some (53, true))⟩, []⟩,
   ⟨8, none, ⟨(some 58), (.load (some 5) (.t 57)), (some (53, true))⟩, []⟩,
   ⟨9, none, ⟨(some 59), (.mov (.t 0)), (some (53, true))⟩, []⟩,
   ⟨10, none, ⟨(some 60), (.mov (.t 1)), (some (53, true))⟩, []⟩,
   ⟨11, none, ⟨(some 61), (.iaddr 5 (.t 59) (.t 60)), (some (53, true))⟩, []⟩,
   ⟨12, none, ⟨(some 62), (.load (some 5) (.t 61)), (some (53, true))⟩, []⟩,
   ⟨13, none, ⟨(some 63), (.dyn (.t 54) [(.t 58), (.t 62)]), (some (53, true))⟩, []⟩,
   ⟨14, none, ⟨(some 64), (.bin .lss .num (.t 63) (.c (.c (.int .i64 0)))), (some (53, true))⟩, []⟩,
   ⟨15, none, ⟨(some 65), (.un .not (.t 64)), (some (53, true))⟩, []⟩,
   ⟨16, none, ⟨(some 66), (.pick (.t 53) (.t 65) (.c (.c (.bool false)))), none⟩, []⟩])
  (.seq (.kill [0, 1, 4, 12, 13, 66] 0) (.cond (.t 66)
  (.skip)
  (.exit 2))))
  (.seq (.kill [0, 1, 4, 12, 13] 0) (.block 3 (.region [
   ⟨(some 67), (.mov (.t 13)), none⟩,
   ⟨(some 68), (.bin .sub .num (.t 67) (.c (.c (.int .i64 1)))), none⟩,
   ⟨(some 13), (.mov (.t 68)), none⟩])))))))
 (.seq (.kill [0, 1, 4, 12, 13] 0) (.seq (.seq (.region [
  ⟨(some 69), (.mov (.t 12)), none⟩,
  ⟨(some 70), (.mov (.t 13)), none⟩,
  ⟨(some 71), (.bin .gtr .num (.t 69) (.t 70)), none⟩])
 (.seq (.kill [0, 1, 4, 12, 13, 71] 0) (.cond (.t 71)
 (.seq (.draw 0 [
   ⟨0, none, ⟨(some 72), (.mov (.t 0)), none⟩, []⟩,
   ⟨1, none, ⟨(some 73), (.mov (.t 13)), none⟩, []⟩,
   ⟨2, none, ⟨(some 74), (.mov (.t 0)), none⟩, []⟩,
   ⟨3, none, ⟨(some 75), (.mov (.t 1)), none⟩, []⟩,
   ⟨4, none, ⟨(some 76), (.mov (.t 0)), none⟩, []⟩,
   ⟨5, none, ⟨(some 77), (.mov (.t 1)), none⟩, []⟩,
   ⟨6, none, ⟨(some 78), (.iaddr 5 (.t 76) (.t 77)), none⟩, []⟩,
   ⟨7, none, ⟨(some 79), (.load (some 5) (.t 78)), none⟩, []⟩,
   ⟨8, none, ⟨(some 80), (.mov (.t 0)), none⟩, []⟩,
   ⟨9, none, ⟨(some 81), (.mov (.t 13)), none⟩, []⟩,
   ⟨10, none, ⟨(some 82), (.iaddr 5 (.t 80) (.t 81)), none⟩, []⟩,
   ⟨11, none, ⟨(some 83), (.load (some 5) (.t 82)), none⟩, []⟩,
   ⟨12, none, ⟨(some 84), (.iaddr 5 (.t 72) (.t 73)), none⟩, []⟩,
   ⟨13, none, ⟨none, (.store 5 (.t 84) (.t 79)), none⟩, []⟩,
   ⟨14, none, ⟨(some 85), (.iaddr 5 (.t 74) (.t 75)), none⟩, []⟩,
   ⟨15, none, ⟨none, (.store 5 (.t 85) (.t 83)), none⟩, []⟩])
  (.seq (.kill [13] 0) (.seq (.region [
   ⟨(some 86), (.mov (.t 13)), none⟩,
   ⟨(some 10), (.mov (.t 86)), none⟩,
   ⟨(some 11), (.mov (.c (.c (.bool true)))), none⟩])
  (.ret))))
 (.skip))))
 (.seq (.kill [0, 1, 4, 12, 13] 0) (.seq (.draw 0 [
  ⟨0, none, ⟨(some 87), (.mov (.t 0)), none⟩, []⟩,
  ⟨1, none, ⟨(some 88), (.mov (.t 12)), none⟩, []⟩,
  ⟨2, none, ⟨(some 89), (.mov (.t 0)), none⟩, []⟩,
  ⟨3, none, ⟨(some 90), (.mov (.t 13)), none⟩, []⟩,
  ⟨4, none, ⟨(some 91), (.mov (.t 0)), none⟩, []⟩,
  ⟨5, none, ⟨(some 92), (.mov (.t 13)), none⟩, []⟩,
  ⟨6, none, ⟨(some 93), (.iaddr 5 (.t 91) (.t 92)), none⟩, []⟩,
  ⟨7, none, ⟨(some 94), (.load (some 5) (.t 93)), none⟩, []⟩,
  ⟨8, none, ⟨(some 95), (.mov (.t 0)), none⟩, []⟩,
  ⟨9, none, ⟨(some 96), (.mov (.t 12)), none⟩, []⟩,
  ⟨10, none, ⟨(some 97), (.iaddr 5 (.t 95) (.t 96)), none⟩, []⟩,
  ⟨11, none, ⟨(some 98), (.load (some 5) (.t 97)), none⟩, []⟩,
  ⟨12, none, ⟨(some 99), (.iaddr 5 (.t 87) (.t 88)), none⟩, []⟩,
  ⟨13, none, ⟨none, (.store 5 (.t 99) (.t 94)), none⟩, []⟩,
  ⟨14, none, ⟨(some 100), (.iaddr 5 (.t 89) (.t 90)), none⟩, []⟩,
  ⟨15, none, ⟨none, (.store 5 (.t 100) (.t 98)), none⟩, []⟩])
 (.seq (.kill [0, 1, 4, 12, 13] 0) (.seq (.region [
  ⟨(some 101), (.mov (.t 12)), none⟩,
  ⟨(some 102), (.bin .add .num (.t 101) (.c (.c (.int .i64 1)))), none⟩,
  ⟨(some 12), (.mov (.t 102)), none⟩])
 (.seq (.kill [0, 1, 4, 12, 13] 0) (.seq (.region [
  ⟨(some 103), (.mov (.t 13)), none⟩,
  ⟨(some 104), (.bin .sub .num (.t 103) (.c (.c (.int .i64 1)))), none⟩,
  ⟨(some 13), (.mov (.t 104)), none⟩])
 (.seq (.kill [0, 1, 4, 12, 13] 0) (.seq (.block 4 (.loop (.seq (.kill [0, 1, 4, 12, 13] 0) (.block 5 (.seq (.block 6 (.loop (.seq (.kill [0, 1, 4, 12, 13] 0) (.seq (.seq (.draw 0 [
    ⟨0, none, ⟨(some 105), (.mov (.t 12)), none⟩, []⟩,
    ⟨1, none, ⟨(some 106), (.mov (.t 13)), none⟩, []⟩,
    ⟨2, none, ⟨(some 107), (.bin .leq .num (.t 105) (.t 106)), none⟩, []⟩,
    ⟨3, none, ⟨(some 108), (.mov (.t 107)), none⟩, []⟩,
    ⟨4, none, ⟨(some 109), (.mov (.t 4)), (some (108, true))⟩, []⟩,
    ⟨5, none, ⟨(some 110), (.mov (.t 0)), (some (108, true))⟩, []⟩,
    ⟨6, none, ⟨(some 111), (.mov (.t 12)), (some (108, true))⟩, []⟩,
    ⟨7, none, ⟨(some 112), (.iaddr 5 (.t 110) (.t 111)), (some (108, true))⟩, []⟩,
    ⟨8, none, ⟨(some 113), (.load (some 5) (.t 112)), (some (108, true))⟩, []⟩,
    ⟨9, none, ⟨(some 114), (.mov (.t 0)), (some (108, true))⟩, []⟩,
    ⟨10, none, ⟨(some 115), (.mov (.t 1)), (some (108, true))⟩, []⟩,
    ⟨11, none, ⟨(some 116), (.iaddr 5 (.t 114) (.t 115)), (some (108, true))⟩, []⟩,
    ⟨12, none, ⟨(some 117), (.load (some 5) (.t 116)), (some (108, true))⟩, []⟩,
    ⟨13, none, ⟨(some 118), (.dyn (.t 109) [(.t 113), (.t 117)]), (some (108, true))⟩, []⟩,
    ⟨14, none, ⟨(some 119), (.bin .lss .num (.t 118) (.c (.c (.int .i64 0)))), (some (108, true))⟩, []⟩,
    ⟨15, none, ⟨(some 120), (.pick (.t 108) (.t 119) (.c (.c (.bool false)))), none⟩, []⟩])
   (.seq (.kill [0, 1, 4, 12, 13, 120] 0) (.cond (.t 120)
   (.skip)
   (.exit 6))))
   (.seq (.kill [0, 1, 4, 12, 13] 0) (.block 7 (.region [
    ⟨(some 121), (.mov (.t 12)), none⟩,
    ⟨(some 122), (.bin .add .num (.t 121) (.c (.c (.int .i64 1)))), none⟩,
    ⟨(some 12), (.mov (.t 122)), none⟩])))))))
  (.seq (.kill [0, 1, 4, 12, 13] 0) (.seq (.block 8 (.loop (.seq (.kill [0, 1, 4, 12, 13] 0) (.seq (.seq (.draw 0 [
    ⟨0, none, ⟨(some 123), (.mov (.t 12)), none⟩, []⟩,
    ⟨1, none, ⟨(some 124), (.mov (.t 13)), none⟩, []⟩,
    ⟨2, none, ⟨(some 125), (.bin .leq .num (.t 123) (.t 124)), none⟩, []⟩,
    ⟨3, none, ⟨(some 126), (.mov (.t 125)), none⟩, []⟩,
    ⟨4, none, ⟨(some 127), (.mov (.t 4)), (some (126, true))⟩, []⟩,
    ⟨5, none, ⟨(some 128), (.mov (.t 0)), (some (126, true))⟩, []⟩,
    ⟨6, none, ⟨(some 129), (.mov (.t 13)), (some (126, true))⟩, []⟩,
    ⟨7, none, ⟨(some 130), (.iaddr 5 (.t 128) (.t 129)), (some (126, true))⟩, []⟩,
    ⟨8, none, ⟨(some 131), (.load (some 5) (.t 130)), (some (126, true))⟩, []⟩,
    ⟨9, none, ⟨(some 132), (.mov (.t 0)), (some (126, true))⟩, []⟩,
    ⟨10, none, ⟨(some 133), (.mov (.t 1)), (some (126, true))⟩, []⟩,
    ⟨11, none, ⟨(some 134), (.iaddr 5 (.t 132) (.t 133)), (some (126, true))⟩, []⟩,
    ⟨12, none, ⟨(some 135), (.load (some 5) (.t 134)), (some (126, true))⟩, []⟩,
    ⟨13, none, ⟨(some 136), (.dyn (.t 127) [(.t 131), (.t 135)]), (some (126, true))⟩, []⟩,
    ⟨14, none, ⟨(some 137), (.bin .lss .num (.t 136) (.c (.c (.int .i64 0)))), (some (126, true))⟩, []⟩,
    ⟨15, none, ⟨(some 138), (.un .not (.t 137)), (some (126, true))⟩, []⟩,
    ⟨16, none, ⟨(some 139), (.pick (.t 126) (.t 138) (.c (.c (.bool false)))), none⟩, []⟩])
   (.seq (.kill [0, 1, 4, 12, 13, 139] 0) (.cond (.t 139)
   (.skip)
   (.exit 8))))
   (.seq (.kill [0, 1, 4, 12, 13] 0) (.block 9 (.region [
    ⟨(some 140), (.mov (.t 13)), none⟩,
    ⟨(some 141), (.bin .sub .num (.t 140) (.c (.c (.int .i64 1)))), none⟩,
    ⟨(some 13), (.mov (.t 141)), none⟩])))))))
  (.seq (.kill [0, 1, 4, 12, 13] 0) (.seq (.seq (.region [
   ⟨(some 142), (.mov (.t 12)), none⟩,
   ⟨(some 143), (.mov (.t 13)), none⟩,
   ⟨(some 144), (.bin .gtr .num (.t 142) (.t 143)), none⟩])
  (.seq (.kill [0, 1, 4, 12, 13, 144] 0) (.cond (.t 144)
  (.exit 4)
  (.skip))))
  (.seq (.kill [0, 1, 4, 12, 13] 0) (.seq (.draw 0 [
   ⟨0, none, ⟨(some 145), (.mov (.t 0)), none⟩, []⟩,
   ⟨1, none, ⟨(some 146), (.mov (.t 12)), none⟩, []⟩,
   ⟨2, none, ⟨(some 147), (.mov (.t 0)), none⟩, []⟩,
   ⟨3, none, ⟨(some 148), (.mov (.t 13)), none⟩, []⟩,
   ⟨4, none, ⟨(some 149), (.mov (.t 0)), none⟩, []⟩,
   ⟨5, none, ⟨(some 150), (.mov (.t 13)), none⟩, []⟩,
   ⟨6, none, ⟨(some 151), (.iaddr 5 (.t 149) (.t 150)), none⟩, []⟩,
   ⟨7, none, ⟨(some 152), (.load (some 5) (.t 151)), none⟩, []⟩,
   ⟨8, none, ⟨(some 153), (.mov (.t 0)), none⟩, []⟩,
   ⟨9, none, ⟨(some 154), (.mov (.t 12)), none⟩, []⟩,
   ⟨10, none, ⟨(some 155), (.iaddr 5 (.t 153) (.t 154)), none⟩, []⟩,
   ⟨11, none, ⟨(some 156), (.load (some 5) (.t 155)), none⟩, []⟩,
   ⟨12, none, ⟨(some 157), (.iaddr 5 (.t 145) (.t 146)), none⟩, []⟩,
   ⟨13, none, ⟨none, (.store 5 (.t 157) (.t 152)), none⟩, []⟩,
   ⟨14, none, ⟨(some 158), (.iaddr 5 (.t 147) (.t 148)), none⟩, []⟩,
   ⟨15, none, ⟨none, (.store 5 (.t 158) (.t 156)), none⟩, []⟩])
  (.seq (.kill [0, 1, 4, 12, 13] 0) (.seq (.region [
   ⟨(some 159), (.mov (.t 12)), none⟩,
   ⟨(some 160), (.bin .add .num (.t 159) (.c (.c (.int .i64 1)))), none⟩,
   ⟨(some 12), (.mov (.t 160)), none⟩])
  (.seq (.kill [0, 1, 4, 12, 13] 0) (.region [
   ⟨(some 161), (.mov (.t 13)), none⟩,
   ⟨(some 162), (.bin .sub .num (.t 161) (.c (.c (.int .i64 1)))), none⟩,
   ⟨(some 13), (.mov (.t 162)), none⟩])))))))))))))))
 (.seq (.kill [0, 1, 13] 0) (.seq (.draw 0 [
  ⟨0, none, ⟨(some 163), (.mov (.t 0)), none⟩, []⟩,
  ⟨1, none, ⟨(some 164), (.mov (.t 13)), none⟩, []⟩,
  ⟨2, none, ⟨(some 165), (.mov (.t 0)), none⟩, []⟩,
  ⟨3, none, ⟨(some 166), (.mov (.t 1)), none⟩, []⟩,
  ⟨4, none, ⟨(some 167), (.mov (.t 0)), none⟩, []⟩,
  ⟨5, none, ⟨(some 168), (.mov (.t 1)), none⟩, []⟩,
  ⟨6, none, ⟨(some 169), (.iaddr 5 (.t 167) (.t 168)), none⟩, []⟩,
  ⟨7, none, ⟨(some 170), (.load (some 5) (.t 169)), none⟩, []⟩,
  ⟨8, none, ⟨(some 171), (.mov (.t 0)), none⟩, []⟩,
  ⟨9, none, ⟨(some 172), (.mov (.t 13)), none⟩, []⟩,
  ⟨10, none, ⟨(some 173), (.iaddr 5 (.t 171) (.t 172)), none⟩, []⟩,
  ⟨11, none, ⟨(some 174), (.load (some 5) (.t 173)), none⟩, []⟩,
  ⟨12, none, ⟨(some 175), (.iaddr 5 (.t 163) (.t 164)), none⟩, []⟩,
  ⟨13, none, ⟨none, (.store 5 (.t 175) (.t 170)), none⟩, []⟩,
  ⟨14, none, ⟨(some 176), (.iaddr 5 (.t 165) (.t 166)), none⟩, []⟩,
  ⟨15, none, ⟨none, (.store 5 (.t 176) (.t 174)), none⟩, []⟩])
 (.seq (.kill [13] 0) (.seq (.region [
  ⟨(some 177), (.mov (.t 13)), none⟩,
  ⟨(some 10), (.mov (.t 177)), none⟩,
  ⟨(some 11), (.mov (.c (.c (.bool false)))), none⟩])
 (.ret)))))))))))))))))))))))⟩
/-- math/bits.Len32 -/
def n96 : NF := ⟨19, [2],
 .seq (.region [
  ⟨(some 2), (.mov (.c (.c (.int .i64 0)))), none⟩])
 (.seq (.kill [0, 2] 0) (.seq (.seq (.region [
  ⟨(some 3), (.mov (.t 0)), none⟩,
  ⟨(some 4), (.bin .geq .num (.t 3) (.c (.c (.int .u32 65536)))), none⟩])
 (.seq (.kill [0, 2, 4] 0) (.cond (.t 4)
 (.seq (.region [
   ⟨(some 5), (.mov (.t 0)), none⟩,
   ⟨(some 6), (.bin .shr .num (.t 5) (.c (.c (.int .u64 16)))), none⟩,
   ⟨(some 0), (.mov (.t 6)), none⟩])
  (.seq (.kill [0] 0) (.region [
   ⟨(some 2), (.mov (.c (.c (.int .i64 16)))), none⟩])))
 (.skip))))
 (.seq (.kill [0, 2] 0) (.seq (.seq (.region [
  ⟨(some 7), (.mov (.t 0)), none⟩,
  ⟨(some 8), (.bin .geq .num (.t 7) (.c (.c (.int .u32 256)))), none⟩])
 (.seq (.kill [0, 2, 8] 0) (.cond (.t 8)
 (.seq (.region [
   ⟨(some 9), (.mov (.t 0)), none⟩,
   ⟨(some 10), (.bin .shr .num (.t 9) (.c (.c (.int .u64 8)))), none⟩,
   ⟨(some 0), (.mov (.t 10)), none⟩])
  (.seq (.kill [0, 2] 0) (.region [
   ⟨(some 11), (.mov (.t 2)), none⟩,
   ⟨(some 12), (.bin .add .num (.t 11) (.c (.c (.int .i64 8)))), none⟩,
   ⟨(some 2), (.mov (.t 12)), none⟩])))
 (.skip))))
 (.seq (.kill [0, 2] 0) (.seq (.region [
  ⟨(some 13), (.mov (.t 2)), none⟩,
  ⟨(some 14), (.mov (.t 0)), none⟩,
  ⟨(some 15), (.conv (.toInt .u8) (.t 14)), none⟩,
  ⟨(some 16), (.indexS (.c (.c (.str (bs [0, 1, 2, 2, 3, 3, 3, 3, 4, 4, 4, 4, 4, 4, 4, 4, 5, 5, 5, 5, 5, 5, 5, 5, 5, 5, 5, 5, 5, 5, 5, 5, 6, 6, 6, 6, 6, 6, 6, 6, 6, 6, 6, 6, 6, 6, 6, 6, 6, 6, 6, 6, 6, 6, 6, 6, 6, 6, 6, 6, 6, 6, 6, 6, 7, 7, 7, 7, 7, 7, 7, 7, 7, 7, 7, 7, 7, 7, 7, 7, 7, 7, 7, 7, 7, 7, 7, 7, 7, 7, 7, 7, 7, 7, 7, 7, 7, 7, 7, 7, 7, 7, 7, 7, 7, 7, 7, 7, 7, 7, 7, 7, 7, 7, 7, 7, 7, 7, 7, 7, 7, 7, 7, 7, 7, 7, 7, 7, 8, 8, 8, 8, 8, 8, 8, 8, 8, 8, 8, 8, 8, 8, 8, 8, 8, 8, 8, 8, 8, 8, 8, 8, 8, 8, 8, 8, 8, 8, 8, 8, 8, 8, 8, 8, 8, 8, 8, 8, 8, 8, 8, 8, 8, 8, 8, 8, 8, 8, 8, 8, 8, 8, 8, 8, 8, 8, 8, 8, 8, 8, 8, 8, 8, 8, 8, 8, 8, 8, 8, 8, 8, 8, 8, 8, 8, 8, 8, 8, 8, 8, 8, 8, 8, 8, 8, 8, 8, 8, 8, 8, 8, 8, 8, 8, 8, 8, 8, 8, 8, 8, 8, 8, 8, 8, 8, 8, 8, 8, 8, 8, 8, 8, 8, 8, 8, 8, 8, 8, 8, 8, 8, 8, 8, 8, 8, 8])))) (.t 15)), none⟩,
  ⟨(some 17), (.conv (.toInt .i64) (.t 16)), none⟩,
  ⟨(some 18), (.bin .add .num (.t 13) (.t 17)), none⟩,
  ⟨(some 2), (.mov (.t 18)), none⟩])
 (.ret)))))))⟩
/-- math/bits.Len64 -/
def n97 : NF := ⟨25, [2],
 .seq (.region [
  ⟨(some 2), (.mov (.c (.c (.int .i64 0)))), none⟩])
 (.seq (.kill [0, 2] 0) (.seq (.seq (.region [
  ⟨(some 3), (.mov (.t 0)), none⟩,
  ⟨(some 4), (.bin .geq .num (.t 3) (.c (.c (.int .u64 4294967296)))), none⟩])
 (.seq (.kill [0, 2, 4] 0) (.cond (.t 4)
 (.seq (.region [
   ⟨(some 5), (.mov (.t 0)), none⟩,
   ⟨(some 6), (.bin .shr .num (.t 5) (.c (.c (.int .u64 32)))), none⟩,
   ⟨(some 0), (.mov (.t 6)), none⟩])
  (.seq (.kill [0] 0) (.region [
   ⟨(some 2), (.mov (.c (.c (.int .i64 32)))), none⟩])))
 (.skip))))
 (.seq (.kill [0, 2] 0) (.seq (.seq (.region [
  ⟨(some 7), (.mov (.t 0)), none⟩,
  ⟨(some 8), (.bin .geq .num (.t 7) (.c (.c (.int .u64 65536)))), none⟩])
 (.seq (.kill [0, 2, 8] 0) (.cond (.t 8)
 (.seq (.region [
   ⟨(some 9), (.mov (.t 0)), none⟩,
   ⟨(some 10), (.bin .shr .num (.t 9) (.c (.c (.int .u64 16)))), none⟩,
   ⟨(some 0), (.mov (.t 10)), none⟩])
  (.seq (.kill [0, 2] 0) (.region [
   ⟨(some 11), (.mov (.t 2)), none⟩,
   ⟨(some 12), (.bin .add .num (.t 11) (.c (.c (.int .i64 16)))), none⟩,
   ⟨(some 2), (.mov (.t 12)), none⟩])))
 (.skip))))
 (.seq (.kill [0, 2] 0) (.seq (.seq (.region [
  ⟨(some 13), (.mov (.t 0)), none⟩,
  ⟨(some 14), (.bin .geq .num (.t 13) (.c (.c (.int .u64 256)))), none⟩])
 (.seq (.kill [0, 2, 14] 0) (.cond (.t 14)
 (.seq (.region [
   ⟨(some 15), (.mov (.t 0)), none⟩,
   ⟨(some 16), (.bin .shr .num (.t 15) (.c (.c (.int .u64 8)))), none⟩,
   ⟨(some 0), (.mov (.t 16)), none⟩])
  (.seq (.kill [0, 2] 0) (.region [
   ⟨(some 17), (.mov (.t 2)), none⟩,
   ⟨(some 18), (.bin .add .num (.t 17) (.c (.c (.int .i64 8)))), none⟩,
   ⟨(some 2), (.mov (.t 18)), none⟩])))
 (.skip))))
 (.seq (.kill [0, 2] 0) (.seq (.region [
  ⟨(some 19), (.mov (.t 2)), none⟩,
  ⟨(some 20), (.mov (.t 0)), none⟩,
  ⟨(some 21), (.conv (.toInt .u8) (.t 20)), none⟩,
  ⟨(some 22), (.indexS (.c (.c (.str (bs [0, 1, 2, 2, 3, 3, 3, 3, 4, 4, 4, 4, 4, 4, 4, 4, 5, 5, 5, 5, 5, 5, 5, 5, 5, 5, 5, 5, 5, 5, 5, 5, 6, 6, 6, 6, 6, 6, 6, 6, 6, 6, 6, 6, 6, 6, 6, 6, 6, 6, 6, 6, 6, 6, 6, 6, 6, 6, 6, 6, 6, 6, 6, 6, 7, 7, 7, 7, 7, 7, 7, 7, 7, 7, 7, 7, 7, 7, 7, 7, 7, 7, 7, 7, 7, 7, 7, 7, 7, 7, 7, 7, 7, 7, 7, 7, 7, 7, 7, 7, 7, 7, 7, 7, 7, 7, 7, 7, 7, 7, 7, 7, 7, 7, 7, 7, 7, 7, 7, 7, 7, 7, 7, 7, 7, 7, 7, 7, 8, 8, 8, 8, 8, 8, 8, 8, 8, 8, 8, 8, 8, 8, 8, 8, 8, 8, 8, 8, 8, 8, 8, 8, 8, 8, 8, 8, 8, 8, 8, 8, 8, 8, 8, 8, 8, 8, 8, 8, 8, 8, 8, 8, 8, 8, 8, 8, 8, 8, 8, 8, 8, 8, 8, 8, 8, 8, 8, 8, 8, 8, 8, 8, 8, 8, 8, 8, 8, 8, 8, 8, 8, 8, 8, 8, 8, 8, 8, 8, 8, 8, 8, 8, 8, 8, 8, 8, 8, 8, 8, 8, 8, 8, 8, 8, 8, 8, 8, 8, 8, 8, 8, 8, 8, 8, 8, 8, 8, 8, 8, 8, 8, 8, 8, 8, 8, 8, 8, 8, 8, 8, 8, 8, 8, 8, 8, 8])))) (.t 21)), none⟩,
  ⟨(some 23), (.conv (.toInt .i64) (.t 22)), none⟩,
  ⟨(some 24), (.bin .add .num (.t 19) (.t 23)), none⟩,
  ⟨(some 2), (.mov (.t 24)), none⟩])
 (.ret)))))))))⟩
/-- cmp.Or[int] -/
def n86 : NF := ⟨18, [2],
 .seq (.region [
  ⟨(some 2), (.mov (.c (.c (.int .i64 0)))), none⟩])
 (.seq (.kill [0] 0) (.seq (.region [
  ⟨(some 3), (.mov (.c (.c (.int .i64 0)))), none⟩])
 (.seq (.kill [0, 3] 0) (.seq (.seq (.region [
  ⟨(some 6), (.mov (.t 0)), none⟩,
  ⟨(some 7), (.len .sl (.t 6)), none⟩,
  ⟨(some 8), (.mov (.c (.c (.int .i64 0)))), none⟩])
 (.seq (.kill [3, 6, 7, 8] 0) (.block 0 (.loop (.seq (.kill [3, 6, 7, 8] 0) (.seq (.region [
   ⟨(some 9), (.bin .lss .num (.t 8) (.t 7)), none⟩])
  (.seq (.kill [3, 6, 7, 8, 9] 0) (.seq (.cond (.t 9)
  (.skip)
  (.exit 0))
  (.seq (.kill [3, 6, 7, 8] 0) (.seq (.block 1 (.seq (.region [
   ⟨(some 10), (.iaddr 1 (.t 6) (.t 8)), none⟩,
   ⟨(some 11), (.load none (.t 10)), none⟩,
   ⟨(some 5), (.mov (.t 11)), none⟩])
  (.seq (.kill [3, 5, 6, 7, 8] 0) (.seq (.region [
   ⟨(some 12), (.mov (.t 5)), none⟩,
   ⟨(some 13), (.mov (.t 3)), none⟩,
   ⟨(some 14), (.bin .neq .num (.t 12) (.t 13)), none⟩])
  (.seq (.kill [3, 5, 6, 7, 8, 14] 0) (.cond (.t 14)
  (.seq (.region [
    ⟨(some 15), (.mov (.t 5)), none⟩,
    ⟨(some 2), (.mov (.t 15)), none⟩])
   (.ret))
  (.skip)))))))
  (.seq (.kill [3, 6, 7, 8] 0) (.region [
   ⟨(some 16), (.bin .add .num (.t 8) (.c (.c (.int .i64 1)))), none⟩,
   ⟨(some 8), (.mov (.t 16)), none⟩]))))))))))))
 (.seq (.kill [3] 0) (.seq (.region [
  ⟨(some 17), (.mov (.t 3)), none⟩,
  ⟨(some 2), (.mov (.t 17)), none⟩])
 (.ret)))))))⟩
/-- cmp.Compare[int] -/
def n46 : NF := ⟨20, [4],
 .seq (.region [
  ⟨(some 4), (.mov (.c (.c (.int .i64 0)))), none⟩])
 (.seq (.kill [0, 1] 0) (.seq (.region [
  ⟨(some 7), (.mov (.t 0)), none⟩,
  ⟨(some 8), (.call 47 [(.t 7)]), none⟩,
  ⟨(some 5), (.mov (.t 8)), none⟩])
 (.seq (.kill [0, 1, 5] 0) (.seq (.region [
  ⟨(some 9), (.mov (.t 1)), none⟩,
  ⟨(some 10), (.call 47 [(.t 9)]), none⟩,
  ⟨(some 6), (.mov (.t 10)), none⟩])
 (.seq (.kill [0, 1, 5, 6] 0) (.seq (.seq (.region [
  ⟨(some 11), (.mov (.t 5)), none⟩])
 (.seq (.kill [0, 1, 6, 11] 0) (.cond (.t 11)
 (.seq (.seq (.region [
   ⟨(some 12), (.mov (.t 6)), none⟩])
  (.seq (.kill [12] 0) (.cond (.t 12)
  (.seq (.region [
    ⟨(some 4), (.mov (.c (.c (.int .i64 0)))), none⟩])
   (.ret))
  (.skip))))
  (.seq (.kill [] 0) (.seq (.region [
   ⟨(some 4), (.mov (.c (.c (.int .i64 (-1))))), none⟩])
  (.ret))))
 (.skip))))
 (.seq (.kill [0, 1, 6] 0) (.seq (.seq (.region [
  ⟨(some 13), (.mov (.t 6)), none⟩])
 (.seq (.kill [0, 1, 13] 0) (.cond (.t 13)
 (.seq (.region [
   ⟨(some 4), (.mov (.c (.c (.int .i64 1)))), none⟩])
  (.ret))
 (.skip))))
 (.seq (.kill [0, 1] 0) (.seq (.seq (.region [
  ⟨(some 14), (.mov (.t 0)), none⟩,
  ⟨(some 15), (.mov (.t 1)), none⟩,
  ⟨(some 16), (.bin .lss .num (.t 14) (.t 15)), none⟩])
 (.seq (.kill [0, 1, 16] 0) (.cond (.t 16)
 (.seq (.region [
   ⟨(some 4), (.mov (.c (.c (.int .i64 (-1))))), none⟩])
  (.ret))
 (.skip))))
 (.seq (.kill [0, 1] 0) (.seq (.seq (.region [
  ⟨(some 17), (.mov (.t 0)), none⟩,
  ⟨(some 18), (.mov (.t 1)), none⟩,
  ⟨(some 19), (.bin .gtr .num (.t 17) (.t 18)), none⟩])
 (.seq (.kill [19] 0) (.cond (.t 19)
 (.seq (.region [
   ⟨(some 4), (.mov (.c (.c (.int .i64 1)))), none⟩])
  (.ret))
 (.skip))))
 (.seq (.kill [] 0) (.seq (.region [
  ⟨(some 4), (.mov (.c (.c (.int .i64 0)))), none⟩])
 (.ret)))))))))))))))⟩
/-- slices.IndexFunc[[]campanile/alloc.held,campanile/alloc.held] -/
def n129 : NF := ⟨19, [4],
 .seq (.region [
  ⟨(some 4), (.mov (.c (.c (.int .i64 0)))), none⟩])
 (.seq (.kill [0, 1] 0) (.seq (.seq (.region [
  ⟨(some 6), (.mov (.t 0)), none⟩,
  ⟨(some 7), (.len .sl (.t 6)), none⟩,
  ⟨(some 8), (.mov (.c (.c (.int .i64 0)))), none⟩])
 (.seq (.kill [0, 1, 7, 8] 0) (.block 0 (.loop (.seq (.kill [0, 1, 7, 8] 0) (.seq (.region [
   ⟨(some 9), (.bin .lss .num (.t 8) (.t 7)), none⟩])
  (.seq (.kill [0, 1, 7, 8, 9] 0) (.seq (.cond (.t 9)
  (.skip)
  (.exit 0))
  (.seq (.kill [0, 1, 7, 8] 0) (.seq (.block 1 (.seq (.region [
   ⟨(some 10), (.mov (.t 8)), none⟩,
   ⟨(some 5), (.mov (.t 10)), none⟩])
  (.seq (.kill [0, 1, 5, 7, 8] 0) (.seq (.region [
   ⟨(some 11), (.mov (.t 1)), none⟩,
   ⟨(some 12), (.mov (.t 0)), none⟩,
   ⟨(some 13), (.mov (.t 5)), none⟩,
   ⟨(some 14), (.iaddr 6 (.t 12) (.t 13)), none⟩,
   ⟨(some 15), (.load (some 6) (.t 14)), none⟩,
   ⟨(some 16), (.dyn (.t 11) [(.t 15)]), none⟩])
  (.seq (.kill [0, 1, 5, 7, 8, 16] 0) (.cond (.t 16)
  (.seq (.region [
    ⟨(some 17), (.mov (.t 5)), none⟩,
    ⟨(some 4), (.mov (.t 17)), none⟩])
   (.ret))
  (.skip)))))))
  (.seq (.kill [0, 1, 7, 8] 0) (.region [
   ⟨(some 18), (.bin .add .num (.t 8) (.c (.c (.int .i64 1)))), none⟩,
   ⟨(some 8), (.mov (.t 18)), none⟩]))))))))))))
 (.seq (.kill [] 0) (.seq (.region [
  ⟨(some 4), (.mov (.c (.c (.int .i64 (-1))))), none⟩])
 (.ret)))))⟩
/-- campanile/alloc.link -/
def n123 : NF := ⟨44, [8],
 .seq (.region [
  ⟨(some 4), (.box true 5 (.t 0)), none⟩,
  ⟨(some 5), (.box true 5 (.t 1)), none⟩,
  ⟨(some 8), (.mov (.c (.c (.bool false)))), none⟩])
 (.seq (.kill [2, 3, 4, 5] 2) (.seq (.region [
  ⟨(some 10), (.load (some 5) (.t 4)), none⟩,
  ⟨(some 11), (.call 125 [(.t 10), (.c (.c (.int .i64 1)))]), none⟩,
  ⟨(some 12), (.mov (.t 11)), none⟩,
  ⟨(some 13), (.load (some 5) (.t 5)), (some (12, true))⟩,
  ⟨(some 14), (.call 125 [(.t 13), (.c (.c (.int .i64 2)))]), (some (12, true))⟩,
  ⟨(some 15), (.pick (.t 12) (.t 14) (.c (.c (.bool false)))), none⟩,
  ⟨(some 16), (.mov (.t 15)), none⟩,
  ⟨(some 17), (.load (some 5) (.t 4)), (some (16, false))⟩,
  ⟨(some 18), (.call 125 [(.t 17), (.c (.c (.int .i64 2)))]), (some (16, false))⟩,
  ⟨(some 19), (.mov (.t 18)), (some (16, false))⟩,
  ⟨(some 20), (.load (some 5) (.t 5)), (some (19, true))⟩,
  ⟨(some 21), (.call 125 [(.t 20), (.c (.c (.int .i64 1)))]), (some (19, true))⟩,
  ⟨(some 22), (.pick (.t 19) (.t 21) (.c (.c (.bool false)))), (some (16, false))⟩,
  ⟨(some 23), (.pick (.t 16) (.c (.c (.bool true))) (.t 22)), none⟩,
  ⟨(some 9), (.mov (.t 23)), none⟩])
 (.seq (.kill [2, 3, 4, 5, 9] 2) (.seq (.region [
  ⟨(some 24), (.faddr 4 (.t 4)), none⟩,
  ⟨(some 25), (.load none (.t 24)), none⟩,
  ⟨(some 26), (.mov (.t 3)), none⟩,
  ⟨(some 27), (.bin .eql .num (.t 25) (.t 26)), none⟩,
  ⟨(some 28), (.mov (.t 27)), none⟩,
  ⟨(some 29), (.faddr 4 (.t 5)), (some (28, true))⟩,
  ⟨(some 30), (.load none (.t 29)), (some (28, true))⟩,
  ⟨(some 31), (.mov (.t 2)), (some (28, true))⟩,
  ⟨(some 32), (.bin .eql .num (.t 30) (.t 31)), (some (28, true))⟩,
  ⟨(some 33), (.pick (.t 28) (.t 32) (.c (.c (.bool false)))), none⟩,
  ⟨(some 34), (.mov (.t 33)), none⟩,
  ⟨(some 35), (.faddr 2 (.t 4)), (some (34, true))⟩,
  ⟨(some 36), (.load none (.t 35)), (some (34, true))⟩,
  ⟨(some 37), (.faddr 2 (.t 5)), (some (34, true))⟩,
  ⟨(some 38), (.load none (.t 37)), (some (34, true))⟩,
  ⟨(some 39), (.bin .eql .num (.t 36) (.t 38)), (some (34, true))⟩,
  ⟨(some 40), (.pick (.t 34) (.t 39) (.c (.c (.bool false)))), none⟩,
  ⟨(some 41), (.mov (.t 40)), none⟩,
  ⟨(some 42), (.mov (.t 9)), (some (41, true))⟩,
  ⟨(some 43), (.pick (.t 41) (.t 42) (.c (.c (.bool false)))), none⟩,
  ⟨(some 8), (.mov (.t 43)), none⟩])
 (.ret)))))⟩
/-- slices.siftDownCmpFunc[campanile/api.Cell] -/
def n166 : NF := ⟨82, [],
 .seq (.region [
  ⟨(some 12), (.mov (.t 1)), none⟩,
  ⟨(some 10), (.mov (.t 12)), none⟩])
 (.seq (.kill [0, 2, 3, 4, 10] 0) (.block 0 (.loop (.seq (.kill [0, 2, 3, 4, 10] 0) (.block 1 (.seq (.region [
   ⟨(some 13), (.mov (.t 10)), none⟩,
   ⟨(some 14), (.bin .mul .num (.c (.c (.int .i64 2))) (.t 13)), none⟩,
   ⟨(some 15), (.bin .add .num (.t 14) (.c (.c (.int .i64 1)))), none⟩,
   ⟨(some 11), (.mov (.t 15)), none⟩])
  (.seq (.kill [0, 2, 3, 4, 10, 11] 0) (.seq (.seq (.region [
   ⟨(some 16), (.mov (.t 11)), none⟩,
   ⟨(some 17), (.mov (.t 2)), none⟩,
   ⟨(some 18), (.bin .geq .num (.t 16) (.t 17)), none⟩])
  (.seq (.kill [0, 2, 3, 4, 10, 11, 18] 0) (.cond (.t 18)
  (.exit 0)
  (.skip))))
  (.seq (.kill [0, 2, 3, 4, 10, 11] 0) (.seq (.seq (.draw 0 [
   ⟨0, none, ⟨(some 19), (.mov (.t 11)), none⟩, []⟩,
   ⟨1, none, ⟨(some 20), (.bin .add .num (.t 19) (.c (.c (.int .i64 1)))), none⟩, []⟩,
   ⟨2, none, ⟨(some 21), (.mov (.t 2)), none⟩, []⟩,
   ⟨3, none, ⟨(some 22), (.bin .lss .num (.t 20) (.t 21)), none⟩, []⟩,
   ⟨4, none, ⟨(some 23), (.mov (.t 22)), none⟩, []⟩,
   ⟨5, none, ⟨(some 24), (.mov (.t 4)), (some (23, true))⟩, []⟩,
   ⟨6, none, ⟨(some 25), (.mov (.t 0)), (some (23, true))⟩, []⟩,
   ⟨7, none, ⟨(some 26), (.mov (.t 3)), (some (23, true))⟩, []⟩,
   ⟨8, none, ⟨(some 27), (.mov (.t 11)), (some (23, true))⟩, []⟩,
   ⟨9, none, ⟨(some 28), (.bin .add .num (.t 26) (.t 27)), (some (23, true))⟩, []⟩,
   ⟨10, none, ⟨(some 29), (.iaddr 5 (.t 25) (.t 28)), (some (23, true))⟩, []⟩,
   ⟨11, none, ⟨(some 30), (.load (some 5) (.t 29)), (some (23, true))⟩, []⟩,
   ⟨12, none, ⟨(some 31), (.mov (.t 0)), (some (23, true))⟩, []⟩,
   ⟨13, none, ⟨(some 32), (.mov (.t 3)), (some (23, true))⟩, []⟩,
   ⟨14, none, ⟨(some 33), (.mov (.t 11)), (some (23, true))⟩, []⟩,
   ⟨15, none, ⟨(some 34), (.bin .add .num (.t 32) (.t 33)), (some (23, true))⟩, []⟩,
   ⟨16, none, ⟨(some 35), (.bin .add .num (.t 34) (.c (.c (.int .i64 1)))), (some (23, true))⟩, []⟩,
   ⟨17, none, ⟨(some 36), (.iaddr 5 (.t 31) (.t 35)), (some (23, true))⟩, []⟩,
   ⟨18, none, ⟨(some 37), (.load (some 5) (.t 36)), (some (23, true))⟩, []⟩,
   ⟨19, none, ⟨(some 38), (.dyn (.t 24) [(.t 30), (.t 37)]), (some (23, true))⟩, []⟩,
   ⟨20, none, ⟨(some 39), (.bin .lss .num (.t 38) (.c (.c (.int .i64 0)))), (some (23, true))⟩, []⟩,
   ⟨21, none, ⟨(some 40), (.pick (.t 23) (.t 39) (.c (.c (.bool false)))), none⟩, []⟩])
  (.seq (.kill [0, 2, 3, 4, 10, 11, 40] 0) (.cond (.t 40)
  (.region [
    ⟨(some 41), (.mov (.t 11)), none⟩,
    ⟨(some 42), (.bin .add .num (.t 41) (.c (.c (.int .i64 1)))), none⟩,
    ⟨(some 11), (.mov (.t 42)), none⟩])
  (.skip))))
  (.seq (.kill [0, 2, 3, 4, 10, 11] 0) (.seq (.seq (.draw 0 [
   ⟨0, none, ⟨(some 43), (.mov (.t 4)), none⟩, []⟩,
   ⟨1, none, ⟨(some 44), (.mov (.t 0)), none⟩, []⟩,
   ⟨2, none, ⟨(some 45), (.mov (.t 3)), none⟩, []⟩,
   ⟨3, none, ⟨(some 46), (.mov (.t 10)), none⟩, []⟩,
   ⟨4, none, ⟨(some 47), (.bin .add .num (.t 45) (.t 46)), none⟩, []⟩,
   ⟨5, none, ⟨(some 48), (.iaddr 5 (.t 44) (.t 47)), none⟩, []⟩,
   ⟨6, none, ⟨(some 49), (.load (some 5) (.t 48)), none⟩, []⟩,
   ⟨7, none, ⟨(some 50), (.mov (.t 0)), none⟩, []⟩,
   ⟨8, none, ⟨(some 51), (.mov (.t 3)), none⟩, []⟩,
   ⟨9, none, ⟨(some 52), (.mov (.t 11)), none⟩, []⟩,
   ⟨10, none, ⟨(some 53), (.bin .add .num (.t 51) (.t 52)), none⟩, []⟩,
   ⟨11, none, ⟨(some 54), (.iaddr 5 (.t 50) (.t 53)), none⟩, []⟩,
   ⟨12, none, ⟨(some 55), (.load (some 5) (.t 54)), none⟩, []⟩,
   ⟨13, none, ⟨(some 56), (.dyn (.t 43) [(.t 49), (.t 55)]), none⟩, []⟩,
   ⟨14, none, ⟨(some 57), (.bin .lss .num (.t 56) (.c (.c (.int .i64 0)))), none⟩, []⟩,
   ⟨15, none, ⟨(some 58), (.un .not (.t 57)), none⟩, []⟩])
  (.seq (.kill [0, 2, 3, 4, 10, 11, 58] 0) (.cond (.t 58)
  (.ret)
  (.skip))))
  (.seq (.kill [0, 2, 3, 4, 10, 11] 0) (.seq (.draw 0 [
   ⟨0, none, ⟨(some 59), (.mov (.t 0)), none⟩, []⟩,
   ⟨1, none, ⟨(some 60), (.mov (.t 3)), none⟩, []⟩,
   ⟨2, none, ⟨(some 61), (.mov (.t 10)), none⟩, []⟩,
   ⟨3, none, ⟨(some 62), (.bin .add .num (.t 60) (.t 61)), none⟩, []⟩,
   ⟨4, none, ⟨(some 63), (.mov (.t 0)), none⟩, []⟩,
   ⟨5, none, ⟨(some 64), (.mov (.t 3)), none⟩, []⟩,
   ⟨6, none, ⟨(some 65), (.mov (.t 11)), none⟩, []⟩,
   ⟨7, none, ⟨(some 66), (.bin .add .num (.t 64) (.t 65)), none⟩, []⟩,
   ⟨8, none, ⟨(some 67), (.mov (.t 0)), none⟩, []⟩,
   ⟨9, none, ⟨(some 68), (.mov (.t 3)), none⟩, []⟩,
   ⟨10, none, ⟨(some 69), (.mov (.t 11)), none⟩, []⟩,
   ⟨11, none, ⟨(some 70), (.bin .add .num (.t 68) (.t 69)), none⟩, []⟩,
   ⟨12, none, ⟨(some 71), (.iaddr 5 (.t 67) (.t 70)), none⟩, []⟩,
   ⟨13, none, ⟨(some 72), (.load (some 5) (.t 71)), none⟩, []⟩,
   ⟨14, none, ⟨(some 73), (.mov (.t 0)), none⟩, []⟩,
   ⟨15, none, ⟨(some 74), (.mov (.t 3)), none⟩, []⟩,
   ⟨16, none, ⟨(some 75), (.mov (.t 10)), none⟩, []⟩,
   ⟨17, none, ⟨(some 76), (.bin .add .num (.t 74) (.t 75)), none⟩, []⟩,
   ⟨18, none, ⟨(some 77), (.iaddr 5 (.t 73) (.t 76)), none⟩, []⟩,
   ⟨19, none, ⟨(some 78), (.load (some 5) (.t 77)), none⟩, []⟩,
   ⟨20, none, ⟨(some 79), (.iaddr 5 (.t 59) (.t 62)), none⟩, []⟩,
   ⟨21, none, ⟨none, (.store 5 (.t 79) (.t 72)), none⟩, []⟩,
   ⟨22, none, ⟨(some 80), (.iaddr 5 (.t 63) (.t 66)), none⟩, []⟩,
   ⟨23, none, ⟨none, (.store 5 (.t 80) (.t 78)), none⟩, []⟩])
  (.seq (.kill [0, 2, 3, 4, 11] 0) (.region [
   ⟨(some 81), (.mov (.t 11)), none⟩,
   ⟨(some 10), (.mov (.t 81)), none⟩]))))))))))))))))⟩
/-- slices.nextPowerOfTwo -/
def n108 : NF := ⟨7, [2],
 .seq (.region [
  ⟨(some 2), (.mov (.c (.c (.int .u64 0)))), none⟩])
 (.seq (.kill [0] 0) (.seq (.region [
  ⟨(some 3), (.mov (.t 0)), none⟩,
  ⟨(some 4), (.conv (.toInt .u64) (.t 3)), none⟩,
  ⟨(some 5), (.call 82 [(.t 4)]), none⟩,
  ⟨(some 6), (.bin .shl .num (.c (.c (.int .u64 1))) (.t 5)), none⟩,
  ⟨(some 2), (.mov (.t 6)), none⟩])
 (.ret)))⟩
/-- (*slices.xorshift).Next -/
def n109 : NF := ⟨33, [2],
 .seq (.region [
  ⟨(some 2), (.mov (.c (.c (.int .u64 0)))), none⟩])
 (.seq (.kill [0] 0) (.seq (.draw 0 [
  ⟨0, none, ⟨(some 3), (.mov (.t 0)), none⟩, []⟩,
  ⟨1, none, ⟨(some 4), (.nilck (.t 3)), none⟩, []⟩,
  ⟨2, none, ⟨(some 5), (.load none (.t 4)), none⟩, []⟩,
  ⟨3, none, ⟨(some 6), (.mov (.t 0)), none⟩, []⟩,
  ⟨4, none, ⟨(some 7), (.nilck (.t 6)), none⟩, []⟩,
  ⟨5, none, ⟨(some 8), (.load none (.t 7)), none⟩, []⟩,
  ⟨6, none, ⟨(some 9), (.bin .shl .num (.t 8) (.c (.c (.int .u64 13)))), none⟩, []⟩,
  ⟨7, none, ⟨(some 10), (.bin .xor .num (.t 5) (.t 9)), none⟩, []⟩,
  ⟨8, none, ⟨(some 11), (.nilck (.t 3)), none⟩, []⟩,
  ⟨9, none, ⟨none, (.store 1 (.t 11) (.t 10)), none⟩, []⟩])
 (.seq (.kill [0] 0) (.seq (.draw 0 [
  ⟨0, none, ⟨(some 12), (.mov (.t 0)), none⟩, []⟩,
  ⟨1, none, ⟨(some 13), (.nilck (.t 12)), none⟩, []⟩,
  ⟨2, none, ⟨(some 14), (.load none (.t 13)), none⟩, []⟩,
  ⟨3, none, ⟨(some 15), (.mov (.t 0)), none⟩, []⟩,
  ⟨4, none, ⟨(some 16), (.nilck (.t 15)), none⟩, []⟩,
  ⟨5, none, ⟨(some 17), (.load none (.t 16)), none⟩, []⟩,
  ⟨6, none, ⟨(some 18), (.bin .shr .num (.t 17) (.c (.c (.int .u64 7)))), none⟩, []⟩,
  ⟨7, none, ⟨(some 19), (.bin .xor .num (.t 14) (.t 18)), none⟩, []⟩,
  ⟨8, none, ⟨(some 20), (.nilck (.t 12)), none⟩, []⟩,
  ⟨9, none, ⟨none, (.store 1 (.t 20) (.t 19)), none⟩, []⟩])
 (.seq (.kill [0] 0) (.seq (.draw 0 [
  ⟨0, none, ⟨(some 21), (.mov (.t 0)), none⟩, []⟩,
  ⟨1, none, ⟨(some 22), (.nilck (.t 21)), none⟩, []⟩,
  ⟨2, none, ⟨(some 23), (.load none (.t 22)), none⟩, []⟩,
  ⟨3, none, ⟨(some 24), (.mov (.t 0)), none⟩, []⟩,
  ⟨4, none, ⟨(some 25), (.nilck (.t 24)), none⟩, []⟩,
  ⟨5, none, ⟨(some 26), (.load none (.t 25)), none⟩, []⟩,
  ⟨6, none, ⟨(some 27), (.bin .shl .num (.t 26) (.c (.c (.int .u64 17)))), none⟩, []⟩,
  ⟨7, none, ⟨(some 28), (.bin .xor .num (.t 23) (.t 27)), none⟩, []⟩,
  ⟨8, none, ⟨(some 29), (.nilck (.t 21)), none⟩, []⟩,
  ⟨9, none, ⟨none, (.store 1 (.t 29) (.t 28)), none⟩, []⟩])
 (.seq (.kill [0] 0) (.seq (.region [
  ⟨(some 30), (.mov (.t 0)), none⟩,
  ⟨(some 31), (.nilck (.t 30)), none⟩,
  ⟨(some 32), (.load none (.t 31)), none⟩,
  ⟨(some 2), (.mov (.t 32)), none⟩])
 (.ret)))))))))⟩
/-- slices.medianAdjacentCmpFunc[campanile/api.Cell] -/
def n167 : NF := ⟨18, [8],
 .seq (.region [
  ⟨(some 8), (.mov (.c (.c (.int .i64 0)))), none⟩])
 (.seq (.kill [0, 1, 2, 3] 0) (.seq (.region [
  ⟨(some 9), (.mov (.t 0)), none⟩,
  ⟨(some 10), (.mov (.t 1)), none⟩,
  ⟨(some 11), (.bin .sub .num (.t 10) (.c (.c (.int .i64 1)))), none⟩,
  ⟨(some 12), (.mov (.t 1)), none⟩,
  ⟨(some 13), (.mov (.t 1)), none⟩,
  ⟨(some 14), (.bin .add .num (.t 13) (.c (.c (.int .i64 1)))), none⟩,
  ⟨(some 15), (.mov (.t 2)), none⟩,
  ⟨(some 16), (.mov (.t 3)), none⟩,
  ⟨(some 17), (.call 168 [(.t 9), (.t 11), (.t 12), (.t 14), (.t 15), (.t 16)]), none⟩,
  ⟨(some 8), (.mov (.t 17)), none⟩])
 (.ret)))⟩
/-- slices.medianCmpFunc[campanile/api.Cell] -/
def n168 : NF := ⟨41, [12],
 .seq (.region [
  ⟨(some 12), (.mov (.c (.c (.int .i64 0)))), none⟩])
 (.seq (.kill [0, 1, 2, 3, 4, 5] 0) (.seq (.region [
  ⟨(some 14), (.mov (.t 0)), none⟩,
  ⟨(some 15), (.mov (.t 1)), none⟩,
  ⟨(some 16), (.mov (.t 2)), none⟩,
  ⟨(some 17), (.mov (.t 4)), none⟩,
  ⟨(some 18), (.mov (.t 5)), none⟩,
  ⟨(some 19), (.call 169 [(.t 14), (.t 15), (.t 16), (.t 17), (.t 18)]), none⟩,
  ⟨(some 13), (.mov (.t 19)), none⟩,
  ⟨(some 20), (.ext (.t 13) 0), none⟩,
  ⟨(some 21), (.ext (.t 13) 1), none⟩,
  ⟨(some 1), (.mov (.t 20)), none⟩,
  ⟨(some 2), (.mov (.t 21)), none⟩])
 (.seq (.kill [0, 1, 2, 3, 4, 5] 0) (.seq (.region [
  ⟨(some 23), (.mov (.t 0)), none⟩,
  ⟨(some 24), (.mov (.t 2)), none⟩,
  ⟨(some 25), (.mov (.t 3)), none⟩,
  ⟨(some 26), (.mov (.t 4)), none⟩,
  ⟨(some 27), (.mov (.t 5)), none⟩,
  ⟨(some 28), (.call 169 [(.t 23), (.t 24), (.t 25), (.t 26), (.t 27)]), none⟩,
  ⟨(some 22), (.mov (.t 28)), none⟩,
  ⟨(some 29), (.ext (.t 22) 0), none⟩,
  ⟨(some 30), (.ext (.t 22) 1), none⟩,
  ⟨(some 2), (.mov (.t 29)), none⟩,
  ⟨(some 3), (.mov (.t 30)), none⟩])
 (.seq (.kill [0, 1, 2, 4, 5] 0) (.seq (.region [
  ⟨(some 32), (.mov (.t 0)), none⟩,
  ⟨(some 33), (.mov (.t 1)), none⟩,
  ⟨(some 34), (.mov (.t 2)), none⟩,
  ⟨(some 35), (.mov (.t 4)), none⟩,
  ⟨(some 36), (.mov (.t 5)), none⟩,
  ⟨(some 37), (.call 169 [(.t 32), (.t 33), (.t 34), (.t 35), (.t 36)]), none⟩,
  ⟨(some 31), (.mov (.t 37)), none⟩,
  ⟨(some 38), (.ext (.t 31) 0), none⟩,
  ⟨(some 39), (.ext (.t 31) 1), none⟩,
  ⟨(some 1), (.mov (.t 38)), none⟩,
  ⟨(some 2), (.mov (.t 39)), none⟩])
 (.seq (.kill [2] 0) (.seq (.region [
  ⟨(some 40), (.mov (.t 2)), none⟩,
  ⟨(some 12), (.mov (.t 40)), none⟩])
 (.ret)))))))))⟩
/-- cmp.isNaN[int] -/
def n47 : NF := ⟨6, [2],
 .seq (.region [
  ⟨(some 2), (.mov (.c (.c (.bool false)))), none⟩])
 (.seq (.kill [0] 0) (.seq (.region [
  ⟨(some 3), (.mov (.t 0)), none⟩,
  ⟨(some 4), (.mov (.t 0)), none⟩,
  ⟨(some 5), (.bin .neq .num (.t 3) (.t 4)), none⟩,
  ⟨(some 2), (.mov (.t 5)), none⟩])
 (.ret)))⟩
/-- campanile/alloc.alone -/
def n125 : NF := ⟨10, [4],
 .seq (.region [
  ⟨(some 2), (.box true 5 (.t 0)), none⟩,
  ⟨(some 4), (.mov (.c (.c (.bool false)))), none⟩])
 (.seq (.kill [1, 2] 1) (.seq (.region [
  ⟨(some 5), (.faddr 3 (.t 2)), none⟩,
  ⟨(some 6), (.load none (.t 5)), none⟩,
  ⟨(some 7), (.bin .and .num (.t 6) (.c (.c (.int .i64 3)))), none⟩,
  ⟨(some 8), (.mov (.t 1)), none⟩,
  ⟨(some 9), (.bin .eql .num (.t 7) (.t 8)), none⟩,
  ⟨(some 4), (.mov (.t 9)), none⟩])
 (.ret)))⟩
/-- slices.order2CmpFunc[campanile/api.Cell] -/
def n169 : NF := ⟨32, [10, 11],
 .seq (.region [
  ⟨(some 10), (.mov (.c (.c (.int .i64 0)))), none⟩,
  ⟨(some 11), (.mov (.c (.c (.int .i64 0)))), none⟩])
 (.seq (.kill [0, 1, 2, 3, 4] 0) (.seq (.seq (.draw 0 [
  ⟨0, none, ⟨(some 12), (.mov (.t 4)), none⟩, []⟩,
  ⟨1, none, ⟨(some 13), (.mov (.t 0)), none⟩, []⟩,
  ⟨2, none, ⟨(some 14), (.mov (.t 2)), none⟩, []⟩,
  ⟨3, none, ⟨(some 15), (.iaddr 5 (.t 13) (.t 14)), none⟩, []⟩,
  ⟨4, none, ⟨(some 16), (.load (some 5) (.t 15)), none⟩, []⟩,
  ⟨5, none, ⟨(some 17), (.mov (.t 0)), none⟩, []⟩,
  ⟨6, none, ⟨(some 18), (.mov (.t 1)), none⟩, []⟩,
  ⟨7, none, ⟨(some 19), (.iaddr 5 (.t 17) (.t 18)), none⟩, []⟩,
  ⟨8, none, ⟨(some 20), (.load (some 5) (.t 19)), none⟩, []⟩,
  ⟨9, none, ⟨(some 21), (.dyn (.t 12) [(.t 16), (.t 20)]), none⟩, []⟩,
  ⟨10, none, ⟨(some 22), (.bin .lss .num (.t 21) (.c (.c (.int .i64 0)))), none⟩, []⟩])
 (.seq (.kill [1, 2, 3, 22] 0) (.cond (.t 22)
 (.seq (.region [
   ⟨(some 23), (.mov (.t 3)), none⟩,
   ⟨(some 24), (.nilck (.t 23)), none⟩,
   ⟨(some 25), (.load none (.t 24)), none⟩,
   ⟨(some 26), (.bin .add .num (.t 25) (.c (.c (.int .i64 1)))), none⟩,
   ⟨(some 27), (.nilck (.t 23)), none⟩,
   ⟨none, (.store 1 (.t 27) (.t 26)), none⟩])
  (.seq (.kill [1, 2] 0) (.seq (.region [
   ⟨(some 28), (.mov (.t 2)), none⟩,
   ⟨(some 29), (.mov (.t 1)), none⟩,
   ⟨(some 10), (.mov (.t 28)), none⟩,
   ⟨(some 11), (.mov (.t 29)), none⟩])
  (.ret))))
 (.skip))))
 (.seq (.kill [1, 2] 0) (.seq (.region [
  ⟨(some 30), (.mov (.t 1)), none⟩,
  ⟨(some 31), (.mov (.t 2)), none⟩,
  ⟨(some 10), (.mov (.t 30)), none⟩,
  ⟨(some 11), (.mov (.t 31)), none⟩])
 (.ret)))))⟩
def N0 : Nat → Option NF
  | 44 => some n44
  | 46 => some n46
  | 47 => some n47
  | 82 => some n82
  | 86 => some n86
  | 96 => some n96
  | 97 => some n97
  | 108 => some n108
  | 109 => some n109
  | 118 => some n118
  | 120 => some n120
  | 121 => some n121
  | 122 => some n122
  | 123 => some n123
  | 124 => some n124
  | 125 => some n125
  | 126 => some n126
  | 127 => some n127
  | 128 => some n128
  | 129 => some n129
  | 131 => some n131
  | 132 => some n132
  | 133 => some n133
  | 134 => some n134
  | 135 => some n135
  | 136 => some n136
  | 137 => some n137
  | 138 => some n138
  | 140 => some n140
  | 141 => some n141
  | 142 => some n142
  | 143 => some n143
  | 144 => some n144
  | 145 => some n145
  | 146 => some n146
  | 147 => some n147
  | 148 => some n148
  | 149 => some n149
  | 150 => some n150
  | 151 => some n151
  | 152 => some n152
  | 153 => some n153
  | 154 => some n154
  | 155 => some n155
  | 156 => some n156
  | 157 => some n157
  | 158 => some n158
  | 159 => some n159
  | 160 => some n160
  | 161 => some n161
  | 162 => some n162
  | 163 => some n163
  | 164 => some n164
  | 165 => some n165
  | 166 => some n166
  | 167 => some n167
  | 168 => some n168
  | 169 => some n169
  | 215 => some n215
  | 216 => some n216
  | 217 => some n217
  | 218 => some n218
  | 219 => some n219
  | 221 => some n221
  | 229 => some n229
  | 230 => some n230
  | 231 => some n231
  | 232 => some n232
  | 233 => some n233
  | _ => none
abbrev N : Nat → Option NF := withF (withF N0 156 lessN) 137 awakeN
end Camp
