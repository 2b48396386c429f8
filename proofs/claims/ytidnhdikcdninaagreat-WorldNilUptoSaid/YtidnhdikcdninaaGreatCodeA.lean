/- Functions of the program, as the machine runs them. Printed by a program of mine (ncode.py). -/
import Derived.Test.YtidnhdikcdninaaGreatEngF
import Derived.Test.YtidnhdikcdninaaGreatUseK
set_option linter.unnecessarySimpa false
set_option linter.unusedVariables false
set_option linter.unusedSimpArgs false
set_option linter.unusedSectionVars false
namespace Camp
open Go
section
def bs (l:List UInt8):ByteArray:=⟨⟨l⟩⟩
def n348:NF:=⟨69,[6],
 .seq (.region [
 oP 3 (.box true 8 (.t 0)),
 oP 6 (.mov (cB false))])
 (kL [1,2,3] 1 (.seq (.seq (.region [
 mV 12 1,
 oP 13 (.len .sl (.t 12)),
 oP 14 (.bin .gtr .num (.t 13) (cI 50)),
 mV 15 14,
 mG 16 2 15 false,
 oG 17 (.len .sl (.t 16)) 15 false,
 oG 18 (.bin .gtr .num (.t 17) (cI 50)) 15 false,
 oP 19 (.pick (.t 15) (cB true) (.t 18))])
 (kL [1,2,3,19] 1 (.cond (.t 19)
 (.seq (.region [
 oP 20 (.call 349 []),
 mV 6 20])
 (.ret))
 (.skip))))
 (kL [1,2,3] 1 (.seq (.region [
 oP 7 (.mov (.c (.c .nilp)))])
 (kL [1,2,3,7] 1 (.seq (.region [
 mV 22 7,
 oP 23 (.load (some 8) (.t 3)),
 oP 24 (.call 350 [(.t 22),(.t 23)]),
 mV 21 24,
 oP 25 (.ext (.t 21) 0),
 oP 26 (.ext (.t 21) 1),
 mV 8 25,
 mV 9 26])
 (kL [1,2,3,7,8,9] 1 (.seq (.region [
 mV 28 7,
 oP 29 (.faddr 1 (.t 3)),
 oP 30 (lD 29),
 oP 31 (.call 351 [(.t 28),(.t 30)]),
 mV 27 31,
 oP 32 (.ext (.t 27) 0),
 oP 33 (.ext (.t 27) 1),
 mV 10 32,
 mV 11 33])
 (kL [1,2,3,7,8,9,11] 1 (.seq (.region [
 mV 34 8,
 oP 35 (.len .sl (.t 34)),
 oP 36 (.bin .eql .num (.t 35) (cI 0)),
 mV 37 36,
 mG 38 9 37 true,
 oG 39 (.bin .eql .num (.t 38) (cI 1)) 37 true,
 oP 40 (.pick (.t 37) (.t 39) (cB false)),
 mV 41 40,
 mG 42 7 41 true,
 oG 43 (.call 352 [(.t 42)]) 41 true,
 oG 44 (.bin .eql .num (.t 43) (cI 0)) 41 true,
 oP 45 (.pick (.t 41) (.t 44) (cB false)),
 mV 46 45,
 mG 47 7 46 true,
 oG 48 (.faddr 1 (.t 3)) 46 true,
 oG 49 (lD 48) 46 true,
 oG 50 (.call 353 [(.t 47),(.t 49)]) 46 true,
 oG 51 (.bin .eql .ptr (.t 50) (.c (.c .nilp))) 46 true,
 oP 52 (.pick (.t 46) (.t 51) (cB false)),
 mV 53 52,
 mG 54 11 53 true,
 oG 55 (.un .not (.t 54)) 53 true,
 oP 56 (.pick (.t 53) (.t 55) (cB false)),
 mV 57 56,
 mG 58 1 57 true,
 mG 59 2 57 true,
 oG 60 (.call 354 [(.t 58),(.t 59)]) 57 true,
 mG 61 1 57 true,
 mG 62 2 57 true,
 oG 63 (.call 355 [(.t 61),(.t 62)]) 57 true,
 oG 64 (.bin .eql .bool (.t 60) (.t 63)) 57 true,
 oP 65 (.pick (.t 57) (.t 64) (cB false)),
 mV 66 65,
 oG 67 (.call 349 []) 66 true,
 oP 68 (.pick (.t 66) (.t 67) (cB false)),
 mV 6 68])
 (.ret)))))))))))⟩
def n349:NF:=⟨34,[0],
 .seq (.region [
 oP 0 (.mov (cB false))])
 (kL [] 0 (.seq (.region [
 oP 4 (.call 259 [(cI 2),(cI 1),(cI 5),(cI 2),(cI 5),(cI 5),(cI 1)]),
 oP 5 (.call 356 [(.t 4)]),
 mV 3 5,
 oP 6 (.ext (.t 3) 0),
 oP 7 (.ext (.t 3) 1),
 mV 1 6,
 mV 2 7])
 (kL [1,2] 0 (.seq (.seq (.region [
 mV 8 2,
 oP 9 (.bin .neq .num (.t 8) (cI 0)),
 mV 10 9,
 mG 11 1 10 false,
 oG 12 (.bin .eql .ptr (.t 11) (.c (.c .nilp))) 10 false,
 oP 13 (.pick (.t 10) (cB true) (.t 12))])
 (kL [1,13] 0 (.cond (.t 13)
 (.seq (.region [
 oP 0 (.mov (cB false))])
 (.ret))
 (.skip))))
 (kL [1] 0 (.seq (.seq (.region [
 oP 14 (.mov (cI 0))])
 (kL [1,14] 0 (.block 0 (.loop (kL [1,14] 0 (.seq (.region [
 oP 15 (.bin .lss .num (.t 14) (cI 40))])
 (kL [1,14,15] 0 (.seq (.cond (.t 15)
 (.skip)
 (.exit 0))
 (kL [1,14] 0 (.seq (.block 1 (.region [
 mV 16 1,
 oP 17 (.build [(.int .i64 0),(.int .i64 0),(.int .i64 0),.nils,.nils,.nils,.nils,.nils] [(0,(1,(cI 1)))]),
 oP 18 (.call 350 [(.t 16),(.t 17)])]))
 (kL [1,14] 0 (.region [
 oP 19 (.bin .add .num (.t 14) (cI 1)),
 mV 14 19]))))))))))))
 (kL [1] 0 (.seq (.region [
 mV 20 1,
 oP 21 (.call 352 [(.t 20)]),
 oP 22 (.bin .eql .num (.t 21) (cI 40)),
 mV 23 22,
 mG 24 1 23 true,
 oG 25 (.call 353 [(.t 24),(cI 1)]) 23 true,
 oG 26 (.call 265 [(.t 25)]) 23 true,
 oP 27 (.pick (.t 23) (.t 26) (cB false)),
 mV 28 27,
 mG 29 1 28 true,
 oG 30 (.call 353 [(.t 29),(cI 1)]) 28 true,
 oG 31 (.call 312 [(.t 30)]) 28 true,
 oG 32 (.bin .eql .num (.t 31) (cI 1)) 28 true,
 oP 33 (.pick (.t 28) (.t 32) (cB false)),
 mV 0 33])
 (.ret)))))))))⟩
def n350:NF:=⟨42,[4,5],
 .seq (.region [
 oP 3 (.box true 8 (.t 1)),
 oP 4 (.mov (.c (.c .nils))),
 oP 5 (.mov (cI 0))])
 (kL [0,3] 1 (.seq (.seq (.region [
 mV 8 0,
 oP 9 (.bin .eql .ptr (.t 8) (.c (.c .nilp)))])
 (kL [0,3,9] 1 (.cond (.t 9)
 (.seq (.region [
 oP 4 (.mov (.c (.c .nils))),
 oP 5 (.mov (cI 1))])
 (.ret))
 (.skip))))
 (kL [0,3] 1 (.seq (.region [
 oP 6 (.mov (cI 0))])
 (kL [0,3] 1 (.seq (.seq (.region [
 oP 10 (.faddr 0 (.t 3)),
 oP 11 (lD 10)])
 (kL [0,3,11] 1 (.block 0 (.seq (.region [
 oP 13 (.bin .eql .num (.t 11) (cI 1)),
 mV 12 13])
 (kL [0,3,11,12] 1 (.cond (.t 12)
 (.region [
 mV 14 0,
 oP 15 (.load (some 8) (.t 3)),
 oP 16 (.call 357 [(.t 14),(.t 15)]),
 mV 6 16])
 (.seq (.region [
 oP 18 (.bin .eql .num (.t 11) (cI 2)),
 mV 17 18])
 (kL [0,3,11,17] 1 (.cond (.t 17)
 (.region [
 mV 19 0,
 oP 20 (.load (some 8) (.t 3)),
 oP 21 (.call 358 [(.t 19),(.t 20)]),
 mV 6 21])
 (.seq (.region [
 oP 23 (.bin .eql .num (.t 11) (cI 3)),
 mV 22 23])
 (kL [0,3,11,22] 1 (.cond (.t 22)
 (.region [
 mV 24 0,
 oP 25 (.faddr 1 (.t 3)),
 oP 26 (lD 25),
 oP 27 (.call 359 [(.t 24),(.t 26)]),
 mV 6 27])
 (.seq (.region [
 oP 29 (.bin .eql .num (.t 11) (cI 4)),
 mV 28 29])
 (kL [0,3,28] 1 (.cond (.t 28)
 (.region [
 mV 30 0,
 oP 31 (.load (some 8) (.t 3)),
 oP 32 (.call 360 [(.t 30),(.t 31)]),
 mV 6 32])
 (.region [
 oP 6 (.mov (cI 1))]))))))))))))))))
 (kL [0,6] 0 (.seq (.region [
 mV 33 0,
 oP 34 (.nilck (.t 33)),
 oP 35 (.faddr 13 (.t 34)),
 oP 36 (lD 35),
 mV 7 36])
 (kL [0,6,7] 0 (.seq (.region [
 mV 37 0,
 oP 38 (.nilck (.t 37)),
 oP 39 (.faddr 13 (.t 38)),
 oW (.store 1 (.t 39) (.c (.c .nils)))])
 (kL [6,7] 0 (.seq (.region [
 mV 40 7,
 mV 41 6,
 mV 4 40,
 mV 5 41])
 (.ret)))))))))))))⟩
def n351:NF:=⟨27,[4,5],
 .seq (.region [
 oP 4 (.mov (cI 0)),
 oP 5 (.mov (cB false))])
 (kL [0,1] 0 (.seq (.seq (.region [
 mV 6 0,
 mV 7 1,
 oP 8 (.call 361 [(.t 6),(.t 7)]),
 oP 9 (.un .not (.t 8)),
 mV 10 9,
 mG 11 0 10 false,
 oG 12 (.nilck (.t 11)) 10 false,
 oG 13 (.faddr 11 (.t 12)) 10 false,
 oG 14 (lD 13) 10 false,
 mG 15 1 10 false,
 oG 16 (iA 1 14 15) 10 false,
 oG 17 (lD 16) 10 false,
 oG 18 (.bin .lss .num (.t 17) (cI 0)) 10 false,
 oP 19 (.pick (.t 10) (cB true) (.t 18))])
 (kL [0,1,19] 0 (.cond (.t 19)
 (.seq (.region [
 oP 4 (.mov (cI 0)),
 oP 5 (.mov (cB false))])
 (.ret))
 (.skip))))
 (kL [0,1] 0 (.seq (.region [
 mV 20 0,
 oP 21 (.nilck (.t 20)),
 oP 22 (.faddr 11 (.t 21)),
 oP 23 (lD 22),
 mV 24 1,
 oP 25 (iA 1 23 24),
 oP 26 (lD 25),
 mV 4 26,
 oP 5 (.mov (cB true))])
 (.ret)))))⟩
def n352:NF:=⟨9,[2],
 .seq (.region [
 oP 2 (.mov (cI 0))])
 (kL [0] 0 (.seq (.seq (.region [
 mV 3 0,
 oP 4 (.bin .eql .ptr (.t 3) (.c (.c .nilp)))])
 (kL [0,4] 0 (.cond (.t 4)
 (.seq (.region [
 oP 2 (.mov (cI 0))])
 (.ret))
 (.skip))))
 (kL [0] 0 (.seq (.region [
 mV 5 0,
 oP 6 (.nilck (.t 5)),
 oP 7 (.faddr 10 (.t 6)),
 oP 8 (lD 7),
 mV 2 8])
 (.ret)))))⟩
def n353:NF:=⟨16,[4],
 .seq (.region [
 oP 4 (.mov (.c (.c .nilp)))])
 (kL [0,1] 0 (.seq (.seq (.region [
 mV 5 0,
 mV 6 1,
 oP 7 (.call 361 [(.t 5),(.t 6)]),
 oP 8 (.un .not (.t 7))])
 (kL [0,1,8] 0 (.cond (.t 8)
 (.seq (.region [
 oP 4 (.mov (.c (.c .nilp)))])
 (.ret))
 (.skip))))
 (kL [0,1] 0 (.seq (.region [
 mV 9 0,
 oP 10 (.nilck (.t 9)),
 oP 11 (.faddr 9 (.t 10)),
 oP 12 (lD 11),
 mV 13 1,
 oP 14 (iA 1 12 13),
 oP 15 (lD 14),
 mV 4 15])
 (.ret)))))⟩
def n354:NF:=⟨8,[4],
 .seq (.region [
 oP 4 (.mov (cB false))])
 (kL [0,1] 0 (.seq (.region [
 mV 5 0,
 mV 6 1,
 oP 7 (.call 362 [(.t 5),(.t 6),(.c (.c (.fn 363 [])))]),
 mV 4 7])
 (.ret)))⟩
def n355:NF:=⟨59,[4],
 .seq (.region [
 oP 4 (.mov (cB false))])
 (kL [0,1] 0 (.seq (.seq (.region [
 mV 8 0,
 oP 9 (.len .sl (.t 8)),
 mV 10 1,
 oP 11 (.len .sl (.t 10)),
 oP 12 (.bin .neq .num (.t 9) (.t 11))])
 (kL [0,1,12] 0 (.cond (.t 12)
 (.seq (.region [
 oP 4 (.mov (cB false))])
 (.ret))
 (.skip))))
 (kL [0,1] 0 (.seq (.seq (.region [
 mV 13 0,
 oP 14 (.len .sl (.t 13)),
 oP 15 (.mov (cI 0))])
 (kL [1,13,14,15] 0 (.block 0 (.loop (kL [1,13,14,15] 0 (.seq (.region [
 oP 16 (.bin .lss .num (.t 15) (.t 14))])
 (kL [1,13,14,15,16] 0 (.seq (.cond (.t 16)
 (.skip)
 (.exit 0))
 (kL [1,13,14,15] 0 (.seq (.block 1 (.seq (.region [
 mV 17 15,
 oP 18 (iA 10 13 15),
 oP 19 (.load (some 10) (.t 18)),
 oP 6 (.box true 10 (.c (.agg [(.int .i64 0),(.int .i64 0),(.int .i64 0),(.int .i64 0),(.int .i64 0),(.int .i64 0),(.int .i64 0),(.int .i64 0),.nils,.nils]))),
 mV 5 17,
 oW (.store 10 (.t 6) (.t 19))])
 (kL [1,5,6,13,14,15] 1 (.seq (.region [
 mV 20 1,
 mV 21 5,
 oP 22 (iA 10 20 21),
 oP 23 (.load (some 10) (.t 22)),
 oP 7 (.box true 10 (.c (.agg [(.int .i64 0),(.int .i64 0),(.int .i64 0),(.int .i64 0),(.int .i64 0),(.int .i64 0),(.int .i64 0),(.int .i64 0),.nils,.nils]))),
 oW (.store 10 (.t 7) (.t 23))])
 (kL [1,6,7,13,14,15] 2 (.seq (.region [
 oP 24 (.faddr 0 (.t 6)),
 oP 25 (lD 24),
 oP 26 (.faddr 0 (.t 7)),
 oP 27 (lD 26),
 oP 28 (.bin .neq .num (.t 25) (.t 27)),
 mV 29 28,
 oG 30 (.faddr 1 (.t 6)) 29 false,
 oG 31 (lD 30) 29 false,
 oG 32 (.faddr 1 (.t 7)) 29 false,
 oG 33 (lD 32) 29 false,
 oG 34 (.bin .neq .num (.t 31) (.t 33)) 29 false,
 oP 35 (.pick (.t 29) (cB true) (.t 34)),
 mV 36 35,
 oG 37 (.faddr 2 (.t 6)) 36 false,
 oG 38 (lD 37) 36 false,
 oG 39 (.faddr 2 (.t 7)) 36 false,
 oG 40 (lD 39) 36 false,
 oG 41 (.bin .neq .num (.t 38) (.t 40)) 36 false,
 oP 42 (.pick (.t 36) (cB true) (.t 41)),
 mV 43 42,
 oG 44 (.faddr 3 (.t 6)) 43 false,
 oG 45 (lD 44) 43 false,
 oG 46 (.faddr 3 (.t 7)) 43 false,
 oG 47 (lD 46) 43 false,
 oG 48 (.bin .neq .num (.t 45) (.t 47)) 43 false,
 oP 49 (.pick (.t 43) (cB true) (.t 48)),
 mV 50 49,
 oG 51 (.faddr 4 (.t 6)) 50 false,
 oG 52 (.load (some 6) (.t 51)) 50 false,
 oG 53 (.faddr 4 (.t 7)) 50 false,
 oG 54 (.load (some 6) (.t 53)) 50 false,
 oG 55 (.call 364 [(.t 52),(.t 54)]) 50 false,
 oG 56 (.un .not (.t 55)) 50 false,
 oP 57 (.pick (.t 50) (cB true) (.t 56))])
 (kL [1,13,14,15,57] 0 (.cond (.t 57)
 (.seq (.region [
 oP 4 (.mov (cB false))])
 (.ret))
 (.skip)))))))))
 (kL [1,13,14,15] 0 (.region [
 oP 58 (.bin .add .num (.t 15) (cI 1)),
 mV 15 58]))))))))))))
 (kL [] 0 (.seq (.region [
 oP 4 (.mov (cB true))])
 (.ret)))))))⟩
def n356:NF:=⟨54,[2,3],
 .seq (.region [
 oP 1 (.box true 9 (.t 0)),
 oP 2 (.mov (.c (.c .nilp))),
 oP 3 (.mov (cI 0))])
 (kL [1] 1 (.seq (.seq (.region [
 oP 6 (.load (some 9) (.t 1)),
 oP 7 (.call 266 [(.t 6)]),
 oP 8 (.un .not (.t 7))])
 (kL [1,8] 1 (.cond (.t 8)
 (.seq (.region [
 oP 2 (.mov (.c (.c .nilp))),
 oP 3 (.mov (cI 1))])
 (.ret))
 (.skip))))
 (kL [1] 1 (.seq (.draw 0 [
 ⟨0,none,(oP 9 (.faddr 1 (.t 1))),[]⟩,
 ⟨1,none,(oP 10 (lD 9)),[]⟩,
 ⟨3,none,(oP 12 (.faddr 2 (.t 1))),[]⟩,
 ⟨4,none,(oP 13 (lD 12)),[]⟩,
 ⟨2,none,(oP 11 (.call 268 [(.t 10)])),[(4,(oP 13 (lD 12)))]⟩,
 ⟨6,none,(oP 15 (.faddr 1 (.t 1))),[]⟩,
 ⟨5,none,(oP 14 (.call 203 [(.t 13)])),[]⟩,
 ⟨7,none,(oW (.store 1 (.t 15) (.t 11))),[]⟩,
 ⟨8,none,(oP 16 (.faddr 2 (.t 1))),[]⟩,
 ⟨9,none,(oW (.store 1 (.t 16) (.t 14))),[]⟩])
 (kL [1] 1 (.seq (.region [
 oP 17 (.load (some 9) (.t 1)),
 oP 18 .mkmap,
 oP 19 (.build [(.int .i64 0),.nils,.nils,(.int .i64 0),(.int .i64 0),(.int .i64 0),(.int .i64 0),(.int .i64 0),(.int .i64 0),.nils,(.int .i64 0),.nils,.nilm,.nils] [(0,(9,(.t 17))),(12,(1,(.t 18)))]),
 oP 20 (.box false 14 (.t 19)),
 mV 4 20])
 (kL [1,4] 1 (.seq (.seq (.region [
 oP 21 (.faddr 0 (.t 1)),
 oP 22 (lD 21),
 oP 23 (.mov (cI 0))])
 (kL [1,4,22,23] 1 (.block 0 (.loop (kL [1,4,22,23] 1 (.seq (.region [
 oP 24 (.bin .lss .num (.t 23) (.t 22))])
 (kL [1,4,22,23,24] 1 (.seq (.cond (.t 24)
 (.skip)
 (.exit 0))
 (kL [1,4,22,23] 1 (.seq (.block 1 (.seq (.region [
 mV 25 23,
 mV 5 25])
 (kL [1,4,5,22,23] 1 (.seq (.draw 1 [
 ⟨0,none,(mV 26 4),[]⟩,
 ⟨1,none,(mV 27 4),[]⟩,
 ⟨2,none,(oP 28 (.nilck (.t 27))),[]⟩,
 ⟨3,none,(oP 29 (.faddr 9 (.t 28))),[]⟩,
 ⟨4,none,(oP 30 (lD 29)),[]⟩,
 ⟨5,none,(oP 31 (.load (some 9) (.t 1))),[]⟩,
 ⟨6,none,(mV 32 5),[]⟩,
 ⟨7,none,(oP 33 (.call 260 [(.t 31),(.t 32)])),[(4,(oP 30 (lD 29)))]⟩,
 ⟨8,(some 0),(oP 34 (.bslice false 1 1 [.nilp] [(0,(1,(.t 33)))])),[]⟩,
 ⟨9,none,(oP 35 (.app 1 8 (.t 30) (.t 34))),[]⟩,
 ⟨10,none,(oP 36 (.nilck (.t 26))),[]⟩,
 ⟨11,none,(oP 37 (.faddr 9 (.t 36))),[]⟩,
 ⟨12,none,(oW (.store 1 (.t 37) (.t 35))),[]⟩])
 (kL [1,4,22,23] 1 (.region [
 mV 38 4,
 mV 39 4,
 oP 40 (.nilck (.t 39)),
 oP 41 (.faddr 11 (.t 40)),
 oP 42 (lD 41),
 oP 43 (.bslice true 1 1 [(.int .i64 0)] [(0,(1,(cI (-1))))]),
 oP 44 (.app 1 8 (.t 42) (.t 43)),
 oP 45 (.nilck (.t 38)),
 oP 46 (.faddr 11 (.t 45)),
 oW (.store 1 (.t 46) (.t 44))]))))))
 (kL [1,4,22,23] 1 (.region [
 oP 47 (.bin .add .num (.t 23) (cI 1)),
 mV 23 47]))))))))))))
 (kL [4] 0 (.seq (.region [
 mV 48 4,
 oP 49 (.nilck (.t 48)),
 oP 50 (.faddr 11 (.t 49)),
 oP 51 (lD 50),
 oP 52 (.iaddr 1 (.t 51) (cI 0)),
 oW (.store 1 (.t 52) (cI 0))])
 (kL [4] 0 (.seq (.region [
 mV 53 4,
 mV 2 53,
 oP 3 (.mov (cI 0))])
 (.ret)))))))))))))⟩
def n259b:Code:=
 .seq (.region [
 oP 14 (.box false 9 (.c (.agg [(.int .i64 0),.nils,.nils,(.int .i64 0),(.int .i64 0),(.int .i64 0),(.int .i64 0),(.int .i64 0),(.int .i64 0)])))])
 (kL [0,1,2,3,4,5,6,14] 0 (.seq (.region [
 mV 20 0,
 oP 21 (.conv (.toInt .u64) (.t 20)),
 oP 22 (.bin .rem .num (.t 21) (.c (.c (.int .u64 7)))),
 oP 23 (.conv (.toInt .i64) (.t 22)),
 oP 24 (.bin .add .num (cI 2) (.t 23)),
 mV 15 24])
 (kL [1,2,3,4,5,6,14,15] 0 (.seq (.region [
 mV 25 1,
 oP 26 (.conv (.toInt .u64) (.t 25)),
 oP 27 (.bin .rem .num (.t 26) (.c (.c (.int .u64 3)))),
 oP 28 (.conv (.toInt .i64) (.t 27)),
 oP 29 (.bin .add .num (cI 1) (.t 28)),
 mV 16 29])
 (kL [2,3,4,5,6,14,15,16] 0 (.seq (.region [
 mV 30 15,
 mV 31 15,
 oP 32 (.mkslice 1 8 [(.int .u64 0)] (.t 31) (.t 31)),
 oP 33 (.bslice false 1 3 [(.int .i64 0)] [(0,(1,(cI 11))),(1,(1,(cI 15))),(2,(1,(cI 20)))]),
 mV 34 6,
 oP 35 (.conv (.toInt .u64) (.t 34)),
 oP 36 (.bin .rem .num (.t 35) (.c (.c (.int .u64 6)))),
 oP 37 (.conv (.toInt .i64) (.t 36)),
 mV 38 2,
 oP 39 (.conv (.toInt .u64) (.t 38)),
 oP 40 (.bin .rem .num (.t 39) (.c (.c (.int .u64 30)))),
 oP 41 (.conv (.toInt .i64) (.t 40)),
 oP 42 (.bin .add .num (cI 1) (.t 41)),
 mV 43 15,
 oP 44 (.bin .mul .num (cI 2) (.t 43)),
 mV 45 3,
 oP 46 (.conv (.toInt .u64) (.t 45)),
 oP 47 (.bin .rem .num (.t 46) (.c (.c (.int .u64 60)))),
 oP 48 (.conv (.toInt .i64) (.t 47)),
 oP 49 (.bin .add .num (.t 44) (.t 48)),
 mV 50 4,
 oP 51 (.conv (.toInt .u64) (.t 50)),
 oP 52 (.bin .rem .num (.t 51) (.c (.c (.int .u64 8)))),
 oP 53 (.conv (.toInt .i64) (.t 52)),
 oP 54 (.bin .add .num (cI 1) (.t 53)),
 mV 55 5,
 oP 56 (.conv (.toInt .u64) (.t 55)),
 oP 57 (.bin .rem .num (.t 56) (.c (.c (.int .u64 15)))),
 oP 58 (.conv (.toInt .i64) (.t 57)),
 oP 59 (.bin .add .num (cI 1) (.t 58)),
 oP 60 (.build [(.int .i64 0),.nils,.nils,(.int .i64 0),(.int .i64 0),(.int .i64 0),(.int .i64 0),(.int .i64 0),(.int .i64 0)] [(0,(1,(.t 30))),(1,(1,(.t 32))),(2,(1,(.t 33))),(3,(1,(cI 300))),(4,(1,(.t 37))),(5,(1,(.t 42))),(6,(1,(.t 49))),(7,(1,(.t 54))),(8,(1,(.t 59)))]),
 oP 17 (.box true 9 (.c (.agg [(.int .i64 0),.nils,.nils,(.int .i64 0),(.int .i64 0),(.int .i64 0),(.int .i64 0),(.int .i64 0),(.int .i64 0)]))),
 oW (.store 9 (.t 17) (.t 60))])
 (kL [14,15,16,17] 1 (.seq (.seq (.region [
 mV 61 15,
 oP 62 (.mov (cI 0))])
 (kL [14,15,16,17,61,62] 1 (.block 0 (.loop (kL [14,15,16,17,61,62] 1 (.seq (.region [
 oP 63 (.bin .lss .num (.t 62) (.t 61))])
 (kL [14,15,16,17,61,62,63] 1 (.seq (.cond (.t 63)
 (.skip)
 (.exit 0))
 (kL [14,15,16,17,61,62] 1 (.seq (.block 1 (.seq (.region [
 mV 64 62,
 mV 18 64])
 (kL [14,15,16,17,18,61,62] 1 (.seq (.region [
 mV 65 15,
 oP 66 (.mov (cI 0))])
 (kL [14,15,16,17,18,61,62,65,66] 1 (.block 2 (.loop (kL [14,15,16,17,18,61,62,65,66] 1 (.seq (.region [
 oP 67 (.bin .lss .num (.t 66) (.t 65))])
 (kL [14,15,16,17,18,61,62,65,66,67] 1 (.seq (.cond (.t 67)
 (.skip)
 (.exit 2))
 (kL [14,15,16,17,18,61,62,65,66] 1 (.seq (.block 3 (.seq (.region [
 mV 68 66,
 mV 19 68])
 (kL [14,15,16,17,18,19,61,62,65,66] 1 (.seq (.region [
 mV 69 18,
 mV 70 19,
 oP 71 (.bin .neq .num (.t 69) (.t 70)),
 mV 72 71,
 mG 73 18 72 true,
 mG 74 19 72 true,
 oG 75 (.bin .sub .num (.t 73) (.t 74)) 72 true,
 mG 76 16 72 true,
 oG 77 (.bin .leq .num (.t 75) (.t 76)) 72 true,
 oP 78 (.pick (.t 72) (.t 77) (cB false)),
 mV 79 78,
 mG 80 19 79 true,
 mG 81 18 79 true,
 oG 82 (.bin .sub .num (.t 80) (.t 81)) 79 true,
 mG 83 16 79 true,
 oG 84 (.bin .leq .num (.t 82) (.t 83)) 79 true,
 oP 85 (.pick (.t 79) (.t 84) (cB false))])
 (kL [14,15,16,17,18,19,61,62,65,66,85] 1 (.cond (.t 85)
 (.region [
 oP 86 (.faddr 1 (.t 17)),
 oP 87 (lD 86),
 mV 88 18,
 oP 89 (iA 1 87 88),
 oP 90 (lD 89),
 mV 91 19,
 oP 92 (.conv (.toInt .u64) (.t 91)),
 oP 93 (.bin .shl .num (.c (.c (.int .u64 1))) (.t 92)),
 oP 94 (.bin .or .num (.t 90) (.t 93)),
 oP 95 (iA 1 87 88),
 oW (.store 1 (.t 95) (.t 94))])
 (.skip)))))))
 (kL [14,15,16,17,18,61,62,65,66] 1 (.region [
 oP 96 (.bin .add .num (.t 66) (cI 1)),
 mV 66 96])))))))))))))))
 (kL [14,15,16,17,61,62] 1 (.region [
 oP 97 (.bin .add .num (.t 62) (cI 1)),
 mV 62 97]))))))))))))
 (kL [14,17] 1 (.seq (.region [
 oP 98 (.load (some 9) (.t 17)),
 oW (.store 9 (.t 14) (.t 98))])
 (.ret)))))))))))
def n259:NF:=⟨99,[14],.fin n259b [⟨some 14,.load (some 9) (.t 14),none⟩]⟩
def n265:NF:=⟨11,[2],
 .seq (.region [
 oP 2 (.mov (cB false))])
 (kL [0] 0 (.seq (.region [
 mV 3 0,
 oP 4 (.bin .neq .ptr (.t 3) (.c (.c .nilp))),
 mV 5 4,
 mG 6 0 5 true,
 oG 7 (.nilck (.t 6)) 5 true,
 oG 8 (.faddr 18 (.t 7)) 5 true,
 oG 9 (lD 8) 5 true,
 oP 10 (.pick (.t 5) (.t 9) (cB false)),
 mV 2 10])
 (.ret)))⟩
def n312:NF:=⟨24,[2],
 .seq (.region [
 oP 2 (.mov (cI 0))])
 (kL [0] 0 (.seq (.block 0 (.seq (.region [
 mV 4 0,
 oP 5 (.bin .eql .ptr (.t 4) (.c (.c .nilp))),
 mV 6 5,
 mG 7 0 6 false,
 oG 8 (.nilck (.t 7)) 6 false,
 oG 9 (.faddr 18 (.t 8)) 6 false,
 oG 10 (lD 9) 6 false,
 oG 11 (.un .not (.t 10)) 6 false,
 oP 12 (.pick (.t 6) (cB true) (.t 11)),
 mV 3 12])
 (kL [0,3] 0 (.cond (.t 3)
 (.seq (.region [
 oP 2 (.mov (cI 255))])
 (.ret))
 (.seq (.region [
 mV 14 0,
 oP 15 (.nilck (.t 14)),
 oP 16 (.faddr 9 (.t 15)),
 oP 17 (lD 16),
 oP 18 (.bin .eql .num (.t 17) (cI 0)),
 mV 13 18])
 (kL [0,13] 0 (.cond (.t 13)
 (.seq (.region [
 oP 2 (.mov (cI 0))])
 (.ret))
 (.skip))))))))
 (kL [0] 0 (.seq (.region [
 mV 19 0,
 oP 20 (.nilck (.t 19)),
 oP 21 (.faddr 19 (.t 20)),
 oP 22 (lD 21),
 oP 23 (.call 66 [(.t 22)]),
 mV 2 23])
 (.ret)))))⟩
def n357:NF:=⟨130,[4],
 .seq (.region [
 oP 3 (.box true 8 (.t 1)),
 oP 4 (.mov (cI 0))])
 (kL [0,3] 1 (.seq (.seq (.region [
 mV 16 0,
 oP 17 (.nilck (.t 16)),
 oP 18 (.faddr 10 (.t 17)),
 oP 19 (lD 18),
 oP 20 (.bin .geq .num (.t 19) (cI 1099511627775))])
 (kL [0,3,20] 1 (.cond (.t 20)
 (.seq (.region [
 oP 4 (.mov (cI 7))])
 (.ret))
 (.skip))))
 (kL [0,3] 1 (.seq (.region [
 mV 21 0,
 oP 22 (.load (some 8) (.t 3)),
 oP 23 (.call 365 [(.t 21),(.t 22)]),
 mV 5 23])
 (kL [0,3,5] 1 (.seq (.region [
 mV 24 0,
 oP 25 (.nilck (.t 24)),
 oP 26 (.faddr 9 (.t 25)),
 oP 27 (lD 26),
 oP 28 (.len .sl (.t 27)),
 oP 29 (.mkslice 3 40 [(.int .i64 0),.nils,(.int .i64 0)] (.t 28) (.t 28)),
 mV 6 29])
 (kL [0,3,5,6] 1 (.seq (.seq (.region [
 mV 30 0,
 oP 31 (.nilck (.t 30)),
 oP 32 (.faddr 9 (.t 31)),
 oP 33 (lD 32),
 oP 34 (.len .sl (.t 33)),
 oP 35 (.mov (cI 0))])
 (kL [0,3,5,6,33,34,35] 1 (.block 0 (.loop (kL [0,3,5,6,33,34,35] 1 (.seq (.region [
 oP 36 (.bin .lss .num (.t 35) (.t 34))])
 (kL [0,3,5,6,33,34,35,36] 1 (.seq (.cond (.t 36)
 (.skip)
 (.exit 0))
 (kL [0,3,5,6,33,34,35] 1 (.seq (.block 1 (.seq (.region [
 mV 37 35,
 oP 38 (iA 1 33 35),
 oP 39 (lD 38),
 mV 7 37,
 mV 8 39])
 (kL [0,3,5,6,7,8,33,34,35] 1 (.seq (.region [
 mV 41 8,
 mV 42 0,
 oP 43 (.nilck (.t 42)),
 oP 44 (.faddr 10 (.t 43)),
 oP 45 (lD 44),
 oP 46 (.call 262 [(.t 41),(.t 45)]),
 mV 40 46,
 oP 47 (.ext (.t 40) 0),
 oP 48 (.ext (.t 40) 1),
 mV 9 47,
 mV 10 48])
 (kL [0,3,5,6,7,8,9,10,33,34,35] 1 (.region [
 mV 49 6,
 mV 50 7,
 mV 51 9,
 mV 52 10,
 mV 53 8,
 oP 54 (.call 347 [(.t 53)]),
 oP 55 (.build [(.int .i64 0),.nils,(.int .i64 0)] [(0,(1,(.t 51))),(1,(1,(.t 52))),(2,(1,(.t 54)))]),
 oP 56 (iA 3 49 50),
 oW (.store 3 (.t 56) (.t 55))]))))))
 (kL [0,3,5,6,33,34,35] 1 (.region [
 oP 57 (.bin .add .num (.t 35) (cI 1)),
 mV 35 57]))))))))))))
 (kL [0,3,5,6] 1 (.seq (.region [
 mV 58 0,
 oP 59 (.load (some 8) (.t 3)),
 mV 60 6,
 mV 61 5,
 oP 62 (.call 366 [(.t 58),(.t 59),(.t 60),(.t 61)]),
 mV 11 62])
 (kL [0,3,5,6,11] 1 (.seq (.seq (.region [
 mV 63 0,
 oP 64 (.nilck (.t 63)),
 oP 65 (.faddr 9 (.t 64)),
 oP 66 (lD 65),
 oP 67 (.len .sl (.t 66)),
 oP 68 (.mov (cI 0))])
 (kL [0,3,5,6,11,66,67,68] 1 (.block 2 (.loop (kL [0,3,5,6,11,66,67,68] 1 (.seq (.region [
 oP 69 (.bin .lss .num (.t 68) (.t 67))])
 (kL [0,3,5,6,11,66,67,68,69] 1 (.seq (.cond (.t 69)
 (.skip)
 (.exit 2))
 (kL [0,3,5,6,11,66,67,68] 1 (.seq (.block 3 (.seq (.region [
 mV 70 68,
 oP 71 (iA 1 66 68),
 oP 72 (lD 71),
 mV 12 70,
 mV 13 72])
 (kL [0,3,5,6,11,12,13,66,67,68] 1 (.seq (.region [
 mV 73 6,
 mV 74 12,
 oP 75 (iA 3 73 74),
 oP 76 (.faddr 1 (.t 75)),
 oP 77 (lD 76),
 oP 78 (.len .sl (.t 77)),
 oP 79 (.bin .gtr .num (.t 78) (cI 0))])
 (kL [0,3,5,6,11,12,13,66,67,68,79] 1 (.cond (.t 79)
 (.draw 0 [
 ⟨0,none,(mV 80 0),[]⟩,
 ⟨1,none,(mV 81 13),[]⟩,
 ⟨2,none,(mV 82 0),[]⟩,
 ⟨3,none,(oP 83 (.nilck (.t 82))),[]⟩,
 ⟨4,none,(oP 84 (.faddr 10 (.t 83))),[]⟩,
 ⟨5,none,(oP 85 (lD 84)),[]⟩,
 ⟨6,none,(mV 86 0),[]⟩,
 ⟨7,none,(oP 87 (.load (some 8) (.t 3))),[]⟩,
 ⟨8,none,(mV 88 12),[]⟩,
 ⟨9,none,(mV 89 6),[]⟩,
 ⟨10,none,(mV 90 12),[]⟩,
 ⟨11,none,(oP 91 (iA 3 89 90)),[]⟩,
 ⟨12,none,(oP 92 (.faddr 1 (.t 91))),[]⟩,
 ⟨13,none,(oP 93 (lD 92)),[]⟩,
 ⟨14,none,(mV 94 11),[]⟩,
 ⟨17,none,(mV 97 5),[]⟩,
 ⟨15,none,(oP 95 (.call 367 [(.t 86),(.t 87),(.t 88),(.t 93),(.t 94)])),[(5,(oP 85 (lD 84)))]⟩,
 ⟨16,none,(oP 96 (.call 344 [(.t 81),(.t 85),(.t 95),(cI 0)])),[]⟩,
 ⟨18,none,(oP 98 (.call 368 [(.t 80),(.t 96),(.t 97)])),[]⟩])
 (.skip)))))))
 (kL [0,3,5,6,11,66,67,68] 1 (.region [
 oP 99 (.bin .add .num (.t 68) (cI 1)),
 mV 68 99]))))))))))))
 (kL [0,5] 0 (.seq (.seq (.region [
 mV 100 0,
 oP 101 (.nilck (.t 100)),
 oP 102 (.faddr 9 (.t 101)),
 oP 103 (lD 102),
 oP 104 (.len .sl (.t 103)),
 oP 105 (.mov (cI 0))])
 (kL [0,5,103,104,105] 0 (.block 4 (.loop (kL [0,5,103,104,105] 0 (.seq (.region [
 oP 106 (.bin .lss .num (.t 105) (.t 104))])
 (kL [0,5,103,104,105,106] 0 (.seq (.cond (.t 106)
 (.skip)
 (.exit 4))
 (kL [0,5,103,104,105] 0 (.seq (.block 5 (.seq (.region [
 oP 107 (iA 1 103 105),
 oP 108 (lD 107),
 mV 15 108])
 (kL [0,5,15,103,104,105] 0 (.region [
 mV 109 0,
 mV 110 15,
 mV 111 0,
 oP 112 (.nilck (.t 111)),
 oP 113 (.faddr 10 (.t 112)),
 oP 114 (lD 113),
 oP 115 (.call 345 [(.t 110),(.t 114)]),
 mV 116 5,
 oP 117 (.call 368 [(.t 109),(.t 115),(.t 116)])]))))
 (kL [0,5,103,104,105] 0 (.region [
 oP 118 (.bin .add .num (.t 105) (cI 1)),
 mV 105 118]))))))))))))
 (kL [0] 0 (.seq (.region [
 mV 119 0,
 oP 120 (.nilck (.t 119)),
 oP 121 (.faddr 10 (.t 120)),
 oP 122 (lD 121),
 oP 123 (.bin .add .num (.t 122) (cI 1)),
 oP 124 (.nilck (.t 119)),
 oP 125 (.faddr 10 (.t 124)),
 oW (.store 1 (.t 125) (.t 123))])
 (kL [0] 0 (.seq (.region [
 mV 126 0,
 oP 127 .mkmap,
 oP 128 (.nilck (.t 126)),
 oP 129 (.faddr 12 (.t 128)),
 oW (.store 1 (.t 129) (.t 127))])
 (kL [] 0 (.seq (.region [
 oP 4 (.mov (cI 0))])
 (.ret)))))))))))))))))))))⟩
def n358:NF:=⟨33,[4],
 .seq (.region [
 oP 3 (.box true 8 (.t 1)),
 oP 4 (.mov (cI 0))])
 (kL [0,3] 1 (.seq (.seq (.region [
 mV 7 0,
 oP 8 (.faddr 1 (.t 3)),
 oP 9 (lD 8),
 oP 10 (.call 361 [(.t 7),(.t 9)]),
 oP 11 (.un .not (.t 10))])
 (kL [0,3,11] 1 (.cond (.t 11)
 (.seq (.region [
 oP 4 (.mov (cI 6))])
 (.ret))
 (.skip))))
 (kL [0,3] 1 (.seq (.draw 0 [
 ⟨0,none,(mV 13 0),[]⟩,
 ⟨1,none,(oP 14 (.nilck (.t 13))),[]⟩,
 ⟨2,none,(oP 15 (.faddr 9 (.t 14))),[]⟩,
 ⟨3,none,(oP 16 (lD 15)),[]⟩,
 ⟨4,none,(oP 17 (.faddr 1 (.t 3))),[]⟩,
 ⟨5,none,(oP 18 (lD 17)),[]⟩,
 ⟨6,none,(oP 19 (iA 1 16 18)),[]⟩,
 ⟨7,none,(oP 20 (lD 19)),[]⟩,
 ⟨8,none,(mV 21 0),[]⟩,
 ⟨9,none,(oP 22 (.nilck (.t 21))),[]⟩,
 ⟨10,none,(oP 23 (.faddr 10 (.t 22))),[]⟩,
 ⟨11,none,(oP 24 (lD 23)),[]⟩,
 ⟨12,none,(oP 25 (.faddr 2 (.t 3))),[]⟩,
 ⟨13,none,(oP 26 (lD 25)),[]⟩,
 ⟨14,none,(oP 27 (.faddr 7 (.t 3))),[]⟩,
 ⟨15,none,(oP 28 (lD 27)),[]⟩,
 ⟨16,none,(oP 29 (.call 261 [(.t 20),(.t 24),(.t 26),(.t 28)])),[]⟩,
 ⟨17,none,(mV 12 29),[]⟩,
 ⟨18,none,(oP 30 (.ext (.t 12) 0)),[]⟩,
 ⟨19,none,(oP 31 (.ext (.t 12) 1)),[]⟩,
 ⟨20,none,(mV 5 30),[]⟩,
 ⟨21,none,(mV 6 31),[]⟩])
 (kL [6] 0 (.seq (.region [
 mV 32 6,
 mV 4 32])
 (.ret)))))))⟩
def n359:NF:=⟨40,[4],
 .seq (.region [
 oP 4 (.mov (cI 0))])
 (kL [0,1] 0 (.seq (.block 0 (.seq (.region [
 mV 7 0,
 mV 8 1,
 oP 9 (.call 361 [(.t 7),(.t 8)]),
 oP 10 (.un .not (.t 9)),
 mV 6 10])
 (kL [0,1,6] 0 (.cond (.t 6)
 (.seq (.region [
 oP 4 (.mov (cI 6))])
 (.ret))
 (.seq (.region [
 mV 12 1,
 oP 13 (.bin .eql .num (.t 12) (cI 0)),
 mV 11 13])
 (kL [0,1,11] 0 (.cond (.t 11)
 (.seq (.region [
 oP 4 (.mov (cI 1))])
 (.ret))
 (.skip))))))))
 (kL [0,1] 0 (.seq (.region [
 mV 14 0,
 oP 15 (.nilck (.t 14)),
 oP 16 (.faddr 9 (.t 15)),
 oP 17 (lD 16),
 mV 18 1,
 oP 19 (iA 1 17 18),
 oP 20 (lD 19),
 oP 21 (.call 265 [(.t 20)]),
 mV 5 21])
 (kL [0,1,5] 0 (.seq (.region [
 mV 22 0,
 oP 23 (.nilck (.t 22)),
 oP 24 (.faddr 9 (.t 23)),
 oP 25 (lD 24),
 mV 26 1,
 oP 27 (iA 1 25 26),
 oP 28 (lD 27),
 oP 29 (.call 342 [(.t 28)])])
 (kL [0,1,5] 0 (.seq (.seq (.region [
 mV 30 5])
 (kL [0,1,30] 0 (.cond (.t 30)
 (.region [
 mV 31 0,
 mV 32 1,
 oP 33 (.build [(.int .i64 0),(.int .i64 0),(.int .i64 0),(.int .i64 0),(.int .i64 0),(.int .i64 0),(.int .i64 0),(.int .i64 0),.nils,.nils] [(0,(1,(cI 3))),(1,(1,(.t 32)))]),
 oP 34 (.bslice false 10 1 [(.int .i64 0),(.int .i64 0),(.int .i64 0),(.int .i64 0),(.int .i64 0),(.int .i64 0),(.int .i64 0),(.int .i64 0),.nils,.nils] [(0,(10,(.t 33)))]),
 mV 35 0,
 oP 36 (.nilck (.t 35)),
 oP 37 (.faddr 11 (.t 36)),
 oP 38 (lD 37),
 oP 39 (.call 368 [(.t 31),(.t 34),(.t 38)])])
 (.skip))))
 (kL [] 0 (.seq (.region [
 oP 4 (.mov (cI 0))])
 (.ret)))))))))))⟩
def n360:NF:=⟨25,[4],
 .seq (.region [
 oP 3 (.box true 8 (.t 1)),
 oP 4 (.mov (cI 0))])
 (kL [0,3] 1 (.seq (.block 0 (.seq (.region [
 mV 6 0,
 oP 7 (.faddr 1 (.t 3)),
 oP 8 (lD 7),
 oP 9 (.call 361 [(.t 6),(.t 8)]),
 oP 10 (.un .not (.t 9)),
 mV 5 10])
 (kL [0,3,5] 1 (.cond (.t 5)
 (.seq (.region [
 oP 4 (.mov (cI 6))])
 (.ret))
 (.seq (.region [
 oP 12 (.faddr 7 (.t 3)),
 oP 13 (lD 12),
 oP 14 (.len .sl (.t 13)),
 oP 15 (.bin .gtr .num (.t 14) (cI 200)),
 mV 11 15])
 (kL [0,3,11] 1 (.cond (.t 11)
 (.seq (.region [
 oP 4 (.mov (cI 1))])
 (.ret))
 (.skip))))))))
 (kL [0,3] 1 (.seq (.draw 0 [
 ⟨0,none,(mV 16 0),[]⟩,
 ⟨1,none,(oP 17 (.nilck (.t 16))),[]⟩,
 ⟨2,none,(oP 18 (.faddr 12 (.t 17))),[]⟩,
 ⟨3,none,(oP 19 (lD 18)),[]⟩,
 ⟨4,none,(oP 20 (.faddr 1 (.t 3))),[]⟩,
 ⟨5,none,(oP 21 (lD 20)),[]⟩,
 ⟨6,none,(oP 22 (.faddr 7 (.t 3))),[]⟩,
 ⟨7,none,(oP 23 (lD 22)),[]⟩,
 ⟨8,none,(oP 24 (.call 293 [(.t 23)])),[(3,(oP 19 (lD 18))),(5,(oP 21 (lD 20)))]⟩,
 ⟨9,none,(oW (.mupd (.int .i64) (.t 19) (.t 21) (.t 24))),[]⟩])
 (kL [] 0 (.seq (.region [
 oP 4 (.mov (cI 0))])
 (.ret)))))))⟩
def n361:NF:=⟨20,[4],
 .seq (.region [
 oP 4 (.mov (cB false))])
 (kL [0,1] 0 (.seq (.region [
 mV 5 0,
 oP 6 (.bin .neq .ptr (.t 5) (.c (.c .nilp))),
 mV 7 6,
 mG 8 1 7 true,
 oG 9 (.bin .geq .num (.t 8) (cI 0)) 7 true,
 oP 10 (.pick (.t 7) (.t 9) (cB false)),
 mV 11 10,
 mG 12 1 11 true,
 mG 13 0 11 true,
 oG 14 (.nilck (.t 13)) 11 true,
 oG 15 (.faddr 9 (.t 14)) 11 true,
 oG 16 (lD 15) 11 true,
 oG 17 (.len .sl (.t 16)) 11 true,
 oG 18 (.bin .lss .num (.t 12) (.t 17)) 11 true,
 oP 19 (.pick (.t 11) (.t 18) (cB false)),
 mV 4 19])
 (.ret)))⟩
def n362:NF:=⟨32,[6],
 .seq (.region [
 oP 6 (.mov (cB false))])
 (kL [0,1,2] 0 (.seq (.seq (.region [
 mV 10 0,
 oP 11 (.len .sl (.t 10)),
 mV 12 1,
 oP 13 (.len .sl (.t 12)),
 oP 14 (.bin .neq .num (.t 11) (.t 13))])
 (kL [0,1,2,14] 0 (.cond (.t 14)
 (.seq (.region [
 oP 6 (.mov (cB false))])
 (.ret))
 (.skip))))
 (kL [0,1,2] 0 (.seq (.seq (.region [
 mV 15 0,
 oP 16 (.len .sl (.t 15)),
 oP 17 (.mov (cI 0))])
 (kL [1,2,15,16,17] 0 (.block 0 (.loop (kL [1,2,15,16,17] 0 (.seq (.region [
 oP 18 (.bin .lss .num (.t 17) (.t 16))])
 (kL [1,2,15,16,17,18] 0 (.seq (.cond (.t 18)
 (.skip)
 (.exit 0))
 (kL [1,2,15,16,17] 0 (.seq (.block 1 (.seq (.region [
 mV 19 17,
 oP 20 (iA 10 15 17),
 oP 21 (.load (some 10) (.t 20)),
 oP 8 (.box true 10 (.c (.agg [(.int .i64 0),(.int .i64 0),(.int .i64 0),(.int .i64 0),(.int .i64 0),(.int .i64 0),(.int .i64 0),(.int .i64 0),.nils,.nils]))),
 mV 7 19,
 oW (.store 10 (.t 8) (.t 21))])
 (kL [1,2,7,8,15,16,17] 1 (.seq (.region [
 mV 22 1,
 mV 23 7,
 oP 24 (iA 10 22 23),
 oP 25 (.load (some 10) (.t 24)),
 oP 9 (.box true 10 (.c (.agg [(.int .i64 0),(.int .i64 0),(.int .i64 0),(.int .i64 0),(.int .i64 0),(.int .i64 0),(.int .i64 0),(.int .i64 0),.nils,.nils]))),
 oW (.store 10 (.t 9) (.t 25))])
 (kL [1,2,8,9,15,16,17] 2 (.seq (.region [
 mV 26 2,
 oP 27 (.load (some 10) (.t 8)),
 oP 28 (.load (some 10) (.t 9)),
 oP 29 (.dyn (.t 26) [(.t 27),(.t 28)]),
 oP 30 (.un .not (.t 29))])
 (kL [1,2,15,16,17,30] 0 (.cond (.t 30)
 (.seq (.region [
 oP 6 (.mov (cB false))])
 (.ret))
 (.skip)))))))))
 (kL [1,2,15,16,17] 0 (.region [
 oP 31 (.bin .add .num (.t 17) (cI 1)),
 mV 17 31]))))))))))))
 (kL [] 0 (.seq (.region [
 oP 6 (.mov (cB true))])
 (.ret)))))))⟩
def n363:NF:=⟨38,[4],
 .seq (.region [
 oP 2 (.box true 10 (.t 0)),
 oP 3 (.box true 10 (.t 1)),
 oP 4 (.mov (cB false))])
 (kL [2,3] 2 (.seq (.region [
 oP 5 (.faddr 0 (.t 2)),
 oP 6 (lD 5),
 oP 7 (.faddr 0 (.t 3)),
 oP 8 (lD 7),
 oP 9 (.bin .eql .num (.t 6) (.t 8)),
 mV 10 9,
 oG 11 (.faddr 1 (.t 2)) 10 true,
 oG 12 (lD 11) 10 true,
 oG 13 (.faddr 1 (.t 3)) 10 true,
 oG 14 (lD 13) 10 true,
 oG 15 (.bin .eql .num (.t 12) (.t 14)) 10 true,
 oP 16 (.pick (.t 10) (.t 15) (cB false)),
 mV 17 16,
 oG 18 (.faddr 2 (.t 2)) 17 true,
 oG 19 (lD 18) 17 true,
 oG 20 (.faddr 2 (.t 3)) 17 true,
 oG 21 (lD 20) 17 true,
 oG 22 (.bin .eql .num (.t 19) (.t 21)) 17 true,
 oP 23 (.pick (.t 17) (.t 22) (cB false)),
 mV 24 23,
 oG 25 (.faddr 3 (.t 2)) 24 true,
 oG 26 (lD 25) 24 true,
 oG 27 (.faddr 3 (.t 3)) 24 true,
 oG 28 (lD 27) 24 true,
 oG 29 (.bin .eql .num (.t 26) (.t 28)) 24 true,
 oP 30 (.pick (.t 24) (.t 29) (cB false)),
 mV 31 30,
 oG 32 (.faddr 4 (.t 2)) 31 true,
 oG 33 (.load (some 6) (.t 32)) 31 true,
 oG 34 (.faddr 4 (.t 3)) 31 true,
 oG 35 (.load (some 6) (.t 34)) 31 true,
 oG 36 (.call 369 [(.t 33),(.t 35)]) 31 true,
 oP 37 (.pick (.t 31) (.t 36) (cB false)),
 mV 4 37])
 (.ret)))⟩
def n364:NF:=⟨47,[4],
 .seq (.region [
 oP 2 (.box true 6 (.t 0)),
 oP 3 (.box true 6 (.t 1)),
 oP 4 (.mov (cB false))])
 (kL [2,3] 2 (.seq (.region [
 oP 5 (.faddr 0 (.t 2)),
 oP 6 (lD 5),
 oP 7 (.faddr 0 (.t 3)),
 oP 8 (lD 7),
 oP 9 (.bin .eql .num (.t 6) (.t 8)),
 mV 10 9,
 oG 11 (.faddr 1 (.t 2)) 10 true,
 oG 12 (lD 11) 10 true,
 oG 13 (.faddr 1 (.t 3)) 10 true,
 oG 14 (lD 13) 10 true,
 oG 15 (.bin .eql .num (.t 12) (.t 14)) 10 true,
 oP 16 (.pick (.t 10) (.t 15) (cB false)),
 mV 17 16,
 oG 18 (.faddr 2 (.t 2)) 17 true,
 oG 19 (lD 18) 17 true,
 oG 20 (.faddr 2 (.t 3)) 17 true,
 oG 21 (lD 20) 17 true,
 oG 22 (.bin .eql .num (.t 19) (.t 21)) 17 true,
 oP 23 (.pick (.t 17) (.t 22) (cB false)),
 mV 24 23,
 oG 25 (.faddr 3 (.t 2)) 24 true,
 oG 26 (lD 25) 24 true,
 oG 27 (.faddr 3 (.t 3)) 24 true,
 oG 28 (lD 27) 24 true,
 oG 29 (.bin .eql .num (.t 26) (.t 28)) 24 true,
 oP 30 (.pick (.t 24) (.t 29) (cB false)),
 mV 31 30,
 oG 32 (.faddr 4 (.t 2)) 31 true,
 oG 33 (lD 32) 31 true,
 oG 34 (.faddr 4 (.t 3)) 31 true,
 oG 35 (lD 34) 31 true,
 oG 36 (.call 13 [(.t 33),(.t 35)]) 31 true,
 oP 37 (.pick (.t 31) (.t 36) (cB false)),
 mV 38 37,
 oG 39 (.faddr 5 (.t 2)) 38 true,
 oG 40 (lD 39) 38 true,
 oG 41 (.conv .bytesToStr (.t 40)) 38 true,
 oG 42 (.faddr 5 (.t 3)) 38 true,
 oG 43 (lD 42) 38 true,
 oG 44 (.conv .bytesToStr (.t 43)) 38 true,
 oG 45 (.bin .eql .str (.t 41) (.t 44)) 38 true,
 oP 46 (.pick (.t 38) (.t 45) (cB false)),
 mV 4 46])
 (.ret)))⟩
def n266:NF:=⟨72,[2],
 .seq (.region [
 oP 1 (.box true 9 (.t 0)),
 oP 2 (.mov (cB false))])
 (kL [1] 1 (.seq (.seq (.region [
 oP 5 (.faddr 0 (.t 1)),
 oP 6 (lD 5),
 oP 7 (.call 267 [(.t 6),(cI 2),(cI 16)]),
 oP 8 (.un .not (.t 7)),
 mV 9 8,
 oG 10 (.faddr 1 (.t 1)) 9 false,
 oG 11 (lD 10) 9 false,
 oG 12 (.len .sl (.t 11)) 9 false,
 oG 13 (.faddr 0 (.t 1)) 9 false,
 oG 14 (lD 13) 9 false,
 oG 15 (.bin .neq .num (.t 12) (.t 14)) 9 false,
 oP 16 (.pick (.t 9) (cB true) (.t 15)),
 mV 17 16,
 oG 18 (.faddr 2 (.t 1)) 17 false,
 oG 19 (lD 18) 17 false,
 oG 20 (.call 288 [(.t 19)]) 17 false,
 oG 21 (.un .not (.t 20)) 17 false,
 oP 22 (.pick (.t 17) (cB true) (.t 21))])
 (kL [1,22] 1 (.cond (.t 22)
 (.seq (.region [
 oP 2 (.mov (cB false))])
 (.ret))
 (.skip))))
 (kL [1] 1 (.seq (.seq (.region [
 oP 23 (.faddr 1 (.t 1)),
 oP 24 (lD 23),
 oP 25 (.len .sl (.t 24)),
 oP 26 (.mov (cI 0))])
 (kL [1,24,25,26] 1 (.block 0 (.loop (kL [1,24,25,26] 1 (.seq (.region [
 oP 27 (.bin .lss .num (.t 26) (.t 25))])
 (kL [1,24,25,26,27] 1 (.seq (.cond (.t 27)
 (.skip)
 (.exit 0))
 (kL [1,24,25,26] 1 (.seq (.block 1 (.seq (.region [
 mV 28 26,
 oP 29 (iA 1 24 26),
 oP 30 (lD 29),
 mV 3 28,
 mV 4 30])
 (kL [1,3,4,24,25,26] 1 (.seq (.region [
 mV 31 4,
 mV 32 3,
 oP 33 (.bin .shr .num (.t 31) (.t 32)),
 oP 34 (.bin .and .num (.t 33) (.c (.c (.int .u64 1)))),
 oP 35 (.bin .neq .num (.t 34) (.c (.c (.int .u64 0)))),
 mV 36 35,
 mG 37 4 36 false,
 oG 38 (.faddr 0 (.t 1)) 36 false,
 oG 39 (lD 38) 36 false,
 oG 40 (.bin .shr .num (.t 37) (.t 39)) 36 false,
 oG 41 (.bin .neq .num (.t 40) (.c (.c (.int .u64 0)))) 36 false,
 oP 42 (.pick (.t 36) (cB true) (.t 41))])
 (kL [1,24,25,26,42] 1 (.cond (.t 42)
 (.seq (.region [
 oP 2 (.mov (cB false))])
 (.ret))
 (.skip)))))))
 (kL [1,24,25,26] 1 (.region [
 oP 43 (.bin .add .num (.t 26) (cI 1)),
 mV 26 43]))))))))))))
 (kL [1] 1 (.seq (.region [
 oP 44 (.faddr 3 (.t 1)),
 oP 45 (lD 44),
 oP 46 (.call 267 [(.t 45),(cI 1),(cI 4000)]),
 mV 47 46,
 oG 48 (.faddr 4 (.t 1)) 47 true,
 oG 49 (lD 48) 47 true,
 oG 50 (.call 267 [(.t 49),(cI 0),(cI 1000)]) 47 true,
 oP 51 (.pick (.t 47) (.t 50) (cB false)),
 mV 52 51,
 oG 53 (.faddr 5 (.t 1)) 52 true,
 oG 54 (lD 53) 52 true,
 oG 55 (.call 267 [(.t 54),(cI 1),(cI 10000)]) 52 true,
 oP 56 (.pick (.t 52) (.t 55) (cB false)),
 mV 57 56,
 oG 58 (.faddr 6 (.t 1)) 57 true,
 oG 59 (lD 58) 57 true,
 oG 60 (.call 267 [(.t 59),(cI 1),(cI 10000)]) 57 true,
 oP 61 (.pick (.t 57) (.t 60) (cB false)),
 mV 62 61,
 oG 63 (.faddr 7 (.t 1)) 62 true,
 oG 64 (lD 63) 62 true,
 oG 65 (.call 267 [(.t 64),(cI 1),(cI 32)]) 62 true,
 oP 66 (.pick (.t 62) (.t 65) (cB false)),
 mV 67 66,
 oG 68 (.faddr 8 (.t 1)) 67 true,
 oG 69 (lD 68) 67 true,
 oG 70 (.call 267 [(.t 69),(cI 1),(cI 15)]) 67 true,
 oP 71 (.pick (.t 67) (.t 70) (cB false)),
 mV 2 71])
 (.ret)))))))⟩
def n268:NF:=⟨8,[2],
 .seq (.region [
 oP 2 (.mov (.c (.c .nils)))])
 (kL [0] 0 (.seq (.seq (.region [
 mV 3 0,
 oP 4 (.bin .eql .sl (.t 3) (.c (.c .nils)))])
 (kL [0,4] 0 (.cond (.t 4)
 (.seq (.region [
 oP 2 (.mov (.c (.c .nils)))])
 (.ret))
 (.skip))))
 (kL [0] 0 (.seq (.region [
 oP 5 (.bslice false 1 0 [(.int .u64 0)] []),
 mV 6 0,
 oP 7 (.app 1 8 (.t 5) (.t 6)),
 mV 2 7])
 (.ret)))))⟩
def n203:NF:=⟨8,[2],
 .seq (.region [
 oP 2 (.mov (.c (.c .nils)))])
 (kL [0] 0 (.seq (.seq (.region [
 mV 3 0,
 oP 4 (.bin .eql .sl (.t 3) (.c (.c .nils)))])
 (kL [0,4] 0 (.cond (.t 4)
 (.seq (.region [
 oP 2 (.mov (.c (.c .nils)))])
 (.ret))
 (.skip))))
 (kL [0] 0 (.seq (.region [
 oP 5 (.bslice false 1 0 [(.int .i64 0)] []),
 mV 6 0,
 oP 7 (.app 1 8 (.t 5) (.t 6)),
 mV 2 7])
 (.ret)))))⟩
def n260:NF:=⟨38,[4],
 .seq (.region [
 oP 2 (.box true 9 (.t 0)),
 oP 4 (.mov (.c (.c .nilp)))])
 (kL [1,2] 1 (.seq (.seq (.region [
 oP 5 (.load (some 9) (.t 2)),
 oP 6 (.call 266 [(.t 5)]),
 oP 7 (.un .not (.t 6)),
 mV 8 7,
 mG 9 1 8 false,
 oG 10 (.faddr 0 (.t 2)) 8 false,
 oG 11 (lD 10) 8 false,
 oG 12 (.bin .sub .num (.t 11) (cI 1)) 8 false,
 oG 13 (.call 267 [(.t 9),(cI 0),(.t 12)]) 8 false,
 oG 14 (.un .not (.t 13)) 8 false,
 oP 15 (.pick (.t 8) (cB true) (.t 14))])
 (kL [1,2,15] 1 (.cond (.t 15)
 (.seq (.region [
 oP 4 (.mov (.c (.c .nilp)))])
 (.ret))
 (.skip))))
 (kL [1,2] 1 (.seq (.draw 0 [
 ⟨0,none,(oP 16 (.faddr 1 (.t 2))),[]⟩,
 ⟨1,none,(oP 17 (lD 16)),[]⟩,
 ⟨3,none,(oP 19 (.faddr 2 (.t 2))),[]⟩,
 ⟨4,none,(oP 20 (lD 19)),[]⟩,
 ⟨2,none,(oP 18 (.call 268 [(.t 17)])),[(4,(oP 20 (lD 19)))]⟩,
 ⟨6,none,(oP 22 (.faddr 1 (.t 2))),[]⟩,
 ⟨5,none,(oP 21 (.call 203 [(.t 20)])),[]⟩,
 ⟨7,none,(oW (.store 1 (.t 22) (.t 18))),[]⟩,
 ⟨8,none,(oP 23 (.faddr 2 (.t 2))),[]⟩,
 ⟨9,none,(oW (.store 1 (.t 23) (.t 21))),[]⟩])
 (kL [1,2] 1 (.seq (.draw 2 [
 ⟨0,none,(oP 24 (.load (some 9) (.t 2))),[]⟩,
 ⟨1,none,(mV 25 1),[]⟩,
 ⟨3,none,(oP 27 (.faddr 7 (.t 2))),[]⟩,
 ⟨4,none,(oP 28 (lD 27)),[]⟩,
 ⟨9,none,(mV 33 1),[]⟩,
 ⟨10,none,(oP 34 (.bin .eql .num (.t 33) (cI 0))),[]⟩,
 ⟨2,none,(oP 26 (.call 269 [])),[(0,(oP 24 (.load (some 9) (.t 2)))),(4,(oP 28 (lD 27)))]⟩,
 ⟨5,none,(oP 29 (.call 270 [(.t 28)])),[(0,(oP 24 (.load (some 9) (.t 2))))]⟩,
 ⟨6,none,(oP 30 (.call 271 [])),[(0,(oP 24 (.load (some 9) (.t 2))))]⟩,
 ⟨7,none,(oP 31 (.call 271 [])),[(0,(oP 24 (.load (some 9) (.t 2))))]⟩,
 ⟨8,none,(oP 32 (.call 271 [])),[(0,(oP 24 (.load (some 9) (.t 2))))]⟩,
 ⟨11,(some 0),⟨(some 35),.mkmap,none⟩,[]⟩,
 ⟨12,none,(oP 36 (.build [(.int .i64 0),.nils,.nils,(.int .i64 0),(.int .i64 0),(.int .i64 0),(.int .i64 0),(.int .i64 0),(.int .i64 0),(.int .i64 0),.nilp,.nilp,.nilp,.nilp,.nilp,(.int .i64 0),(.int .i64 0),(.int .i64 0),(.bool false),.nilp,.nilp,(.int .i64 0),.nilm,(.int .i64 0),(.int .i64 0),(.int .i64 0),(.int .i64 0),(.int .i64 0),.nils,.nils,(.bool false),.nils] [(0,(9,(.t 24))),(9,(1,(.t 25))),(10,(1,(.t 26))),(11,(1,(.t 29))),(12,(1,(.t 30))),(13,(1,(.t 31))),(14,(1,(.t 32))),(16,(1,(cI (-1)))),(18,(1,(.t 34))),(22,(1,(.t 35)))])),[]⟩,
 ⟨13,(some 1),(oP 37 (.box false 32 (.t 36))),[]⟩,
 ⟨14,none,(mV 4 37),[]⟩])
 (.ret)))))))⟩
def n66:NF:=⟨9,[2],
 .seq (.region [
 oP 2 (.mov (cI 0))])
 (kL [0] 0 (.seq (.seq (.region [
 mV 3 0,
 oP 4 (.bin .eql .ptr (.t 3) (.c (.c .nilp)))])
 (kL [0,4] 0 (.cond (.t 4)
 (.seq (.region [
 oP 2 (.mov (cI 0))])
 (.ret))
 (.skip))))
 (kL [0] 0 (.seq (.region [
 mV 5 0,
 oP 6 (.nilck (.t 5)),
 oP 7 (.faddr 1 (.t 6)),
 oP 8 (lD 7),
 mV 2 8])
 (.ret)))))⟩
def n365:NF:=⟨60,[4],
 .seq (.region [
 oP 3 (.box true 8 (.t 1)),
 oP 4 (.mov (.c (.c .nils)))])
 (kL [0,3] 1 (.seq (.seq (.region [
 mV 7 0,
 oP 8 (.nilck (.t 7)),
 oP 9 (.faddr 9 (.t 8)),
 oP 10 (lD 9),
 oP 11 (.len .sl (.t 10)),
 oP 12 (.mov (cI 0))])
 (kL [0,3,10,11,12] 1 (.block 0 (.loop (kL [0,3,10,11,12] 1 (.seq (.region [
 oP 13 (.bin .lss .num (.t 12) (.t 11))])
 (kL [0,3,10,11,12,13] 1 (.seq (.cond (.t 13)
 (.skip)
 (.exit 0))
 (kL [0,3,10,11,12] 1 (.seq (.block 1 (.seq (.region [
 mV 14 12,
 oP 15 (iA 1 10 12),
 oP 16 (lD 15),
 mV 5 14,
 mV 6 16])
 (kL [0,3,5,6,10,11,12] 1 (.seq (.draw 0 [
 ⟨0,none,(mV 17 6),[]⟩,
 ⟨1,none,(mV 18 0),[]⟩,
 ⟨2,none,(oP 19 (.nilck (.t 18))),[]⟩,
 ⟨3,none,(oP 20 (.faddr 10 (.t 19))),[]⟩,
 ⟨4,none,(oP 21 (lD 20)),[]⟩,
 ⟨5,none,(oP 22 (.faddr 3 (.t 3))),[]⟩,
 ⟨6,none,(oP 23 (lD 22)),[]⟩,
 ⟨7,none,(mV 24 5),[]⟩,
 ⟨8,none,(oP 25 (.call 370 [(.t 23),(.t 24)])),[(4,(oP 21 (lD 20)))]⟩,
 ⟨9,none,(oP 26 (.call 341 [(.t 17),(.t 21),(.t 25)])),[]⟩])
 (kL [0,3,5,10,11,12] 1 (.seq (.region [
 mV 27 5,
 oP 28 (.bin .gtr .num (.t 27) (cI 0)),
 mV 29 28,
 mG 30 0 29 true,
 oG 31 (.nilck (.t 30)) 29 true,
 oG 32 (.faddr 11 (.t 31)) 29 true,
 oG 33 (lD 32) 29 true,
 mG 34 5 29 true,
 oG 35 (iA 1 33 34) 29 true,
 oG 36 (lD 35) 29 true,
 oG 37 (.bin .geq .num (.t 36) (cI 0)) 29 true,
 oP 38 (.pick (.t 29) (.t 37) (cB false))])
 (kL [0,3,5,10,11,12,38] 1 (.cond (.t 38)
 (.draw 0 [
 ⟨0,none,(mV 39 0),[]⟩,
 ⟨1,none,(oP 40 (.nilck (.t 39))),[]⟩,
 ⟨2,none,(oP 41 (.faddr 11 (.t 40))),[]⟩,
 ⟨3,none,(oP 42 (lD 41)),[]⟩,
 ⟨4,none,(mV 43 5),[]⟩,
 ⟨5,none,(mV 44 0),[]⟩,
 ⟨6,none,(oP 45 (.nilck (.t 44))),[]⟩,
 ⟨7,none,(oP 46 (.faddr 11 (.t 45))),[]⟩,
 ⟨8,none,(oP 47 (lD 46)),[]⟩,
 ⟨9,none,(mV 48 5),[]⟩,
 ⟨10,none,(oP 49 (iA 1 47 48)),[]⟩,
 ⟨11,none,(oP 50 (lD 49)),[]⟩,
 ⟨12,none,(oP 51 (.bin .add .num (.t 50) (cI 1))),[]⟩,
 ⟨13,none,(oP 52 (.min [(.t 51),(cI 1000000000000)])),[]⟩,
 ⟨14,none,(oP 53 (iA 1 42 43)),[]⟩,
 ⟨15,none,(oW (.store 1 (.t 53) (.t 52))),[]⟩])
 (.skip)))))))))
 (kL [0,3,10,11,12] 1 (.region [
 oP 54 (.bin .add .num (.t 12) (cI 1)),
 mV 12 54]))))))))))))
 (kL [0] 0 (.seq (.region [
 mV 55 0,
 oP 56 (.nilck (.t 55)),
 oP 57 (.faddr 11 (.t 56)),
 oP 58 (lD 57),
 oP 59 (.call 371 [(.t 58)]),
 mV 4 59])
 (.ret)))))⟩
def n262:NF:=⟨96,[4,5],
 .seq (.region [
 oP 4 (.mov (cI 0)),
 oP 5 (.mov (.c (.c .nils)))])
 (kL [0,1] 0 (.seq (.block 0 (.seq (.region [
 mV 11 0,
 oP 12 (.bin .eql .ptr (.t 11) (.c (.c .nilp))),
 mV 13 12,
 mG 14 1 13 false,
 oG 15 (.call 272 [(.t 14)]) 13 false,
 oG 16 (.un .not (.t 15)) 13 false,
 oP 17 (.pick (.t 13) (cB true) (.t 16)),
 mV 10 17])
 (kL [0,1,10] 0 (.cond (.t 10)
 (.seq (.region [
 oP 4 (.mov (cI (-1))),
 oP 5 (.mov (.c (.c .nils)))])
 (.ret))
 (.seq (.region [
 mV 19 0,
 oP 20 (.nilck (.t 19)),
 oP 21 (.faddr 18 (.t 20)),
 oP 22 (lD 21),
 oP 23 (.un .not (.t 22)),
 mV 18 23])
 (kL [0,1,18] 0 (.cond (.t 18)
 (.seq (.draw 0 [
 ⟨0,none,(mV 24 0),[]⟩,
 ⟨1,none,(oP 25 (.nilck (.t 24))),[]⟩,
 ⟨2,none,(oP 26 (.faddr 0 (.t 25))),[]⟩,
 ⟨3,none,(oP 27 (.faddr 2 (.t 26))),[]⟩,
 ⟨4,none,(oP 28 (lD 27)),[]⟩,
 ⟨5,none,(mV 29 0),[]⟩,
 ⟨6,none,(oP 30 (.nilck (.t 29))),[]⟩,
 ⟨7,none,(oP 31 (.faddr 10 (.t 30))),[]⟩,
 ⟨8,none,(oP 32 (lD 31)),[]⟩,
 ⟨10,none,(mV 34 0),[]⟩,
 ⟨11,none,(oP 35 (.nilck (.t 34))),[]⟩,
 ⟨12,none,(oP 36 (.faddr 0 (.t 35))),[]⟩,
 ⟨13,none,(oP 37 (.faddr 0 (.t 36))),[]⟩,
 ⟨14,none,(oP 38 (lD 37)),[]⟩,
 ⟨15,none,(mV 39 0),[]⟩,
 ⟨16,none,(oP 40 (.nilck (.t 39))),[]⟩,
 ⟨17,none,(oP 41 (.faddr 0 (.t 40))),[]⟩,
 ⟨18,none,(oP 42 (.faddr 2 (.t 41))),[]⟩,
 ⟨19,none,(oP 43 (lD 42)),[]⟩,
 ⟨20,none,(oP 44 (.len .sl (.t 43))),[]⟩,
 ⟨21,none,(oP 45 (.bin .mul .num (.t 38) (.t 44))),[]⟩,
 ⟨9,none,(oP 33 (.call 277 [(.t 32)])),[(4,(oP 28 (lD 27))),(14,(oP 38 (lD 37))),(19,(oP 43 (lD 42))),(20,(oP 44 (.len .sl (.t 43))))]⟩,
 ⟨22,none,(oP 46 (.bin .quo .num (.t 33) (.t 45))),[]⟩,
 ⟨23,none,(oP 47 (.call 278 [(.t 28),(.c (.c (.int .u32 0))),(.t 46),(cI 0)])),[]⟩,
 ⟨24,none,(mV 4 47),[]⟩,
 ⟨25,none,(oP 5 (.mov (.c (.c .nils)))),[]⟩])
 (.ret))
 (.skip))))))))
 (kL [0,1] 0 (.seq (.region [
 mV 48 0,
 oP 49 (.nilck (.t 48)),
 oP 50 (.faddr 0 (.t 49)),
 oP 51 (.faddr 2 (.t 50)),
 oP 52 (lD 51),
 mV 53 1,
 oP 54 (.call 278 [(.t 52),(.c (.c (.int .u32 0))),(.t 53),(cI 0)]),
 mV 6 54])
 (kL [0,1,6] 0 (.seq (.seq (.draw 0 [
 ⟨0,none,(mV 55 1),[]⟩,
 ⟨1,none,(mV 56 0),[]⟩,
 ⟨2,none,(oP 57 (.nilck (.t 56))),[]⟩,
 ⟨3,none,(oP 58 (.faddr 0 (.t 57))),[]⟩,
 ⟨4,none,(oP 59 (.faddr 0 (.t 58))),[]⟩,
 ⟨5,none,(oP 60 (lD 59)),[]⟩,
 ⟨6,none,(oP 61 (.bin .rem .num (.t 55) (.t 60))),[]⟩,
 ⟨7,none,(mV 62 0),[]⟩,
 ⟨8,none,(oP 63 (.nilck (.t 62))),[]⟩,
 ⟨9,none,(oP 64 (.faddr 9 (.t 63))),[]⟩,
 ⟨10,none,(oP 65 (lD 64)),[]⟩,
 ⟨11,none,(oP 66 (.bin .neq .num (.t 61) (.t 65))),[]⟩])
 (kL [0,1,6,66] 0 (.cond (.t 66)
 (.seq (.region [
 mV 67 6,
 mV 4 67,
 oP 5 (.mov (.c (.c .nils)))])
 (.ret))
 (.skip))))
 (kL [0,1,6] 0 (.seq (.region [
 mV 68 0,
 mV 69 1,
 oP 70 (.call 279 [(.t 68),(.t 69)]),
 oP 7 (.box true 6 (.c (.agg [(.int .i64 0),(.int .i64 0),(.int .i64 0),(.int .i64 0),.nils,.nils]))),
 oW (.store 6 (.t 7) (.t 70))])
 (kL [0,1,6,7] 1 (.seq (.region [
 oP 72 (.load (some 6) (.t 7)),
 oP 73 (.call 280 [(.t 72)]),
 mV 71 73,
 oP 74 (.ext (.t 71) 0),
 oP 75 (.ext (.t 71) 1),
 mV 8 74,
 mV 9 75])
 (kL [0,1,6,7,8] 1 (.seq (.region [
 mV 76 0,
 mV 77 0,
 oP 78 (.nilck (.t 77)),
 oP 79 (.faddr 15 (.t 78)),
 oP 80 (lD 79),
 oP 81 (.bin .add .num (.t 80) (cI 1)),
 oP 82 (.bin .rem .num (.t 81) (cI 256)),
 oP 83 (.nilck (.t 76)),
 oP 84 (.faddr 15 (.t 83)),
 oW (.store 1 (.t 84) (.t 82))])
 (kL [0,1,6,7,8] 1 (.seq (.region [
 mV 85 0,
 mV 86 1,
 oP 87 (.load (some 6) (.t 7)),
 oP 88 (.faddr 0 (.t 7)),
 oP 89 (lD 88),
 oP 90 (.bin .neq .num (.t 89) (cI 3)),
 oP 91 (.build [(.int .i64 0),(.int .i64 0),(.int .i64 0),(.int .i64 0),(.int .i64 0),.nils,.nils,(.bool false)] [(0,(1,(.t 86))),(1,(6,(.t 87))),(7,(1,(.t 90)))]),
 oP 92 (.nilck (.t 85)),
 oP 93 (.faddr 23 (.t 92)),
 oW (.store 8 (.t 93) (.t 91))])
 (kL [6,8] 0 (.seq (.region [
 mV 94 6,
 mV 95 8,
 mV 4 94,
 mV 5 95])
 (.ret)))))))))))))))))⟩
def n347:NF:=⟨10,[2],
 .seq (.region [
 oP 2 (.mov (cI 0))])
 (kL [0] 0 (.seq (.seq (.region [
 mV 3 0,
 oP 4 (.bin .eql .ptr (.t 3) (.c (.c .nilp)))])
 (kL [0,4] 0 (.cond (.t 4)
 (.seq (.region [
 oP 2 (.mov (cI 0))])
 (.ret))
 (.skip))))
 (kL [0] 0 (.seq (.region [
 mV 5 0,
 oP 6 (.nilck (.t 5)),
 oP 7 (.faddr 10 (.t 6)),
 oP 8 (lD 7),
 oP 9 (.call 372 [(.t 8)]),
 mV 2 9])
 (.ret)))))⟩
def n366:NF:=⟨114,[8],
 .seq (.region [
 oP 5 (.box true 8 (.t 1)),
 oP 8 (.mov (.c (.c .nils)))])
 (kL [0,2,3,5] 1 (.seq (.region [
 mV 17 0,
 oP 18 (.nilck (.t 17)),
 oP 19 (.faddr 9 (.t 18)),
 oP 20 (lD 19),
 oP 21 (.len .sl (.t 20)),
 oP 22 (.mkslice 1 24 [.nils] (.t 21) (.t 21)),
 mV 9 22])
 (kL [0,2,3,5,9] 1 (.seq (.seq (.region [
 mV 23 0,
 oP 24 (.nilck (.t 23)),
 oP 25 (.faddr 9 (.t 24)),
 oP 26 (lD 25),
 oP 27 (.len .sl (.t 26)),
 oP 28 (.mov (cI 0))])
 (kL [0,2,3,5,9,26,27,28] 1 (.block 0 (.loop (kL [0,2,3,5,9,26,27,28] 1 (.seq (.region [
 oP 29 (.bin .lss .num (.t 28) (.t 27))])
 (kL [0,2,3,5,9,26,27,28,29] 1 (.seq (.cond (.t 29)
 (.skip)
 (.exit 0))
 (kL [0,2,3,5,9,26,27,28] 1 (.seq (.block 1 (.seq (.region [
 mV 30 28,
 oP 31 (iA 1 26 28),
 oP 32 (lD 31),
 mV 10 30,
 mV 11 32])
 (kL [0,2,3,5,9,10,11,26,27,28] 1 (.seq (.seq (.region [
 mV 33 2,
 mV 34 10,
 oP 35 (iA 3 33 34),
 oP 36 (.faddr 1 (.t 35)),
 oP 37 (lD 36),
 oP 38 (.len .sl (.t 37)),
 oP 39 (.bin .gtr .num (.t 38) (cI 0))])
 (kL [0,2,3,5,9,10,11,26,27,28,39] 1 (.cond (.t 39)
 (.exit 1)
 (.skip))))
 (kL [0,2,3,5,9,10,11,26,27,28] 1 (.seq (.region [
 mV 40 0,
 oP 41 (.nilck (.t 40)),
 oP 42 (.faddr 12 (.t 41)),
 oP 43 (lD 42),
 mV 44 10,
 oP 45 (.look (.int .i64) (.c .nils) false (.t 43) (.t 44)),
 mV 46 10,
 mV 12 45,
 mV 13 46])
 (kL [0,2,3,5,9,10,11,12,13,26,27,28] 1 (.seq (.seq (.region [
 mV 47 0,
 oP 48 (.load (some 8) (.t 5)),
 mV 49 10,
 mV 50 2,
 oP 51 (.call 373 [(.t 47),(.t 48),(.t 49),(.t 50)]),
 mV 14 51])
 (kL [0,2,3,5,9,10,11,12,13,14,26,27,28] 1 (.block 2 (.seq (.region [
 mV 53 14,
 oP 54 (.len .sl (.t 53)),
 oP 55 (.bin .gtr .num (.t 54) (cI 1)),
 mV 52 55])
 (kL [0,2,3,5,9,10,11,12,13,14,26,27,28,52] 1 (.cond (.t 52)
 (.exit 1)
 (.seq (.region [
 mV 57 14,
 oP 58 (.len .sl (.t 57)),
 oP 59 (.bin .eql .num (.t 58) (cI 1)),
 mV 56 59])
 (kL [0,2,3,5,9,10,11,12,13,14,26,27,28,56] 1 (.cond (.t 56)
 (.seq (.region [
 mV 60 14,
 oP 61 (.iaddr 1 (.t 60) (cI 0)),
 oP 62 (lD 61),
 mV 13 62])
 (kL [0,2,3,5,9,10,11,13,26,27,28] 1 (.region [
 mV 63 2,
 mV 64 13,
 oP 65 (iA 3 63 64),
 oP 66 (.faddr 1 (.t 65)),
 oP 67 (lD 66),
 mV 12 67])))
 (.seq (.region [
 mV 69 12,
 oP 70 (.bin .eql .sl (.t 69) (.c (.c .nils))),
 mV 68 70])
 (kL [0,2,3,5,9,10,11,12,13,26,27,28,68] 1 (.cond (.t 68)
 (.exit 1)
 (.skip)))))))))))))
 (kL [0,2,3,5,9,10,11,12,13,26,27,28] 1 (.seq (.draw 0 [
 ⟨0,none,(mV 72 11),[]⟩,
 ⟨1,none,(mV 73 0),[]⟩,
 ⟨2,none,(oP 74 (.nilck (.t 73))),[]⟩,
 ⟨3,none,(oP 75 (.faddr 10 (.t 74))),[]⟩,
 ⟨4,none,(oP 76 (lD 75)),[]⟩,
 ⟨5,none,(mV 77 12),[]⟩,
 ⟨6,none,(mV 78 2),[]⟩,
 ⟨7,none,(mV 79 10),[]⟩,
 ⟨8,none,(oP 80 (iA 3 78 79)),[]⟩,
 ⟨9,none,(oP 81 (.faddr 2 (.t 80))),[]⟩,
 ⟨10,none,(oP 82 (lD 81)),[]⟩,
 ⟨11,none,(mV 83 2),[]⟩,
 ⟨12,none,(mV 84 13),[]⟩,
 ⟨13,none,(oP 85 (iA 3 83 84)),[]⟩,
 ⟨14,none,(oP 86 (.faddr 2 (.t 85))),[]⟩,
 ⟨15,none,(oP 87 (lD 86)),[]⟩,
 ⟨16,none,(oP 88 (.faddr 6 (.t 5))),[]⟩,
 ⟨17,none,(oP 89 (lD 88)),[]⟩,
 ⟨18,none,(mV 90 10),[]⟩,
 ⟨20,none,(mV 92 0),[]⟩,
 ⟨21,none,(oP 93 (.nilck (.t 92))),[]⟩,
 ⟨22,none,(oP 94 (.faddr 0 (.t 93))),[]⟩,
 ⟨23,none,(oP 95 (.faddr 4 (.t 94))),[]⟩,
 ⟨24,none,(oP 96 (lD 95)),[]⟩,
 ⟨19,none,(oP 91 (.call 370 [(.t 89),(.t 90)])),[(4,(oP 76 (lD 75))),(8,(oP 80 (iA 3 78 79))),(10,(oP 82 (lD 81))),(13,(oP 85 (iA 3 83 84))),(15,(oP 87 (lD 86))),(24,(oP 96 (lD 95)))]⟩,
 ⟨25,none,(oP 97 (.call 374 [(.t 82),(.t 87),(.t 91),(.t 96)])),[(4,(oP 76 (lD 75)))]⟩,
 ⟨26,none,(oP 98 (.call 343 [(.t 72),(.t 76),(.t 77),(.t 97)])),[]⟩,
 ⟨27,none,(mV 71 98),[]⟩,
 ⟨28,none,(oP 99 (.ext (.t 71) 0)),[]⟩,
 ⟨29,none,(oP 100 (.ext (.t 71) 1)),[]⟩,
 ⟨30,none,(mV 15 99),[]⟩,
 ⟨31,none,(mV 16 100),[]⟩])
 (kL [0,2,3,5,9,10,13,15,16,26,27,28] 1 (.seq (.region [
 mV 101 0,
 mV 102 16,
 mV 103 3,
 oP 104 (.call 368 [(.t 101),(.t 102),(.t 103)])])
 (kL [0,2,3,5,9,10,13,15,26,27,28] 1 (.seq (.region [
 mV 105 13,
 mV 106 10,
 oP 107 (.bin .neq .num (.t 105) (.t 106))])
 (kL [0,2,3,5,9,10,15,26,27,28,107] 1 (.cond (.t 107)
 (.region [
 mV 108 9,
 mV 109 10,
 mV 110 15,
 oP 111 (iA 1 108 109),
 oW (.store 1 (.t 111) (.t 110))])
 (.skip)))))))))))))))))
 (kL [0,2,3,5,9,26,27,28] 1 (.region [
 oP 112 (.bin .add .num (.t 28) (cI 1)),
 mV 28 112]))))))))))))
 (kL [9] 0 (.seq (.region [
 mV 113 9,
 mV 8 113])
 (.ret)))))))⟩
def n368:NF:=⟨66,[],
 .seq (.seq (.region [
 mV 9 1,
 oP 10 (.len .sl (.t 9)),
 oP 11 (.mov (cI 0))])
 (kL [0,1,2,9,10,11] 0 (.block 0 (.loop (kL [0,1,2,9,10,11] 0 (.seq (.region [
 oP 12 (.bin .lss .num (.t 11) (.t 10))])
 (kL [0,1,2,9,10,11,12] 0 (.seq (.cond (.t 12)
 (.skip)
 (.exit 0))
 (kL [0,1,2,9,10,11] 0 (.seq (.block 1 (.seq (.region [
 oP 13 (iA 10 9 11),
 oP 14 (.load (some 10) (.t 13)),
 oP 7 (.box true 10 (.c (.agg [(.int .i64 0),(.int .i64 0),(.int .i64 0),(.int .i64 0),(.int .i64 0),(.int .i64 0),(.int .i64 0),(.int .i64 0),.nils,.nils]))),
 oW (.store 10 (.t 7) (.t 14))])
 (kL [0,1,2,7,9,10,11] 1 (.seq (.region [
 oP 15 (.faddr 0 (.t 7)),
 oP 16 (lD 15)])
 (kL [0,1,2,7,9,10,11,16] 1 (.block 2 (.seq (.region [
 oP 18 (.bin .eql .num (.t 16) (cI 7)),
 mV 17 18])
 (kL [0,1,2,7,9,10,11,16,17] 1 (.cond (.t 17)
 (.seq (.draw 0 [
 ⟨0,none,(mV 19 0),[]⟩,
 ⟨1,none,(oP 20 (.nilck (.t 19))),[]⟩,
 ⟨2,none,(oP 21 (.faddr 11 (.t 20))),[]⟩,
 ⟨3,none,(oP 22 (lD 21)),[]⟩,
 ⟨4,none,(oP 23 (.faddr 1 (.t 7))),[]⟩,
 ⟨5,none,(oP 24 (lD 23)),[]⟩,
 ⟨6,none,(oP 25 (iA 1 22 24)),[]⟩,
 ⟨7,none,(oW (.store 1 (.t 25) (cI (-1)))),[]⟩])
 (kL [0,1,2,7,9,10,11] 1 (.seq (.region [
 mV 26 2,
 oP 27 (.faddr 2 (.t 7)),
 oP 28 (lD 27),
 oP 29 (iA 1 26 28),
 oP 30 (lD 29),
 mV 8 30])
 (kL [0,1,2,7,8,9,10,11] 1 (.seq (.region [
 mV 31 8,
 oP 32 (.bin .geq .num (.t 31) (cI 0))])
 (kL [0,1,2,7,8,9,10,11,32] 1 (.cond (.t 32)
 (.draw 0 [
 ⟨0,none,(mV 33 0),[]⟩,
 ⟨1,none,(oP 34 (.nilck (.t 33))),[]⟩,
 ⟨2,none,(oP 35 (.faddr 11 (.t 34))),[]⟩,
 ⟨3,none,(oP 36 (lD 35)),[]⟩,
 ⟨4,none,(oP 37 (.faddr 1 (.t 7))),[]⟩,
 ⟨5,none,(oP 38 (lD 37)),[]⟩,
 ⟨6,none,(mV 39 8),[]⟩,
 ⟨7,none,(mV 40 0),[]⟩,
 ⟨8,none,(oP 41 (.nilck (.t 40))),[]⟩,
 ⟨9,none,(oP 42 (.faddr 0 (.t 41))),[]⟩,
 ⟨10,none,(oP 43 (.faddr 4 (.t 42))),[]⟩,
 ⟨11,none,(oP 44 (lD 43)),[]⟩,
 ⟨12,none,(oP 45 (.bin .add .num (.t 39) (.t 44))),[]⟩,
 ⟨13,none,(oP 46 (iA 1 36 38)),[]⟩,
 ⟨14,none,(oW (.store 1 (.t 46) (.t 45))),[]⟩])
 (.skip))))))))
 (.seq (.region [
 oP 48 (.bin .eql .num (.t 16) (cI 3)),
 mV 47 48])
 (kL [0,1,2,7,9,10,11,47] 1 (.cond (.t 47)
 (.draw 0 [
 ⟨0,none,(mV 49 0),[]⟩,
 ⟨1,none,(oP 50 (.nilck (.t 49))),[]⟩,
 ⟨2,none,(oP 51 (.faddr 11 (.t 50))),[]⟩,
 ⟨3,none,(oP 52 (lD 51)),[]⟩,
 ⟨4,none,(oP 53 (.faddr 1 (.t 7))),[]⟩,
 ⟨5,none,(oP 54 (lD 53)),[]⟩,
 ⟨6,none,(oP 55 (iA 1 52 54)),[]⟩,
 ⟨7,none,(oW (.store 1 (.t 55) (cI (-1)))),[]⟩])
 (.skip)))))))))))))
 (kL [0,1,2,9,10,11] 0 (.region [
 oP 56 (.bin .add .num (.t 11) (cI 1)),
 mV 11 56]))))))))))))
 (kL [0,1] 0 (.region [
 mV 57 0,
 mV 58 0,
 oP 59 (.nilck (.t 58)),
 oP 60 (.faddr 13 (.t 59)),
 oP 61 (lD 60),
 mV 62 1,
 oP 63 (.app 10 112 (.t 61) (.t 62)),
 oP 64 (.nilck (.t 57)),
 oP 65 (.faddr 13 (.t 64)),
 oW (.store 1 (.t 65) (.t 63))]))⟩
def n344:NF:=⟨137,[8],
 .seq (.region [
 oP 8 (.mov (.c (.c .nils)))])
 (kL [0,1,2] 0 (.seq (.seq (.region [
 mV 16 0,
 oP 17 (.bin .eql .ptr (.t 16) (.c (.c .nilp))),
 mV 18 17,
 mG 19 0 18 false,
 oG 20 (.nilck (.t 19)) 18 false,
 oG 21 (.faddr 18 (.t 20)) 18 false,
 oG 22 (lD 21) 18 false,
 oG 23 (.un .not (.t 22)) 18 false,
 oP 24 (.pick (.t 18) (cB true) (.t 23)),
 mV 25 24,
 mG 26 0 25 false,
 oG 27 (.nilck (.t 26)) 25 false,
 oG 28 (.faddr 23 (.t 27)) 25 false,
 oG 29 (.faddr 7 (.t 28)) 25 false,
 oG 30 (lD 29) 25 false,
 oG 31 (.un .not (.t 30)) 25 false,
 oP 32 (.pick (.t 25) (cB true) (.t 31)),
 mV 33 32,
 mG 34 0 33 false,
 oG 35 (.nilck (.t 34)) 33 false,
 oG 36 (.faddr 23 (.t 35)) 33 false,
 oG 37 (.faddr 0 (.t 36)) 33 false,
 oG 38 (lD 37) 33 false,
 mG 39 1 33 false,
 oG 40 (.bin .neq .num (.t 38) (.t 39)) 33 false,
 oP 41 (.pick (.t 33) (cB true) (.t 40))])
 (kL [0,1,2,41] 0 (.cond (.t 41)
 (.seq (.region [
 oP 8 (.mov (.c (.c .nils)))])
 (.ret))
 (.skip))))
 (kL [0,1,2] 0 (.seq (.region [
 mV 42 0,
 oP 43 (.nilck (.t 42)),
 oP 44 (.faddr 23 (.t 43)),
 oP 45 (.faddr 7 (.t 44)),
 oW (.store 1 (.t 45) (cB false))])
 (kL [0,1,2] 0 (.seq (.region [
 mV 46 0,
 oP 47 (.nilck (.t 46)),
 oP 48 (.faddr 23 (.t 47)),
 oP 49 (.faddr 1 (.t 48)),
 oP 50 (.faddr 2 (.t 49)),
 oP 51 (lD 50),
 mV 9 51])
 (kL [0,1,2,9] 0 (.seq (.region [
 mV 53 2,
 oP 54 (.call 375 [(.t 53)]),
 mV 52 54,
 oP 55 (.ext (.t 52) 0),
 oP 56 (.ext (.t 52) 1),
 oP 10 (.box true 6 (.c (.agg [(.int .i64 0),(.int .i64 0),(.int .i64 0),(.int .i64 0),.nils,.nils]))),
 oW (.store 6 (.t 10) (.t 55)),
 mV 11 56])
 (kL [0,1,9,10,11] 1 (.seq (.region [
 oP 58 (.load (some 6) (.t 10)),
 mV 59 1,
 oP 60 (.call 376 [(.t 58),(.t 59)]),
 mV 57 60,
 oP 61 (.ext (.t 57) 0),
 oP 62 (.ext (.t 57) 1),
 mV 12 61,
 mV 13 62])
 (kL [0,1,9,10,11,12,13] 1 (.seq (.block 0 (.seq (.draw 0 [
 ⟨0,none,(mV 64 11),[]⟩,
 ⟨1,none,(oP 65 (.bin .eql .num (.t 64) (cI 0))),[]⟩,
 ⟨2,none,(mV 66 65),[]⟩,
 ⟨3,none,(mG 67 13 66 true),[]⟩,
 ⟨4,none,(oP 68 (.pick (.t 66) (.t 67) (cB false))),[]⟩,
 ⟨5,none,(mV 69 68),[]⟩,
 ⟨6,none,(oG 70 (.faddr 0 (.t 10)) 69 true),[]⟩,
 ⟨7,none,(oG 71 (lD 70) 69 true),[]⟩,
 ⟨8,none,(oG 72 (.bin .eql .num (.t 71) (cI 2)) 69 true),[]⟩,
 ⟨9,none,(oP 73 (.pick (.t 69) (.t 72) (cB false))),[]⟩,
 ⟨10,none,(mV 74 73),[]⟩,
 ⟨11,none,(oG 75 (.faddr 1 (.t 10)) 74 true),[]⟩,
 ⟨12,none,(oG 76 (lD 75) 74 true),[]⟩,
 ⟨13,none,(mG 77 9 74 true),[]⟩,
 ⟨14,none,(oG 78 (.bin .eql .num (.t 76) (.t 77)) 74 true),[]⟩,
 ⟨15,none,(oP 79 (.pick (.t 74) (.t 78) (cB false))),[]⟩,
 ⟨16,none,(mV 80 79),[]⟩,
 ⟨17,none,(oG 81 (.faddr 2 (.t 10)) 80 true),[]⟩,
 ⟨18,none,(oG 82 (lD 81) 80 true),[]⟩,
 ⟨19,none,(mG 83 0 80 true),[]⟩,
 ⟨20,none,(oG 84 (.nilck (.t 83)) 80 true),[]⟩,
 ⟨21,none,(oG 85 (.faddr 9 (.t 84)) 80 true),[]⟩,
 ⟨22,none,(oG 86 (lD 85) 80 true),[]⟩,
 ⟨23,none,(oG 87 (.bin .eql .num (.t 82) (.t 86)) 80 true),[]⟩,
 ⟨24,none,(oP 88 (.pick (.t 80) (.t 87) (cB false))),[]⟩,
 ⟨25,none,(mV 89 88),[]⟩,
 ⟨26,none,(oG 90 (.faddr 3 (.t 10)) 89 true),[]⟩,
 ⟨27,none,(oG 91 (lD 90) 89 true),[]⟩,
 ⟨28,none,(mG 92 0 89 true),[]⟩,
 ⟨29,none,(oG 93 (.nilck (.t 92)) 89 true),[]⟩,
 ⟨30,none,(oG 94 (.faddr 23 (.t 93)) 89 true),[]⟩,
 ⟨31,none,(oG 95 (.faddr 1 (.t 94)) 89 true),[]⟩,
 ⟨32,none,(oG 96 (.faddr 3 (.t 95)) 89 true),[]⟩,
 ⟨33,none,(oG 97 (lD 96) 89 true),[]⟩,
 ⟨34,none,(oG 98 (.bin .eql .num (.t 91) (.t 97)) 89 true),[]⟩,
 ⟨35,none,(oP 99 (.pick (.t 89) (.t 98) (cB false))),[]⟩,
 ⟨36,none,(mV 63 99),[]⟩])
 (kL [0,1,9,10,12,63] 1 (.cond (.t 63)
 (.region [
 mV 100 0,
 oP 101 (.load (some 6) (.t 10)),
 mV 102 9,
 mV 103 12,
 mV 104 1,
 oP 105 (.call 377 [(.t 100),(.t 101),(.t 102),(.t 103),(.t 104)])])
 (.seq (.region [
 mV 107 0,
 oP 108 (.nilck (.t 107)),
 oP 109 (.faddr 23 (.t 108)),
 oP 110 (.faddr 1 (.t 109)),
 oP 111 (.faddr 0 (.t 110)),
 oP 112 (lD 111),
 oP 113 (.bin .eql .num (.t 112) (cI 1)),
 mV 106 113])
 (kL [0,106] 0 (.cond (.t 106)
 (.seq (.region [
 mV 114 0,
 oP 115 (.nilck (.t 114)),
 oP 116 (.faddr 17 (.t 115)),
 oP 117 (lD 116),
 oP 118 (.bin .add .num (.t 117) (cI 1)),
 oP 119 (.nilck (.t 114)),
 oP 120 (.faddr 17 (.t 119)),
 oW (.store 1 (.t 120) (.t 118))])
 (kL [0] 0 (.seq (.region [
 mV 121 0,
 oP 122 (.nilck (.t 121)),
 oP 123 (.faddr 17 (.t 122)),
 oP 124 (lD 123),
 oP 125 (.bin .geq .num (.t 124) (cI 8))])
 (kL [0,125] 0 (.cond (.t 125)
 (.seq (.region [
 mV 127 0,
 oP 128 (.call 378 [(.t 127)]),
 mV 126 128,
 oP 129 (.ext (.t 126) 0),
 oP 130 (.ext (.t 126) 1),
 oP 14 (.box true 6 (.c (.agg [(.int .i64 0),(.int .i64 0),(.int .i64 0),(.int .i64 0),.nils,.nils]))),
 oW (.store 6 (.t 14) (.t 129)),
 mV 15 130])
 (kL [0,14,15] 1 (.seq (.region [
 mV 131 15])
 (kL [0,14,131] 1 (.cond (.t 131)
 (.region [
 mV 132 0,
 oP 133 (.load (some 6) (.t 14)),
 oP 134 (.call 379 [(.t 132),(.t 133),(cI 4)])])
 (.skip))))))
 (.skip))))))
 (.skip))))))))
 (kL [0] 0 (.seq (.region [
 mV 135 0,
 oP 136 (.call 380 [(.t 135)]),
 mV 8 136])
 (.ret)))))))))))))))⟩
def n367:NF:=⟨52,[10],
 .seq (.region [
 oP 6 (.box true 8 (.t 1)),
 oP 10 (.mov (.c (.c .nils)))])
 (kL [0,2,3,4,6] 1 (.seq (.region [
 mV 14 3,
 oP 15 (.call 375 [(.t 14)]),
 mV 13 15,
 oP 16 (.ext (.t 13) 0),
 oP 17 (.ext (.t 13) 1),
 oP 11 (.box true 6 (.c (.agg [(.int .i64 0),(.int .i64 0),(.int .i64 0),(.int .i64 0),.nils,.nils]))),
 oW (.store 6 (.t 11) (.t 16)),
 mV 12 17])
 (kL [0,2,4,6,11,12] 2 (.seq (.seq (.draw 0 [
 ⟨0,none,(mV 18 12),[]⟩,
 ⟨1,none,(oP 19 (.bin .neq .num (.t 18) (cI 0))),[]⟩,
 ⟨2,none,(mV 20 19),[]⟩,
 ⟨3,none,(mG 21 0 20 false),[]⟩,
 ⟨4,none,(oG 22 (.faddr 2 (.t 11)) 20 false),[]⟩,
 ⟨5,none,(oG 23 (lD 22) 20 false),[]⟩,
 ⟨6,none,(oG 24 (.call 361 [(.t 21),(.t 23)]) 20 false),[]⟩,
 ⟨7,none,(oG 25 (.un .not (.t 24)) 20 false),[]⟩,
 ⟨8,none,(oP 26 (.pick (.t 20) (cB true) (.t 25))),[]⟩,
 ⟨9,none,(mV 27 26),[]⟩,
 ⟨10,none,(mG 28 0 27 false),[]⟩,
 ⟨11,none,(oG 29 (.nilck (.t 28)) 27 false),[]⟩,
 ⟨12,none,(oG 30 (.faddr 0 (.t 29)) 27 false),[]⟩,
 ⟨13,none,(oG 31 (.faddr 1 (.t 30)) 27 false),[]⟩,
 ⟨14,none,(oG 32 (lD 31) 27 false),[]⟩,
 ⟨15,none,(mG 33 2 27 false),[]⟩,
 ⟨16,none,(oG 34 (iA 1 32 33) 27 false),[]⟩,
 ⟨17,none,(oG 35 (lD 34) 27 false),[]⟩,
 ⟨18,none,(oG 36 (.faddr 5 (.t 6)) 27 false),[]⟩,
 ⟨19,none,(oG 37 (lD 36) 27 false),[]⟩,
 ⟨20,none,(mG 38 2 27 false),[]⟩,
 ⟨23,none,(oG 41 (.faddr 2 (.t 11)) 27 false),[]⟩,
 ⟨24,none,(oG 42 (lD 41) 27 false),[]⟩,
 ⟨21,none,(oG 39 (.call 381 [(.t 37),(.t 38)]) 27 false),[(14,(oG 32 (lD 31) 27 false)),(16,(oG 34 (iA 1 32 33) 27 false)),(17,(oG 35 (lD 34) 27 false)),(24,(oG 42 (lD 41) 27 false))]⟩,
 ⟨22,none,(oG 40 (.bin .andNot .num (.t 35) (.t 39)) 27 false),[]⟩,
 ⟨25,none,(oG 43 (.bin .shr .num (.t 40) (.t 42)) 27 false),[]⟩,
 ⟨26,none,(oG 44 (.bin .and .num (.t 43) (.c (.c (.int .u64 1)))) 27 false),[]⟩,
 ⟨27,none,(oG 45 (.bin .eql .num (.t 44) (.c (.c (.int .u64 0)))) 27 false),[]⟩,
 ⟨28,none,(oP 46 (.pick (.t 27) (cB true) (.t 45))),[]⟩])
 (kL [4,11,46] 2 (.cond (.t 46)
 (.seq (.region [
 oP 10 (.mov (.c (.c .nils)))])
 (.ret))
 (.skip))))
 (kL [4,11] 2 (.seq (.region [
 mV 47 4,
 oP 48 (.faddr 2 (.t 11)),
 oP 49 (lD 48),
 oP 50 (iA 1 47 49),
 oP 51 (lD 50),
 mV 10 51])
 (.ret)))))))⟩
def n345:NF:=⟨90,[4],
 .seq (.region [
 oP 4 (.mov (.c (.c .nils)))])
 (kL [0,1] 0 (.seq (.seq (.region [
 mV 8 0,
 oP 9 (.bin .eql .ptr (.t 8) (.c (.c .nilp))),
 mV 10 9,
 mG 11 1 10 false,
 oG 12 (.call 272 [(.t 11)]) 10 false,
 oG 13 (.un .not (.t 12)) 10 false,
 oP 14 (.pick (.t 10) (cB true) (.t 13)),
 mV 15 14,
 mG 16 0 15 false,
 oG 17 (.nilck (.t 16)) 15 false,
 oG 18 (.faddr 9 (.t 17)) 15 false,
 oG 19 (lD 18) 15 false,
 oG 20 (.bin .eql .num (.t 19) (cI 0)) 15 false,
 oP 21 (.pick (.t 15) (cB true) (.t 20)),
 mV 22 21,
 mG 23 0 22 false,
 oG 24 (.nilck (.t 23)) 22 false,
 oG 25 (.faddr 18 (.t 24)) 22 false,
 oG 26 (lD 25) 22 false,
 oG 27 (.un .not (.t 26)) 22 false,
 oP 28 (.pick (.t 22) (cB true) (.t 27))])
 (kL [0,1,28] 0 (.cond (.t 28)
 (.seq (.region [
 oP 4 (.mov (.c (.c .nils)))])
 (.ret))
 (.skip))))
 (kL [0,1] 0 (.seq (.region [
 mV 29 0,
 oP 30 (.nilck (.t 29)),
 oP 31 (.faddr 20 (.t 30)),
 oP 32 (lD 31),
 oP 33 (.call 382 [(.t 32)])])
 (kL [0,1] 0 (.seq (.region [
 mV 34 0,
 oP 35 (.call 274 [(.t 34)]),
 mV 5 35])
 (kL [0,1,5] 0 (.seq (.draw 0 [
 ⟨0,none,(mV 36 0),[]⟩,
 ⟨1,none,(oP 37 (.nilck (.t 36))),[]⟩,
 ⟨2,none,(oP 38 (.faddr 19 (.t 37))),[]⟩,
 ⟨3,none,(oP 39 (lD 38)),[]⟩,
 ⟨4,none,(mV 40 1),[]⟩,
 ⟨5,none,(mV 41 0),[]⟩,
 ⟨6,none,(oP 42 (.nilck (.t 41))),[]⟩,
 ⟨7,none,(oP 43 (.faddr 0 (.t 42))),[]⟩,
 ⟨8,none,(oP 44 (.faddr 6 (.t 43))),[]⟩,
 ⟨9,none,(oP 45 (lD 44)),[]⟩,
 ⟨10,none,(oP 46 (.call 56 [(.t 39),(.t 40),(.t 45)])),[]⟩])
 (kL [0,5] 0 (.seq (.seq (.region [
 mV 47 0,
 oP 48 (.call 274 [(.t 47)]),
 oP 49 (.bin .neq .num (.t 48) (cI 64))])
 (kL [0,5,49] 0 (.cond (.t 49)
 (.seq (.region [
 mV 50 0,
 mV 51 5,
 oP 52 (.call 383 [(.t 50),(.t 51)])])
 (kL [0] 0 (.seq (.region [
 mV 53 0,
 oP 54 (.call 380 [(.t 53)]),
 mV 4 54])
 (.ret))))
 (.skip))))
 (kL [0] 0 (.seq (.region [
 mV 55 0,
 mV 56 0,
 mV 57 0,
 mV 58 0,
 oP 59 (.nilck (.t 55)),
 oP 60 (.faddr 18 (.t 59)),
 oW (.store 1 (.t 60) (cB false)),
 oP 61 (.nilck (.t 56)),
 oP 62 (.faddr 21 (.t 61)),
 oW (.store 1 (.t 62) (cI 0)),
 oP 63 (.nilck (.t 57)),
 oP 64 (.faddr 19 (.t 63)),
 oW (.store 1 (.t 64) (.c (.c .nilp))),
 oP 65 (.nilck (.t 58)),
 oP 66 (.faddr 20 (.t 65)),
 oW (.store 1 (.t 66) (.c (.c .nilp)))])
 (kL [0] 0 (.seq (.region [
 mV 67 0,
 oP 68 (.build [(.int .i64 0),(.int .i64 0),(.int .i64 0),(.int .i64 0),(.int .i64 0),.nils,.nils,(.bool false)] []),
 oP 69 (.nilck (.t 67)),
 oP 70 (.faddr 23 (.t 69)),
 oW (.store 8 (.t 70) (.t 68))])
 (kL [0] 0 (.seq (.region [
 mV 71 0,
 oP 72 (.call 384 [(.t 71),(cI 3),(cI 0)])])
 (kL [0] 0 (.seq (.block 0 (.loop (kL [0] 0 (.seq (.seq (.region [
 mV 73 0,
 oP 74 (.nilck (.t 73)),
 oP 75 (.faddr 11 (.t 74)),
 oP 76 (lD 75),
 oP 77 (.call 281 [(.t 76)]),
 oP 78 (.bin .gtr .num (.t 77) (cI 0))])
 (kL [0,78] 0 (.cond (.t 78)
 (.skip)
 (.exit 0))))
 (kL [0] 0 (.block 1 (.seq (.region [
 mV 80 0,
 oP 81 (.call 378 [(.t 80)]),
 mV 79 81,
 oP 82 (.ext (.t 79) 0),
 oP 83 (.ext (.t 79) 1),
 oP 6 (.box true 6 (.c (.agg [(.int .i64 0),(.int .i64 0),(.int .i64 0),(.int .i64 0),.nils,.nils]))),
 oW (.store 6 (.t 6) (.t 82)),
 mV 7 83])
 (kL [0,6,7] 1 (.seq (.region [
 mV 84 7])
 (kL [0,6,84] 1 (.cond (.t 84)
 (.region [
 mV 85 0,
 oP 86 (.load (some 6) (.t 6)),
 oP 87 (.call 379 [(.t 85),(.t 86),(cI 3)])])
 (.skip))))))))))))
 (kL [0] 0 (.seq (.region [
 mV 88 0,
 oP 89 (.call 380 [(.t 88)]),
 mV 4 89])
 (.ret)))))))))))))))))))))⟩
def n261:NF:=⟨135,[8,9],
 .seq (.region [
 oP 8 (.mov (cI 0)),
 oP 9 (.mov (cI 0))])
 (kL [0,1,2,3] 0 (.seq (.seq (.region [
 mV 16 0,
 oP 17 (.bin .eql .ptr (.t 16) (.c (.c .nilp))),
 mV 18 17,
 mG 19 1 18 false,
 oG 20 (.call 272 [(.t 19)]) 18 false,
 oG 21 (.un .not (.t 20)) 18 false,
 oP 22 (.pick (.t 18) (cB true) (.t 21)),
 mV 23 22,
 mG 24 0 23 false,
 mG 25 2 23 false,
 oG 26 (.call 273 [(.t 24),(.t 25)]) 23 false,
 oG 27 (.un .not (.t 26)) 23 false,
 oP 28 (.pick (.t 23) (cB true) (.t 27)),
 mV 29 28,
 mG 30 2 29 false,
 mG 31 0 29 false,
 oG 32 (.nilck (.t 31)) 29 false,
 oG 33 (.faddr 9 (.t 32)) 29 false,
 oG 34 (lD 33) 29 false,
 oG 35 (.bin .eql .num (.t 30) (.t 34)) 29 false,
 oP 36 (.pick (.t 29) (cB true) (.t 35)),
 mV 37 36,
 mG 38 3 37 false,
 oG 39 (.len .sl (.t 38)) 37 false,
 oG 40 (.call 267 [(.t 39),(cI 1),(cI 24)]) 37 false,
 oG 41 (.un .not (.t 40)) 37 false,
 oP 42 (.pick (.t 37) (cB true) (.t 41))])
 (kL [0,1,2,3,42] 0 (.cond (.t 42)
 (.seq (.region [
 oP 8 (.mov (cI 0)),
 oP 9 (.mov (cI 1))])
 (.ret))
 (.skip))))
 (kL [0,1,2,3] 0 (.seq (.seq (.region [
 mV 43 0,
 oP 44 (.nilck (.t 43)),
 oP 45 (.faddr 18 (.t 44)),
 oP 46 (lD 45),
 oP 47 (.un .not (.t 46)),
 mV 48 47,
 mG 49 0 48 false,
 oG 50 (.nilck (.t 49)) 48 false,
 oG 51 (.faddr 9 (.t 50)) 48 false,
 oG 52 (lD 51) 48 false,
 oG 53 (.bin .neq .num (.t 52) (cI 0)) 48 false,
 mG 54 53 48 false,
 mG 55 0 54 true,
 oG 56 (.call 274 [(.t 55)]) 54 true,
 oG 57 (.bin .eql .num (.t 56) (cI 64)) 54 true,
 oG 58 (.pick (.t 54) (.t 57) (cB false)) 48 false,
 oP 59 (.pick (.t 48) (cB true) (.t 58))])
 (kL [0,1,2,3,59] 0 (.cond (.t 59)
 (.seq (.region [
 oP 8 (.mov (cI 0)),
 oP 9 (.mov (cI 7))])
 (.ret))
 (.skip))))
 (kL [0,1,2,3] 0 (.seq (.draw 2 [
 ⟨0,none,(mV 60 0),[]⟩,
 ⟨1,none,(oP 61 (.nilck (.t 60))),[]⟩,
 ⟨2,none,(oP 62 (.faddr 9 (.t 61))),[]⟩,
 ⟨3,none,(oP 63 (lD 62)),[]⟩,
 ⟨4,none,(mV 64 2),[]⟩,
 ⟨5,none,(mV 65 0),[]⟩,
 ⟨6,none,(oP 66 (.nilck (.t 65))),[]⟩,
 ⟨7,none,(oP 67 (.faddr 16 (.t 66))),[]⟩,
 ⟨8,none,(oP 68 (lD 67)),[]⟩,
 ⟨9,none,(oP 69 (.bin .add .num (.t 68) (cI 1))),[]⟩,
 ⟨10,none,(mV 70 1),[]⟩,
 ⟨11,none,(oP 71 (.bin .mul .num (.t 70) (cI 64))),[]⟩,
 ⟨12,none,(oP 72 (.max [(.t 69),(.t 71)])),[]⟩,
 ⟨13,none,(mV 73 0),[]⟩,
 ⟨14,none,(oP 74 (.nilck (.t 73))),[]⟩,
 ⟨15,none,(oP 75 (.faddr 0 (.t 74))),[]⟩,
 ⟨16,none,(oP 76 (.faddr 8 (.t 75))),[]⟩,
 ⟨17,none,(oP 77 (lD 76)),[]⟩,
 ⟨18,none,(mV 78 0),[]⟩,
 ⟨19,none,(oP 79 (.nilck (.t 78))),[]⟩,
 ⟨20,none,(oP 80 (.faddr 9 (.t 79))),[]⟩,
 ⟨21,none,(oP 81 (lD 80)),[]⟩,
 ⟨23,none,(mV 83 3),[]⟩,
 ⟨22,(some 0),(oP 82 (.bslice false 1 1 [(.int .i64 0)] [(0,(1,(.t 81)))])),[]⟩,
 ⟨24,none,(oP 84 (.build [(.int .i64 0),(.int .i64 0),(.int .i64 0),(.int .i64 0),.nils,.nils] [(0,(1,(.t 63))),(1,(1,(.t 64))),(2,(1,(.t 72))),(3,(1,(.t 77))),(4,(1,(.t 82))),(5,(1,(.t 83)))])),[]⟩,
 ⟨25,(some 1),(oP 10 (.box false 6 (.c (.agg [(.int .i64 0),(.int .i64 0),(.int .i64 0),(.int .i64 0),.nils,.nils])))),[]⟩,
 ⟨26,none,(oW (.store 6 (.t 10) (.t 84))),[]⟩])
 (kL [0,2,10] 0 (.seq (.region [
 oP 11 (.mov (cI 64))])
 (kL [0,2,10,11] 0 (.seq (.seq (.region [
 mV 85 0,
 oP 86 (.nilck (.t 85)),
 oP 87 (.faddr 9 (.t 86)),
 oP 88 (lD 87),
 oP 89 (.bin .eql .num (.t 88) (cI 0))])
 (kL [0,2,10,11,89] 0 (.cond (.t 89)
 (.seq (.region [
 mV 91 0,
 oP 92 (.nilck (.t 91)),
 oP 93 (.faddr 22 (.t 92)),
 oP 94 (lD 93),
 mV 95 2,
 oP 96 (.look (.int .i64) (.c .nils) true (.t 94) (.t 95)),
 mV 90 96,
 oP 97 (.ext (.t 90) 0),
 oP 98 (.ext (.t 90) 1),
 mV 12 97,
 mV 13 98])
 (kL [0,10,12,13] 0 (.seq (.seq (.region [
 mV 99 13,
 oP 100 (.un .not (.t 99))])
 (kL [0,10,12,100] 0 (.cond (.t 100)
 (.seq (.region [
 oP 8 (.mov (cI 0)),
 oP 9 (.mov (cI 6))])
 (.ret))
 (.skip))))
 (kL [0,10,12] 0 (.draw 0 [
 ⟨0,none,(mV 101 12),[]⟩,
 ⟨1,none,(mV 102 12),[]⟩,
 ⟨2,none,(oP 103 (.iaddr 1 (.t 102) (cI 1))),[]⟩,
 ⟨3,none,(oP 104 (lD 103)),[]⟩,
 ⟨4,none,(oP 105 (.faddr 4 (.t 10))),[]⟩,
 ⟨5,none,(oW (.store 1 (.t 105) (.t 101))),[(2,(oP 103 (.iaddr 1 (.t 102) (cI 1)))),(3,(oP 104 (lD 103)))]⟩,
 ⟨6,none,(mV 11 104),[]⟩])))))
 (.skip))))
 (kL [0,10,11] 0 (.seq (.region [
 oP 107 (.load (some 6) (.t 10)),
 oP 108 (.call 275 [(.t 107)]),
 mV 106 108,
 oP 109 (.ext (.t 106) 0),
 oP 110 (.ext (.t 106) 1),
 mV 14 109,
 mV 15 110])
 (kL [0,10,11,14,15] 0 (.seq (.seq (.region [
 oP 111 (.faddr 2 (.t 10)),
 oP 112 (lD 111),
 oP 113 (.bin .gtr .num (.t 112) (cI 70368744177663)),
 mV 114 113,
 mG 115 15 114 false,
 oG 116 (.bin .neq .num (.t 115) (cI 0)) 114 false,
 oP 117 (.pick (.t 114) (cB true) (.t 116)),
 mV 118 117,
 mG 119 0 118 false,
 oG 120 (.nilck (.t 119)) 118 false,
 oG 121 (.faddr 11 (.t 120)) 118 false,
 oG 122 (lD 121) 118 false,
 mG 123 11 118 false,
 mG 124 14 118 false,
 oG 125 (.call 276 [(.t 122),(.t 123),(.t 124)]) 118 false,
 oG 126 (.un .not (.t 125)) 118 false,
 oP 127 (.pick (.t 118) (cB true) (.t 126))])
 (kL [0,10,127] 0 (.cond (.t 127)
 (.seq (.region [
 oP 8 (.mov (cI 0)),
 oP 9 (.mov (cI 5))])
 (.ret))
 (.skip))))
 (kL [0,10] 0 (.seq (.region [
 mV 128 0,
 oP 129 (.faddr 2 (.t 10)),
 oP 130 (lD 129),
 oP 131 (.nilck (.t 128)),
 oP 132 (.faddr 16 (.t 131)),
 oW (.store 1 (.t 132) (.t 130))])
 (kL [10] 0 (.seq (.region [
 oP 133 (.faddr 2 (.t 10)),
 oP 134 (lD 133),
 mV 8 134,
 oP 9 (.mov (cI 0))])
 (.ret)))))))))))))))))))⟩
def n342:NF:=⟨36,[],
 .seq (.seq (.region [
 mV 3 0,
 oP 4 (.bin .eql .ptr (.t 3) (.c (.c .nilp))),
 mV 5 4,
 mG 6 0 5 false,
 oG 7 (.nilck (.t 6)) 5 false,
 oG 8 (.faddr 9 (.t 7)) 5 false,
 oG 9 (lD 8) 5 false,
 oG 10 (.bin .eql .num (.t 9) (cI 0)) 5 false,
 oP 11 (.pick (.t 5) (cB true) (.t 10))])
 (kL [0,11] 0 (.cond (.t 11)
 (.ret)
 (.skip))))
 (kL [0] 0 (.seq (.region [
 mV 12 0,
 oP 13 (.nilck (.t 12)),
 oP 14 (.faddr 10 (.t 13)),
 oP 15 (lD 14),
 oP 16 (.call 372 [(.t 15)]),
 mV 2 16])
 (kL [0,2] 0 (.seq (.draw 0 [
 ⟨0,none,(mV 17 0),[]⟩,
 ⟨1,none,(mV 18 0),[]⟩,
 ⟨2,none,(oP 19 (.nilck (.t 18))),[]⟩,
 ⟨3,none,(oP 20 (.faddr 0 (.t 19))),[]⟩,
 ⟨4,none,(oP 21 (.load (some 9) (.t 20))),[]⟩,
 ⟨5,none,(mV 22 0),[]⟩,
 ⟨6,none,(oP 23 (.nilck (.t 22))),[]⟩,
 ⟨7,none,(oP 24 (.faddr 9 (.t 23))),[]⟩,
 ⟨8,none,(oP 25 (lD 24)),[]⟩,
 ⟨9,none,(oP 26 (.call 260 [(.t 21),(.t 25)])),[]⟩,
 ⟨10,none,(oP 27 (.nilck (.t 26))),[]⟩,
 ⟨11,none,(oP 28 (.load (some 32) (.t 27))),[]⟩,
 ⟨12,none,(oP 29 (.nilck (.t 17))),[]⟩,
 ⟨13,none,(oW (.store 32 (.t 29) (.t 28))),[]⟩])
 (kL [0,2] 0 (.region [
 mV 30 0,
 oP 31 (.nilck (.t 30)),
 oP 32 (.faddr 10 (.t 31)),
 oP 33 (lD 32),
 mV 34 2,
 oP 35 (.call 385 [(.t 33),(.t 34)])]))))))⟩
def n293:NF:=⟨8,[2],
 .seq (.region [
 oP 2 (.mov (.c (.c .nils)))])
 (kL [0] 0 (.seq (.seq (.region [
 mV 3 0,
 oP 4 (.bin .eql .sl (.t 3) (.c (.c .nils)))])
 (kL [0,4] 0 (.cond (.t 4)
 (.seq (.region [
 oP 2 (.mov (.c (.c .nils)))])
 (.ret))
 (.skip))))
 (kL [0] 0 (.seq (.region [
 oP 5 (.bslice false 1 0 [(.int .u8 0)] []),
 mV 6 0,
 oP 7 (.app 1 1 (.t 5) (.t 6)),
 mV 2 7])
 (.ret)))))⟩
def n369:NF:=⟨45,[4],
 .seq (.region [
 oP 2 (.box true 6 (.t 0)),
 oP 3 (.box true 6 (.t 1)),
 oP 4 (.mov (cB false))])
 (kL [2,3] 2 (.seq (.region [
 oP 5 (.faddr 0 (.t 2)),
 oP 6 (lD 5),
 oP 7 (.faddr 0 (.t 3)),
 oP 8 (lD 7),
 oP 9 (.bin .eql .num (.t 6) (.t 8)),
 mV 10 9,
 oG 11 (.faddr 1 (.t 2)) 10 true,
 oG 12 (lD 11) 10 true,
 oG 13 (.faddr 1 (.t 3)) 10 true,
 oG 14 (lD 13) 10 true,
 oG 15 (.bin .eql .num (.t 12) (.t 14)) 10 true,
 oP 16 (.pick (.t 10) (.t 15) (cB false)),
 mV 17 16,
 oG 18 (.faddr 2 (.t 2)) 17 true,
 oG 19 (lD 18) 17 true,
 oG 20 (.faddr 2 (.t 3)) 17 true,
 oG 21 (lD 20) 17 true,
 oG 22 (.bin .eql .num (.t 19) (.t 21)) 17 true,
 oP 23 (.pick (.t 17) (.t 22) (cB false)),
 mV 24 23,
 oG 25 (.faddr 3 (.t 2)) 24 true,
 oG 26 (lD 25) 24 true,
 oG 27 (.faddr 3 (.t 3)) 24 true,
 oG 28 (lD 27) 24 true,
 oG 29 (.bin .eql .num (.t 26) (.t 28)) 24 true,
 oP 30 (.pick (.t 24) (.t 29) (cB false)),
 mV 31 30,
 oG 32 (.faddr 4 (.t 2)) 31 true,
 oG 33 (lD 32) 31 true,
 oG 34 (.faddr 4 (.t 3)) 31 true,
 oG 35 (lD 34) 31 true,
 oG 36 (.call 337 [(.t 33),(.t 35)]) 31 true,
 oP 37 (.pick (.t 31) (.t 36) (cB false)),
 mV 38 37,
 oG 39 (.faddr 5 (.t 2)) 38 true,
 oG 40 (lD 39) 38 true,
 oG 41 (.faddr 5 (.t 3)) 38 true,
 oG 42 (lD 41) 38 true,
 oG 43 (.call 386 [(.t 40),(.t 42)]) 38 true,
 oP 44 (.pick (.t 38) (.t 43) (cB false)),
 mV 4 44])
 (.ret)))⟩
def n13:NF:=⟨26,[4],
 .seq (.region [
 oP 4 (.mov (cB false))])
 (kL [0,1] 0 (.seq (.seq (.region [
 mV 6 0,
 oP 7 (.len .sl (.t 6)),
 mV 8 1,
 oP 9 (.len .sl (.t 8)),
 oP 10 (.bin .neq .num (.t 7) (.t 9))])
 (kL [0,1,10] 0 (.cond (.t 10)
 (.seq (.region [
 oP 4 (.mov (cB false))])
 (.ret))
 (.skip))))
 (kL [0,1] 0 (.seq (.seq (.region [
 mV 11 0,
 oP 12 (.len .sl (.t 11)),
 oP 13 (.mov (cI 0))])
 (kL [0,1,12,13] 0 (.block 0 (.loop (kL [0,1,12,13] 0 (.seq (.region [
 oP 14 (.bin .lss .num (.t 13) (.t 12))])
 (kL [0,1,12,13,14] 0 (.seq (.cond (.t 14)
 (.skip)
 (.exit 0))
 (kL [0,1,12,13] 0 (.seq (.block 1 (.seq (.region [
 mV 15 13,
 mV 5 15])
 (kL [0,1,5,12,13] 0 (.seq (.draw 0 [
 ⟨0,none,(mV 16 0),[]⟩,
 ⟨1,none,(mV 17 5),[]⟩,
 ⟨2,none,(oP 18 (iA 1 16 17)),[]⟩,
 ⟨3,none,(oP 19 (lD 18)),[]⟩,
 ⟨4,none,(mV 20 1),[]⟩,
 ⟨5,none,(mV 21 5),[]⟩,
 ⟨6,none,(oP 22 (iA 1 20 21)),[]⟩,
 ⟨7,none,(oP 23 (lD 22)),[]⟩,
 ⟨8,none,(oP 24 (.bin .neq .num (.t 19) (.t 23))),[]⟩])
 (kL [0,1,12,13,24] 0 (.cond (.t 24)
 (.seq (.region [
 oP 4 (.mov (cB false))])
 (.ret))
 (.skip)))))))
 (kL [0,1,12,13] 0 (.region [
 oP 25 (.bin .add .num (.t 13) (cI 1)),
 mV 13 25]))))))))))))
 (kL [] 0 (.seq (.region [
 oP 4 (.mov (cB true))])
 (.ret)))))))⟩
def n267:NF:=⟨15,[6],
 .seq (.region [
 oP 6 (.mov (cB false))])
 (kL [0,1,2] 0 (.seq (.region [
 mV 7 0,
 mV 8 1,
 oP 9 (.bin .geq .num (.t 7) (.t 8)),
 mV 10 9,
 mG 11 0 10 true,
 mG 12 2 10 true,
 oG 13 (.bin .leq .num (.t 11) (.t 12)) 10 true,
 oP 14 (.pick (.t 10) (.t 13) (cB false)),
 mV 6 14])
 (.ret)))⟩
def n288:NF:=⟨34,[2],
 .seq (.region [
 oP 2 (.mov (cB false))])
 (kL [0] 0 (.seq (.seq (.region [
 mV 5 0,
 oP 6 (.len .sl (.t 5)),
 oP 7 (.mov (cI 0))])
 (kL [0,5,6,7] 0 (.block 0 (.loop (kL [0,5,6,7] 0 (.seq (.region [
 oP 8 (.bin .lss .num (.t 7) (.t 6))])
 (kL [0,5,6,7,8] 0 (.seq (.cond (.t 8)
 (.skip)
 (.exit 0))
 (kL [0,5,6,7] 0 (.seq (.block 1 (.seq (.region [
 mV 9 7,
 oP 10 (iA 1 5 7),
 oP 11 (lD 10),
 mV 3 9,
 mV 4 11])
 (kL [0,3,4,5,6,7] 0 (.seq (.region [
 mV 12 4,
 oP 13 (.bin .lss .num (.t 12) (cI 0)),
 mV 14 13,
 mG 15 4 14 false,
 oG 16 (.bin .gtr .num (.t 15) (cI 31)) 14 false,
 oP 17 (.pick (.t 14) (cB true) (.t 16)),
 mV 18 17,
 mG 19 0 18 false,
 mG 20 3 18 false,
 oG 21 (.slice 1 (.t 19) none (some (.t 20)) none) 18 false,
 mG 22 4 18 false,
 oG 23 (.call 305 [(.t 21),(.t 22)]) 18 false,
 oP 24 (.pick (.t 18) (cB true) (.t 23))])
 (kL [0,5,6,7,24] 0 (.cond (.t 24)
 (.seq (.region [
 oP 2 (.mov (cB false))])
 (.ret))
 (.skip)))))))
 (kL [0,5,6,7] 0 (.region [
 oP 25 (.bin .add .num (.t 7) (cI 1)),
 mV 7 25]))))))))))))
 (kL [0] 0 (.seq (.region [
 mV 26 0,
 oP 27 (.len .sl (.t 26)),
 oP 28 (.bin .geq .num (.t 27) (cI 1)),
 mV 29 28,
 mG 30 0 29 true,
 oG 31 (.len .sl (.t 30)) 29 true,
 oG 32 (.bin .leq .num (.t 31) (cI 16)) 29 true,
 oP 33 (.pick (.t 29) (.t 32) (cB false)),
 mV 2 33])
 (.ret)))))⟩
def n269:NF:=⟨3,[0],
 .seq (.region [
 oP 0 (.mov (.c (.c .nilp)))])
 (kL [] 0 (.seq (.region [
 oP 1 (.build [(.int .i64 0),(.int .i64 0),(.int .i64 0)] []),
 oP 2 (.box false 3 (.t 1)),
 mV 0 2])
 (.ret)))⟩
def n270:NF:=⟨8,[2],
 .seq (.region [
 oP 2 (.mov (.c (.c .nilp)))])
 (kL [0] 0 (.seq (.region [
 mV 3 0,
 oP 4 (.min [(.t 3),(cI 32)]),
 oP 5 (.max [(cI 1),(.t 4)]),
 oP 6 (.build [(.int .i64 0),.nils,(.int .i64 0)] [(0,(1,(.t 5)))]),
 oP 7 (.box false 3 (.t 6)),
 mV 2 7])
 (.ret)))⟩
def n271:NF:=⟨4,[0],
 .seq (.region [
 oP 0 (.mov (.c (.c .nilp)))])
 (kL [] 0 (.seq (.region [
 oP 1 .mkmap,
 oP 2 (.build [.nilm] [(0,(1,(.t 1)))]),
 oP 3 (.box false 1 (.t 2)),
 mV 0 3])
 (.ret)))⟩
def n341:NF:=⟨36,[],
 .seq (.seq (.region [
 mV 6 0,
 oP 7 (.bin .eql .ptr (.t 6) (.c (.c .nilp))),
 mV 8 7,
 mG 9 1 8 false,
 oG 10 (.call 272 [(.t 9)]) 8 false,
 oG 11 (.un .not (.t 10)) 8 false,
 oP 12 (.pick (.t 8) (cB true) (.t 11))])
 (kL [0,2,12] 0 (.cond (.t 12)
 (.ret)
 (.skip))))
 (kL [0,2] 0 (.seq (.seq (.region [
 mV 13 0,
 oP 14 (.nilck (.t 13)),
 oP 15 (.faddr 9 (.t 14)),
 oP 16 (lD 15),
 oP 17 (.bin .eql .num (.t 16) (cI 0))])
 (kL [0,2,17] 0 (.cond (.t 17)
 (.region [
 oP 2 (.mov (cI 0))])
 (.skip))))
 (kL [0,2] 0 (.seq (.region [
 mV 18 0,
 oP 19 (.nilck (.t 18)),
 oP 20 (.faddr 10 (.t 19)),
 oP 21 (lD 20),
 mV 22 2,
 oP 23 (.call 387 [(.t 21),(.t 22)])])
 (kL [0] 0 (.seq (.region [
 mV 24 0,
 oP 25 (.nilck (.t 24)),
 oP 26 (.faddr 18 (.t 25)),
 oP 27 (lD 26),
 oP 28 (.un .not (.t 27))])
 (kL [0,28] 0 (.cond (.t 28)
 (.region [
 mV 29 0,
 oP 30 (.nilck (.t 29)),
 oP 31 (.faddr 21 (.t 30)),
 oP 32 (lD 31),
 oP 33 (.bin .add .num (.t 32) (cI 1)),
 oP 34 (.nilck (.t 29)),
 oP 35 (.faddr 21 (.t 34)),
 oW (.store 1 (.t 35) (.t 33))])
 (.skip)))))))))⟩
def n370:NF:=⟨13,[4],
 .seq (.region [
 oP 4 (.mov (cI 0))])
 (kL [0,1] 0 (.seq (.seq (.region [
 mV 5 1,
 mV 6 0,
 oP 7 (.len .sl (.t 6)),
 oP 8 (.bin .geq .num (.t 5) (.t 7))])
 (kL [0,1,8] 0 (.cond (.t 8)
 (.seq (.region [
 oP 4 (.mov (cI 0))])
 (.ret))
 (.skip))))
 (kL [0,1] 0 (.seq (.region [
 mV 9 0,
 mV 10 1,
 oP 11 (iA 1 9 10),
 oP 12 (lD 11),
 mV 4 12])
 (.ret)))))⟩
def n371:NF:=⟨8,[2],
 .seq (.region [
 oP 2 (.mov (.c (.c .nils)))])
 (kL [0] 0 (.seq (.seq (.region [
 mV 3 0,
 oP 4 (.bin .eql .sl (.t 3) (.c (.c .nils)))])
 (kL [0,4] 0 (.cond (.t 4)
 (.seq (.region [
 oP 2 (.mov (.c (.c .nils)))])
 (.ret))
 (.skip))))
 (kL [0] 0 (.seq (.region [
 oP 5 (.bslice false 1 0 [(.int .i64 0)] []),
 mV 6 0,
 oP 7 (.app 1 8 (.t 5) (.t 6)),
 mV 2 7])
 (.ret)))))⟩
def n272:NF:=⟨9,[2],
 .seq (.region [
 oP 2 (.mov (cB false))])
 (kL [0] 0 (.seq (.region [
 mV 3 0,
 oP 4 (.bin .geq .num (.t 3) (cI 0)),
 mV 5 4,
 mG 6 0 5 true,
 oG 7 (.bin .lss .num (.t 6) (cI 1099511627776)) 5 true,
 oP 8 (.pick (.t 5) (.t 7) (cB false)),
 mV 2 8])
 (.ret)))⟩
def n278:NF:=⟨41,[8],
 .seq (.region [
 oP 8 (.mov (cI 0))])
 (kL [0,1,2,3] 0 (.seq (.region [
 mV 10 0,
 mV 11 1,
 oP 12 (.call 294 [(.t 10),(.t 11)]),
 mV 9 12])
 (kL [2,3,9] 0 (.seq (.seq (.region [
 mV 13 9,
 oP 14 (.len .sl (.t 13)),
 oP 15 (.bin .eql .num (.t 14) (cI 0)),
 mV 16 15,
 mG 17 2 16 false,
 oG 18 (.bin .lss .num (.t 17) (cI 0)) 16 false,
 oP 19 (.pick (.t 16) (cB true) (.t 18)),
 mV 20 19,
 mG 21 2 20 false,
 oG 22 (.bin .geq .num (.t 21) (cI 1099511627776)) 20 false,
 oP 23 (.pick (.t 20) (cB true) (.t 22)),
 mV 24 23,
 mG 25 3 24 false,
 oG 26 (.bin .lss .num (.t 25) (cI 0)) 24 false,
 oP 27 (.pick (.t 24) (cB true) (.t 26)),
 mV 28 27,
 mG 29 3 28 false,
 oG 30 (.bin .gtr .num (.t 29) (cI 255)) 28 false,
 oP 31 (.pick (.t 28) (cB true) (.t 30))])
 (kL [2,3,9,31] 0 (.cond (.t 31)
 (.seq (.region [
 oP 8 (.mov (cI (-1)))])
 (.ret))
 (.skip))))
 (kL [2,3,9] 0 (.seq (.region [
 mV 32 9,
 mV 33 2,
 mV 34 3,
 oP 35 (.bin .add .num (.t 33) (.t 34)),
 mV 36 9,
 oP 37 (.len .sl (.t 36)),
 oP 38 (.bin .rem .num (.t 35) (.t 37)),
 oP 39 (iA 1 32 38),
 oP 40 (lD 39),
 mV 8 40])
 (.ret)))))))⟩
def n277:NF:=⟨9,[2],
 .seq (.region [
 oP 2 (.mov (cI 0))])
 (kL [0] 0 (.seq (.seq (.region [
 mV 3 0,
 oP 4 (.bin .eql .ptr (.t 3) (.c (.c .nilp)))])
 (kL [0,4] 0 (.cond (.t 4)
 (.seq (.region [
 oP 2 (.mov (cI 0))])
 (.ret))
 (.skip))))
 (kL [0] 0 (.seq (.region [
 mV 5 0,
 oP 6 (.nilck (.t 5)),
 oP 7 (.faddr 2 (.t 6)),
 oP 8 (lD 7),
 mV 2 8])
 (.ret)))))⟩
def n279b:Code:=
 .seq (.region [
 oP 4 (.box false 6 (.c (.agg [(.int .i64 0),(.int .i64 0),(.int .i64 0),(.int .i64 0),.nils,.nils])))])
 (kL [0,1,4] 0 (.seq (.draw 2 [
 ⟨0,none,(mV 10 0),[]⟩,
 ⟨1,none,(oP 11 (.nilck (.t 10))),[]⟩,
 ⟨2,none,(oP 12 (.faddr 9 (.t 11))),[]⟩,
 ⟨3,none,(oP 13 (lD 12)),[]⟩,
 ⟨4,none,(mV 14 0),[]⟩,
 ⟨5,none,(oP 15 (.nilck (.t 14))),[]⟩,
 ⟨6,none,(oP 16 (.faddr 15 (.t 15))),[]⟩,
 ⟨7,none,(oP 17 (lD 16)),[]⟩,
 ⟨8,none,(mV 18 0),[]⟩,
 ⟨9,none,(mV 19 1),[]⟩,
 ⟨10,none,(oP 20 (.call 295 [(.t 18),(.t 19)])),[(3,(oP 13 (lD 12))),(7,(oP 17 (lD 16)))]⟩,
 ⟨11,(some 0),(oP 21 (.bslice false 5 1 [(.int .i64 0),(.int .i64 0),(.int .i64 0),(.int .i64 0),.nils] [(0,(5,(.t 20)))])),[]⟩,
 ⟨12,none,(oP 22 (.build [(.int .i64 0),(.int .i64 0),(.int .i64 0),(.int .i64 0),.nils,.nils] [(1,(1,(.t 13))),(3,(1,(.t 17))),(4,(1,(.t 21)))])),[]⟩,
 ⟨13,(some 1),(oP 5 (.box false 6 (.c (.agg [(.int .i64 0),(.int .i64 0),(.int .i64 0),(.int .i64 0),.nils,.nils])))),[]⟩,
 ⟨14,none,(oW (.store 6 (.t 5) (.t 22))),[]⟩])
 (kL [0,4,5] 0 (.seq (.seq (.region [
 mV 24 0,
 oP 25 (.call 296 [(.t 24)]),
 mV 23 25,
 oP 26 (.ext (.t 23) 0),
 oP 27 (.ext (.t 23) 1),
 oP 28 (.ext (.t 23) 2),
 mV 6 26,
 mV 7 27,
 mV 8 28])
 (kL [0,4,5,6,7,8] 0 (.seq (.region [
 mV 29 8])
 (kL [0,4,5,6,7,29] 0 (.cond (.t 29)
 (.seq (.region [
 mV 30 7,
 mV 31 6,
 oP 32 (.faddr 0 (.t 5)),
 oW (.store 1 (.t 32) (cI 1)),
 oP 33 (.faddr 2 (.t 5)),
 oW (.store 1 (.t 33) (.t 30)),
 oP 34 (.faddr 5 (.t 5)),
 oW (.store 1 (.t 34) (.t 31))])
 (kL [4,5] 0 (.seq (.region [
 oP 35 (.load (some 6) (.t 5)),
 oW (.store 6 (.t 4) (.t 35))])
 (.ret))))
 (.skip))))))
 (kL [0,4,5] 0 (.seq (.seq (.region [
 mV 36 0,
 oP 37 (.call 274 [(.t 36)]),
 mV 9 37])
 (kL [0,4,5,9] 0 (.seq (.region [
 mV 38 9,
 oP 39 (.bin .neq .num (.t 38) (cI 64)),
 mV 40 39,
 mG 41 0 40 true,
 oG 42 (.nilck (.t 41)) 40 true,
 oG 43 (.faddr 20 (.t 42)) 40 true,
 oG 44 (lD 43) 40 true,
 oG 45 (.call 297 [(.t 44)]) 40 true,
 oP 46 (.pick (.t 40) (.t 45) (cB false))])
 (kL [0,4,5,9,46] 0 (.cond (.t 46)
 (.seq (.region [
 mV 47 9,
 oP 48 (.faddr 0 (.t 5)),
 oW (.store 1 (.t 48) (cI 4)),
 oP 49 (.faddr 2 (.t 5)),
 oW (.store 1 (.t 49) (.t 47))])
 (kL [4,5] 0 (.seq (.region [
 oP 50 (.load (some 6) (.t 5)),
 oW (.store 6 (.t 4) (.t 50))])
 (.ret))))
 (.skip))))))
 (kL [0,4,5] 0 (.seq (.region [
 oP 51 (.faddr 0 (.t 5)),
 oW (.store 1 (.t 51) (cI 3)),
 oP 52 (.faddr 2 (.t 5)),
 oW (.store 1 (.t 52) (cI 64))])
 (kL [0,4,5] 0 (.seq (.draw 1 [
 ⟨0,none,(oP 53 (.faddr 4 (.t 5))),[]⟩,
 ⟨1,none,(oP 54 (lD 53)),[]⟩,
 ⟨2,none,(mV 55 0),[]⟩,
 ⟨3,none,(oP 56 (.nilck (.t 55))),[]⟩,
 ⟨4,none,(oP 57 (.faddr 0 (.t 56))),[]⟩,
 ⟨5,none,(oP 58 (.faddr 2 (.t 57))),[]⟩,
 ⟨6,none,(oP 59 (lD 58)),[]⟩,
 ⟨7,none,(oP 60 (.build [(.int .i64 0),(.int .i64 0),(.int .i64 0),(.int .i64 0),.nils] [(0,(1,(cI 3))),(4,(1,(.t 59)))])),[]⟩,
 ⟨8,(some 0),(oP 61 (.bslice false 5 1 [(.int .i64 0),(.int .i64 0),(.int .i64 0),(.int .i64 0),.nils] [(0,(5,(.t 60)))])),[]⟩,
 ⟨9,none,(oP 62 (.app 5 56 (.t 54) (.t 61))),[]⟩,
 ⟨10,none,(oP 63 (.faddr 4 (.t 5))),[]⟩,
 ⟨11,none,(oW (.store 1 (.t 63) (.t 62))),[]⟩])
 (kL [4,5] 0 (.seq (.region [
 oP 64 (.load (some 6) (.t 5)),
 oW (.store 6 (.t 4) (.t 64))])
 (.ret)))))))))))))
def n279:NF:=⟨65,[4],.fin n279b [⟨some 4,.load (some 6) (.t 4),none⟩]⟩
def n280:NF:=⟨61,[2,3],
 .seq (.region [
 oP 1 (.box true 6 (.t 0)),
 oP 2 (.mov (.c (.c .nils))),
 oP 3 (.mov (cI 0))])
 (kL [1] 1 (.seq (.seq (.region [
 oP 11 (.load (some 6) (.t 1)),
 oP 12 (.call 298 [(.t 11)]),
 oP 13 (.un .not (.t 12))])
 (kL [1,13] 1 (.cond (.t 13)
 (.seq (.region [
 oP 2 (.mov (.c (.c .nils))),
 oP 3 (.mov (cI 1))])
 (.ret))
 (.skip))))
 (kL [1] 1 (.seq (.region [
 oP 15 (.faddr 4 (.t 1)),
 oP 16 (lD 15),
 oP 17 (.call 299 [(.t 16)]),
 mV 14 17,
 oP 18 (.ext (.t 14) 0),
 oP 19 (.ext (.t 14) 1),
 mV 4 18,
 mV 5 19])
 (kL [1,4,5] 1 (.seq (.seq (.region [
 mV 20 5,
 oP 21 (.bin .neq .num (.t 20) (cI 0))])
 (kL [1,4,5,21] 1 (.cond (.t 21)
 (.seq (.region [
 mV 22 5,
 oP 2 (.mov (.c (.c .nils))),
 mV 3 22])
 (.ret))
 (.skip))))
 (kL [1,4] 1 (.seq (.region [
 oP 23 (.build [.nils,(.int .i64 0)] []),
 oP 24 (.box false 2 (.t 23)),
 mV 6 24])
 (kL [1,4,6] 1 (.seq (.seq (.region [
 oP 25 (.faddr 0 (.t 1)),
 oP 26 (lD 25),
 oP 27 (.faddr 1 (.t 1)),
 oP 28 (lD 27),
 oP 29 (.faddr 2 (.t 1)),
 oP 30 (lD 29),
 oP 31 (.faddr 3 (.t 1)),
 oP 32 (lD 31),
 oP 33 (.build [(.int .i64 0),(.int .i64 0),(.int .i64 0),(.int .i64 0),(.int .i64 0)] [(0,(1,(cI 197))),(1,(1,(.t 26))),(2,(1,(.t 28))),(3,(1,(.t 30))),(4,(1,(.t 32)))]),
 oP 34 (.mov (cI 0))])
 (kL [1,4,6,33,34] 1 (.block 0 (.loop (kL [1,4,6,33,34] 1 (.seq (.region [
 oP 35 (.bin .lss .num (.t 34) (cI 5))])
 (kL [1,4,6,33,34,35] 1 (.seq (.cond (.t 35)
 (.skip)
 (.exit 0))
 (kL [1,4,6,33,34] 1 (.seq (.block 1 (.seq (.region [
 oP 36 (.index 5 1 false (.t 33) (.t 34)),
 mV 8 36])
 (kL [1,4,6,8,33,34] 1 (.region [
 mV 37 6,
 mV 38 8,
 oP 39 (.conv (.toInt .u64) (.t 38)),
 oP 40 (.call 290 [(.t 37),(.t 39),(cI 8)])]))))
 (kL [1,4,6,33,34] 1 (.region [
 oP 41 (.bin .add .num (.t 34) (cI 1)),
 mV 34 41]))))))))))))
 (kL [1,4,6] 1 (.seq (.seq (.region [
 mV 42 4,
 oP 43 (.faddr 5 (.t 1)),
 oP 44 (lD 43),
 oP 45 (.build [.nils,.nils] [(0,(1,(.t 42))),(1,(1,(.t 44)))]),
 oP 46 (.mov (cI 0))])
 (kL [6,45,46] 0 (.block 2 (.loop (kL [6,45,46] 0 (.seq (.region [
 oP 47 (.bin .lss .num (.t 46) (cI 2))])
 (kL [6,45,46,47] 0 (.seq (.cond (.t 47)
 (.skip)
 (.exit 2))
 (kL [6,45,46] 0 (.seq (.block 3 (.seq (.region [
 oP 48 (.index 2 1 false (.t 45) (.t 46)),
 mV 10 48])
 (kL [6,10,45,46] 0 (.seq (.region [
 mV 49 6,
 mV 50 10,
 oP 51 (.len .sl (.t 50)),
 oP 52 (.conv (.toInt .u64) (.t 51)),
 oP 53 (.call 290 [(.t 49),(.t 52),(cI 8)])])
 (kL [6,10,45,46] 0 (.region [
 mV 54 6,
 mV 55 10,
 oP 56 (.call 291 [(.t 54),(.t 55)])]))))))
 (kL [6,45,46] 0 (.region [
 oP 57 (.bin .add .num (.t 46) (cI 1)),
 mV 46 57]))))))))))))
 (kL [6] 0 (.seq (.region [
 mV 58 6,
 oP 59 (.call 292 [(.t 58)]),
 oP 60 (.call 300 [(.t 59)]),
 mV 2 60,
 oP 3 (.mov (cI 0))])
 (.ret)))))))))))))))⟩
def n372:NF:=⟨15,[2],
 .seq (.region [
 oP 2 (.mov (cI 0))])
 (kL [0] 0 (.seq (.seq (.region [
 mV 3 0,
 oP 4 (.bin .eql .ptr (.t 3) (.c (.c .nilp)))])
 (kL [0,4] 0 (.cond (.t 4)
 (.seq (.region [
 oP 2 (.mov (cI 0))])
 (.ret))
 (.skip))))
 (kL [0] 0 (.seq (.draw 0 [
 ⟨0,none,(mV 5 0),[]⟩,
 ⟨1,none,(oP 6 (.nilck (.t 5))),[]⟩,
 ⟨2,none,(oP 7 (.faddr 0 (.t 6))),[]⟩,
 ⟨3,none,(oP 8 (lD 7)),[]⟩,
 ⟨4,none,(mV 9 0),[]⟩,
 ⟨5,none,(oP 10 (.nilck (.t 9))),[]⟩,
 ⟨6,none,(oP 11 (.faddr 1 (.t 10))),[]⟩,
 ⟨7,none,(oP 12 (lD 11)),[]⟩,
 ⟨8,none,(oP 13 (.call 388 [(.t 12),(cI 1000000)])),[(3,(oP 8 (lD 7)))]⟩,
 ⟨9,none,(oP 14 (.bin .add .num (.t 8) (.t 13))),[]⟩,
 ⟨10,none,(mV 2 14),[]⟩])
 (.ret)))))⟩
def n373:NF:=⟨85,[8],
 .seq (.region [
 oP 5 (.box true 8 (.t 1)),
 oP 8 (.mov (.c (.c .nils)))])
 (kL [0,2,3,5] 1 (.seq (.region [
 oP 9 (.mov (.c (.c .nils)))])
 (kL [0,2,3,5,9] 1 (.seq (.seq (.region [
 mV 13 3,
 oP 14 (.len .sl (.t 13)),
 oP 15 (.mov (cI 0))])
 (kL [0,2,3,5,9,13,14,15] 1 (.block 0 (.loop (kL [0,2,3,5,9,13,14,15] 1 (.seq (.region [
 oP 16 (.bin .lss .num (.t 15) (.t 14))])
 (kL [0,2,3,5,9,13,14,15,16] 1 (.seq (.cond (.t 16)
 (.skip)
 (.exit 0))
 (kL [0,2,3,5,9,13,14,15] 1 (.seq (.block 1 (.seq (.region [
 mV 17 15,
 oP 18 (iA 3 13 15),
 oP 19 (.load (some 3) (.t 18)),
 oP 11 (.box true 3 (.c (.agg [(.int .i64 0),.nils,(.int .i64 0)]))),
 mV 10 17,
 oW (.store 3 (.t 11) (.t 19))])
 (kL [0,2,3,5,9,10,11,13,14,15] 2 (.seq (.draw 0 [
 ⟨0,none,(mV 20 0),[]⟩,
 ⟨1,none,(oP 21 (.nilck (.t 20))),[]⟩,
 ⟨2,none,(oP 22 (.faddr 0 (.t 21))),[]⟩,
 ⟨3,none,(oP 23 (.faddr 1 (.t 22))),[]⟩,
 ⟨4,none,(oP 24 (lD 23)),[]⟩,
 ⟨5,none,(mV 25 2),[]⟩,
 ⟨6,none,(oP 26 (iA 1 24 25)),[]⟩,
 ⟨7,none,(oP 27 (lD 26)),[]⟩,
 ⟨8,none,(oP 28 (.faddr 4 (.t 5))),[]⟩,
 ⟨9,none,(oP 29 (lD 28)),[]⟩,
 ⟨10,none,(mV 30 2),[]⟩,
 ⟨13,none,(mV 33 10),[]⟩,
 ⟨11,none,(oP 31 (.call 381 [(.t 29),(.t 30)])),[(4,(oP 24 (lD 23))),(6,(oP 26 (iA 1 24 25))),(7,(oP 27 (lD 26)))]⟩,
 ⟨12,none,(oP 32 (.bin .andNot .num (.t 27) (.t 31))),[]⟩,
 ⟨14,none,(oP 34 (.bin .shr .num (.t 32) (.t 33))),[]⟩,
 ⟨15,none,(oP 35 (.bin .and .num (.t 34) (.c (.c (.int .u64 1))))),[]⟩,
 ⟨16,none,(oP 36 (.bin .eql .num (.t 35) (.c (.c (.int .u64 1))))),[]⟩,
 ⟨17,none,(mV 12 36),[]⟩])
 (kL [0,2,3,5,9,10,11,12,13,14,15] 2 (.seq (.seq (.draw 0 [
 ⟨0,none,(mV 37 12),[]⟩,
 ⟨1,none,(oP 38 (.un .not (.t 37))),[]⟩,
 ⟨2,none,(mV 39 38),[]⟩,
 ⟨3,none,(oG 40 (.faddr 1 (.t 11)) 39 false),[]⟩,
 ⟨4,none,(oG 41 (lD 40) 39 false),[]⟩,
 ⟨5,none,(oG 42 (.len .sl (.t 41)) 39 false),[]⟩,
 ⟨6,none,(oG 43 (.bin .eql .num (.t 42) (cI 0)) 39 false),[]⟩,
 ⟨7,none,(oP 44 (.pick (.t 39) (cB true) (.t 43))),[]⟩,
 ⟨8,none,(mV 45 44),[]⟩,
 ⟨9,none,(oG 46 (.faddr 0 (.t 11)) 45 false),[]⟩,
 ⟨10,none,(oG 47 (lD 46) 45 false),[]⟩,
 ⟨11,none,(mG 48 3 45 false),[]⟩,
 ⟨12,none,(mG 49 2 45 false),[]⟩,
 ⟨13,none,(oG 50 (iA 3 48 49) 45 false),[]⟩,
 ⟨14,none,(oG 51 (.faddr 0 (.t 50)) 45 false),[]⟩,
 ⟨15,none,(oG 52 (lD 51) 45 false),[]⟩,
 ⟨16,none,(oG 53 (.bin .neq .num (.t 47) (.t 52)) 45 false),[]⟩,
 ⟨17,none,(oP 54 (.pick (.t 45) (cB true) (.t 53))),[]⟩])
 (kL [0,2,3,5,9,10,11,13,14,15,54] 2 (.cond (.t 54)
 (.exit 1)
 (.skip))))
 (kL [0,2,3,5,9,10,11,13,14,15] 2 (.seq (.draw 0 [
 ⟨0,none,(mV 55 0),[]⟩,
 ⟨1,none,(oP 56 (.nilck (.t 55))),[]⟩,
 ⟨2,none,(oP 57 (.faddr 9 (.t 56))),[]⟩,
 ⟨3,none,(oP 58 (lD 57)),[]⟩,
 ⟨4,none,(mV 59 2),[]⟩,
 ⟨5,none,(oP 60 (iA 1 58 59)),[]⟩,
 ⟨6,none,(oP 61 (lD 60)),[]⟩,
 ⟨7,none,(oP 62 (.call 265 [(.t 61)])),[]⟩,
 ⟨8,none,(oP 63 (.un .not (.t 62))),[]⟩,
 ⟨9,none,(mV 64 63),[]⟩,
 ⟨10,none,(mG 65 3 64 false),[]⟩,
 ⟨11,none,(mG 66 2 64 false),[]⟩,
 ⟨12,none,(oG 67 (iA 3 65 66) 64 false),[]⟩,
 ⟨13,none,(oG 68 (.faddr 2 (.t 67)) 64 false),[]⟩,
 ⟨14,none,(oG 69 (lD 68) 64 false),[]⟩,
 ⟨15,none,(oG 70 (.faddr 2 (.t 11)) 64 false),[]⟩,
 ⟨16,none,(oG 71 (lD 70) 64 false),[]⟩,
 ⟨17,none,(mG 72 0 64 false),[]⟩,
 ⟨18,none,(oG 73 (.nilck (.t 72)) 64 false),[]⟩,
 ⟨19,none,(oG 74 (.faddr 0 (.t 73)) 64 false),[]⟩,
 ⟨20,none,(oG 75 (.faddr 3 (.t 74)) 64 false),[]⟩,
 ⟨21,none,(oG 76 (lD 75) 64 false),[]⟩,
 ⟨22,none,(oG 77 (.call 389 [(.t 69),(.t 71),(.t 76)]) 64 false),[]⟩,
 ⟨23,none,(oP 78 (.pick (.t 64) (cB true) (.t 77))),[]⟩])
 (kL [0,2,3,5,9,10,13,14,15,78] 1 (.cond (.t 78)
 (.region [
 mV 79 9,
 mV 80 10,
 oP 81 (.bslice true 1 1 [(.int .i64 0)] [(0,(1,(.t 80)))]),
 oP 82 (.app 1 8 (.t 79) (.t 81)),
 mV 9 82])
 (.skip)))))))))))
 (kL [0,2,3,5,9,13,14,15] 1 (.region [
 oP 83 (.bin .add .num (.t 15) (cI 1)),
 mV 15 83]))))))))))))
 (kL [9] 0 (.seq (.region [
 mV 84 9,
 mV 8 84])
 (.ret)))))))⟩
def n343:NF:=⟨96,[8,9],
 .seq (.region [
 oP 8 (.mov (.c (.c .nils))),
 oP 9 (.mov (.c (.c .nils)))])
 (kL [0,1,2,3] 0 (.seq (.seq (.region [
 mV 14 0,
 oP 15 (.bin .eql .ptr (.t 14) (.c (.c .nilp))),
 mV 16 15,
 mG 17 1 16 false,
 oG 18 (.call 272 [(.t 17)]) 16 false,
 oG 19 (.un .not (.t 18)) 16 false,
 oP 20 (.pick (.t 16) (cB true) (.t 19))])
 (kL [0,1,2,3,20] 0 (.cond (.t 20)
 (.seq (.region [
 oP 8 (.mov (.c (.c .nils))),
 oP 9 (.mov (.c (.c .nils)))])
 (.ret))
 (.skip))))
 (kL [0,1,2,3] 0 (.seq (.region [
 mV 22 2,
 oP 23 (.call 375 [(.t 22)]),
 mV 21 23,
 oP 24 (.ext (.t 21) 0),
 oP 25 (.ext (.t 21) 1),
 oP 10 (.box true 6 (.c (.agg [(.int .i64 0),(.int .i64 0),(.int .i64 0),(.int .i64 0),.nils,.nils]))),
 oW (.store 6 (.t 10) (.t 24)),
 mV 11 25])
 (kL [0,1,3,10,11] 1 (.seq (.seq (.draw 0 [
 ⟨0,none,(mV 26 11),[]⟩,
 ⟨1,none,(oP 27 (.bin .neq .num (.t 26) (cI 0))),[]⟩,
 ⟨2,none,(mV 28 27),[]⟩,
 ⟨3,none,(mG 29 0 28 false),[]⟩,
 ⟨4,none,(oG 30 (.faddr 1 (.t 10)) 28 false),[]⟩,
 ⟨5,none,(oG 31 (lD 30) 28 false),[]⟩,
 ⟨6,none,(oG 32 (.call 273 [(.t 29),(.t 31)]) 28 false),[]⟩,
 ⟨7,none,(oG 33 (.un .not (.t 32)) 28 false),[]⟩,
 ⟨8,none,(oP 34 (.pick (.t 28) (cB true) (.t 33))),[]⟩,
 ⟨9,none,(mV 35 34),[]⟩,
 ⟨10,none,(oG 36 (.faddr 1 (.t 10)) 35 false),[]⟩,
 ⟨11,none,(oG 37 (lD 36) 35 false),[]⟩,
 ⟨12,none,(mG 38 0 35 false),[]⟩,
 ⟨13,none,(oG 39 (.nilck (.t 38)) 35 false),[]⟩,
 ⟨14,none,(oG 40 (.faddr 9 (.t 39)) 35 false),[]⟩,
 ⟨15,none,(oG 41 (lD 40) 35 false),[]⟩,
 ⟨16,none,(oG 42 (.bin .eql .num (.t 37) (.t 41)) 35 false),[]⟩,
 ⟨17,none,(oP 43 (.pick (.t 35) (cB true) (.t 42))),[]⟩])
 (kL [0,1,3,10,43] 1 (.cond (.t 43)
 (.seq (.region [
 oP 8 (.mov (.c (.c .nils))),
 oP 9 (.mov (.c (.c .nils)))])
 (.ret))
 (.skip))))
 (kL [0,1,3,10] 1 (.seq (.region [
 oP 45 (.load (some 6) (.t 10)),
 mV 46 1,
 oP 47 (.call 376 [(.t 45),(.t 46)]),
 mV 44 47,
 oP 48 (.ext (.t 44) 0),
 oP 49 (.ext (.t 44) 1),
 mV 12 48,
 mV 13 49])
 (kL [0,1,3,10,12,13] 1 (.seq (.seq (.region [
 mV 50 13,
 oP 51 (.un .not (.t 50))])
 (kL [0,1,3,10,12,51] 1 (.cond (.t 51)
 (.seq (.region [
 oP 8 (.mov (.c (.c .nils))),
 oP 9 (.mov (.c (.c .nils)))])
 (.ret))
 (.skip))))
 (kL [0,1,3,10,12] 1 (.seq (.region [
 mV 52 3,
 oP 53 (.min [(.t 52),(cI 30000)]),
 oP 54 (.max [(cI (-30000)),(.t 53)]),
 mV 3 54])
 (kL [0,1,3,10,12] 1 (.seq (.seq (.region [
 mV 55 0,
 oP 56 (.nilck (.t 55)),
 oP 57 (.faddr 18 (.t 56)),
 oP 58 (lD 57),
 oP 59 (.un .not (.t 58))])
 (kL [0,1,3,10,12,59] 1 (.cond (.t 59)
 (.seq (.region [
 mV 60 0,
 oP 61 (.load (some 6) (.t 10)),
 mV 62 12,
 mV 63 1,
 mV 64 3,
 oP 65 (.call 390 [(.t 60),(.t 61),(.t 62),(.t 63),(.t 64)])])
 (kL [0] 0 (.seq (.region [
 mV 66 0,
 oP 67 (.call 380 [(.t 66)]),
 oP 8 (.mov (.c (.c .nils))),
 mV 9 67])
 (.ret))))
 (.skip))))
 (kL [0,1,3,10,12] 1 (.seq (.region [
 mV 68 0,
 oP 69 (.faddr 1 (.t 10)),
 oP 70 (lD 69),
 oP 71 (.call 384 [(.t 68),(cI 1),(.t 70)])])
 (kL [0,1,3,10,12] 1 (.seq (.seq (.region [
 mV 72 0,
 oP 73 (.nilck (.t 72)),
 oP 74 (.faddr 9 (.t 73)),
 oP 75 (lD 74),
 oP 76 (.bin .neq .num (.t 75) (cI 0))])
 (kL [0,1,3,10,12,76] 1 (.cond (.t 76)
 (.seq (.region [
 mV 77 0,
 oP 78 (.faddr 1 (.t 10)),
 oP 79 (lD 78),
 mV 80 12,
 mV 81 1,
 mV 82 3,
 oP 83 (.call 391 [(.t 77),(.t 79),(.t 80),(.t 81),(.t 82)])])
 (kL [0,1,3,10] 1 (.seq (.region [
 mV 84 0,
 oP 85 (.call 274 [(.t 84)]),
 oP 86 (.bin .eql .num (.t 85) (cI 64))])
 (kL [0,1,3,10,86] 1 (.cond (.t 86)
 (.seq (.region [
 mV 87 0,
 oP 88 (.call 380 [(.t 87)]),
 oP 8 (.mov (.c (.c .nils))),
 mV 9 88])
 (.ret))
 (.skip))))))
 (.skip))))
 (kL [0,1,3,10] 1 (.seq (.region [
 mV 89 0,
 oP 90 (.load (some 6) (.t 10)),
 mV 91 1,
 mV 92 3,
 oP 93 (.call 392 [(.t 89),(.t 90),(.t 91),(.t 92)]),
 mV 94 0,
 oP 95 (.call 380 [(.t 94)]),
 mV 8 93,
 mV 9 95])
 (.ret)))))))))))))))))))))⟩
def n374:NF:=⟨23,[8],
 .seq (.region [
 oP 8 (.mov (cI 0))])
 (kL [0,1,2,3] 0 (.seq (.region [
 mV 10 3,
 oP 11 (.min [(.t 10),(cI 1000)]),
 oP 12 (.max [(cI 0),(.t 11)]),
 mV 9 12])
 (kL [0,1,2,9] 0 (.seq (.region [
 mV 13 1,
 oP 14 (.call 393 [(.t 13),(cI 1000000000000)]),
 mV 15 0,
 oP 16 (.call 393 [(.t 15),(cI 1000000000000)]),
 oP 17 (.bin .sub .num (.t 14) (.t 16)),
 mV 18 2,
 mV 19 9,
 oP 20 (.call 393 [(.t 18),(.t 19)]),
 oP 21 (.bin .add .num (.t 17) (.t 20)),
 oP 22 (.call 393 [(.t 21),(cI 30000)]),
 mV 8 22])
 (.ret)))))⟩
def n375b:Code:=
 .seq (.region [
 oP 2 (.box false 6 (.c (.agg [(.int .i64 0),(.int .i64 0),(.int .i64 0),(.int .i64 0),.nils,.nils]))),
 oP 3 (.mov (cI 0))])
 (kL [0,2] 0 (.seq (.block 0 (.seq (.region [
 mV 10 0,
 oP 11 (.len .sl (.t 10)),
 oP 12 (.bin .lss .num (.t 11) (cI 9)),
 mV 9 12])
 (kL [0,2,9] 0 (.cond (.t 9)
 (.seq (.region [
 oP 13 (.build [(.int .i64 0),(.int .i64 0),(.int .i64 0),(.int .i64 0),.nils,.nils] []),
 oW (.store 6 (.t 2) (.t 13)),
 oP 3 (.mov (cI 2))])
 (.ret))
 (.seq (.region [
 mV 15 0,
 oP 16 (.call 394 [(.t 15)]),
 oP 17 (.un .not (.t 16)),
 mV 14 17])
 (kL [0,2,14] 0 (.cond (.t 14)
 (.seq (.region [
 oP 18 (.build [(.int .i64 0),(.int .i64 0),(.int .i64 0),(.int .i64 0),.nils,.nils] []),
 oW (.store 6 (.t 2) (.t 18)),
 oP 3 (.mov (cI 4))])
 (.ret))
 (.skip))))))))
 (kL [0,2] 0 (.seq (.region [
 mV 19 0,
 mV 20 0,
 oP 21 (.len .sl (.t 20)),
 oP 22 (.bin .sub .num (.t 21) (cI 2)),
 oP 23 (.slice 1 (.t 19) none (some (.t 22)) none),
 oP 24 (.call 395 [(.t 23)]),
 mV 4 24])
 (kL [2,4] 0 (.seq (.region [
 mV 25 4,
 oP 26 (.call 396 [(.t 25)]),
 mV 5 26])
 (kL [2,4,5] 0 (.seq (.region [
 mV 27 4,
 oP 28 (.call 396 [(.t 27)]),
 mV 29 4,
 oP 30 (.call 396 [(.t 29)]),
 mV 31 4,
 oP 32 (.call 396 [(.t 31)]),
 mV 33 4,
 oP 34 (.call 396 [(.t 33)]),
 oP 35 (.build [(.int .i64 0),(.int .i64 0),(.int .i64 0),(.int .i64 0),.nils,.nils] [(0,(1,(.t 28))),(1,(1,(.t 30))),(2,(1,(.t 32))),(3,(1,(.t 34)))]),
 oP 6 (.box true 6 (.c (.agg [(.int .i64 0),(.int .i64 0),(.int .i64 0),(.int .i64 0),.nils,.nils]))),
 oW (.store 6 (.t 6) (.t 35))])
 (kL [2,4,5,6] 1 (.seq (.region [
 mV 36 4,
 mV 37 4,
 oP 38 (.call 396 [(.t 37)]),
 oP 39 (.call 397 [(.t 36),(.t 38)]),
 mV 7 39])
 (kL [2,4,5,6,7] 1 (.seq (.region [
 mV 40 4,
 mV 41 4,
 oP 42 (.call 396 [(.t 41)]),
 oP 43 (.call 397 [(.t 40),(.t 42)]),
 oP 44 (.faddr 5 (.t 6)),
 oW (.store 1 (.t 44) (.t 43))])
 (kL [2,4,5,6,7] 1 (.seq (.seq (.region [
 mV 45 5,
 oP 46 (.bin .neq .num (.t 45) (cI 197)),
 mV 47 46,
 mG 48 4 47 false,
 oG 49 (.call 398 [(.t 48)]) 47 false,
 oG 50 (.bin .neq .num (.t 49) (cI 0)) 47 false,
 oP 51 (.pick (.t 47) (cB true) (.t 50))])
 (kL [2,6,7,51] 1 (.cond (.t 51)
 (.seq (.region [
 oP 52 (.build [(.int .i64 0),(.int .i64 0),(.int .i64 0),(.int .i64 0),.nils,.nils] []),
 oW (.store 6 (.t 2) (.t 52)),
 oP 3 (.mov (cI 3))])
 (.ret))
 (.skip))))
 (kL [2,6,7] 1 (.seq (.region [
 oP 8 (.mov (cI 0))])
 (kL [2,6,7] 1 (.seq (.seq (.region [
 mV 54 7,
 oP 55 (.call 399 [(.t 54)]),
 mV 53 55,
 oP 56 (.ext (.t 53) 0),
 oP 57 (.ext (.t 53) 1),
 oP 58 (.faddr 4 (.t 6)),
 oW (.store 1 (.t 58) (.t 56)),
 mV 8 57])
 (kL [2,6,8] 1 (.seq (.region [
 mV 59 8,
 oP 60 (.bin .neq .num (.t 59) (cI 0))])
 (kL [2,6,8,60] 1 (.cond (.t 60)
 (.seq (.region [
 oP 61 (.build [(.int .i64 0),(.int .i64 0),(.int .i64 0),(.int .i64 0),.nils,.nils] []),
 mV 62 8,
 oW (.store 6 (.t 2) (.t 61)),
 mV 3 62])
 (.ret))
 (.skip))))))
 (kL [2,6] 1 (.seq (.seq (.region [
 oP 63 (.load (some 6) (.t 6)),
 oP 64 (.call 298 [(.t 63)]),
 oP 65 (.un .not (.t 64))])
 (kL [2,6,65] 1 (.cond (.t 65)
 (.seq (.region [
 oP 66 (.build [(.int .i64 0),(.int .i64 0),(.int .i64 0),(.int .i64 0),.nils,.nils] []),
 oW (.store 6 (.t 2) (.t 66)),
 oP 3 (.mov (cI 3))])
 (.ret))
 (.skip))))
 (kL [2,6] 1 (.seq (.region [
 oP 67 (.load (some 6) (.t 6)),
 oW (.store 6 (.t 2) (.t 67)),
 oP 3 (.mov (cI 0))])
 (.ret)))))))))))))))))))))))
def n375:NF:=⟨68,[2,3],.fin n375b [⟨some 2,.load (some 6) (.t 2),none⟩]⟩
def n376:NF:=⟨23,[4,5],
 .seq (.region [
 oP 2 (.box true 6 (.t 0)),
 oP 4 (.mov (cI 0)),
 oP 5 (.mov (cB false))])
 (kL [1,2] 1 (.seq (.region [
 oP 9 (.faddr 4 (.t 2)),
 oP 10 (lD 9),
 oP 11 (.call 336 [(.t 10),(cI 1)]),
 mV 8 11,
 oP 12 (.ext (.t 8) 0),
 oP 13 (.ext (.t 8) 1),
 oP 6 (.box true 5 (.c (.agg [(.int .i64 0),(.int .i64 0),(.int .i64 0),(.int .i64 0),.nils]))),
 oW (.store 5 (.t 6) (.t 12)),
 mV 7 13])
 (kL [1,6,7] 2 (.seq (.draw 0 [
 ⟨0,none,(oP 14 (.faddr 2 (.t 6))),[]⟩,
 ⟨1,none,(oP 15 (lD 14)),[]⟩,
 ⟨2,none,(mV 16 7),[]⟩,
 ⟨3,none,(mV 17 16),[]⟩,
 ⟨4,none,(oG 18 (.faddr 1 (.t 6)) 17 true),[]⟩,
 ⟨5,none,(oG 19 (lD 18) 17 true),[]⟩,
 ⟨6,none,(mG 20 1 17 true),[]⟩,
 ⟨7,none,(oG 21 (.bin .eql .num (.t 19) (.t 20)) 17 true),[]⟩,
 ⟨8,none,(oP 22 (.pick (.t 17) (.t 21) (cB false))),[]⟩,
 ⟨9,none,(mV 4 15),[]⟩,
 ⟨10,none,(mV 5 22),[]⟩])
 (.ret)))))⟩
def n377:NF:=⟨45,[],
 .seq (.region [
 oP 6 (.box true 6 (.t 1))])
 (kL [0,2,3,4,6] 1 (.seq (.seq (.region [
 mV 12 0,
 oP 13 (.nilck (.t 12)),
 oP 14 (.faddr 23 (.t 13)),
 oP 15 (.faddr 1 (.t 14)),
 oP 16 (.faddr 0 (.t 15)),
 oP 17 (lD 16),
 oP 18 (.bin .eql .num (.t 17) (cI 1))])
 (kL [0,2,3,4,6,18] 1 (.cond (.t 18)
 (.region [
 mV 19 0,
 oP 20 (.call 378 [(.t 19)])])
 (.skip))))
 (kL [0,2,3,4,6] 1 (.seq (.region [
 mV 21 0,
 oP 22 (.nilck (.t 21)),
 oP 23 (.faddr 9 (.t 22)),
 oP 24 (lD 23),
 oP 25 (.bin .neq .num (.t 24) (cI 0)),
 mV 26 25,
 mG 27 0 26 true,
 oG 28 (.call 274 [(.t 27)]) 26 true,
 mG 29 2 26 true,
 oG 30 (.bin .eql .num (.t 28) (.t 29)) 26 true,
 oP 31 (.pick (.t 26) (.t 30) (cB false))])
 (kL [0,2,3,4,6,31] 1 (.cond (.t 31)
 (.seq (.region [
 oP 33 (.faddr 4 (.t 6)),
 oP 34 (lD 33),
 oP 35 (.call 336 [(.t 34),(cI 2)]),
 mV 32 35,
 oP 36 (.ext (.t 32) 0),
 oP 37 (.ext (.t 32) 1),
 oP 10 (.box true 5 (.c (.agg [(.int .i64 0),(.int .i64 0),(.int .i64 0),(.int .i64 0),.nils]))),
 oW (.store 5 (.t 10) (.t 36)),
 mV 11 37])
 (kL [0,2,3,4,10] 2 (.region [
 mV 38 0,
 mV 39 2,
 mV 40 3,
 mV 41 4,
 oP 42 (.faddr 3 (.t 10)),
 oP 43 (lD 42),
 oP 44 (.call 391 [(.t 38),(.t 39),(.t 40),(.t 41),(.t 43)])])))
 (.skip)))))))⟩
def n378b:Code:=
 .seq (.region [
 oP 2 (.box false 6 (.c (.agg [(.int .i64 0),(.int .i64 0),(.int .i64 0),(.int .i64 0),.nils,.nils]))),
 oP 3 (.mov (cB false))])
 (kL [0,2] 0 (.seq (.region [
 mV 9 0,
 oP 10 (.nilck (.t 9)),
 oP 11 (.faddr 11 (.t 10)),
 oP 12 (lD 11),
 oP 13 (.call 400 [(.t 12),(cI 0)]),
 mV 8 13,
 oP 14 (.ext (.t 8) 0),
 oP 15 (.ext (.t 8) 1),
 mV 4 14,
 mV 5 15])
 (kL [0,2,4,5] 0 (.seq (.region [
 mV 16 0,
 oP 17 (.nilck (.t 16)),
 oP 18 (.faddr 17 (.t 17)),
 oW (.store 1 (.t 18) (cI 0))])
 (kL [2,4,5] 0 (.seq (.region [
 mV 20 4,
 oP 21 (.call 401 [(.t 20)]),
 mV 19 21,
 oP 22 (.ext (.t 19) 0),
 oP 23 (.ext (.t 19) 1),
 oP 6 (.box true 6 (.c (.agg [(.int .i64 0),(.int .i64 0),(.int .i64 0),(.int .i64 0),.nils,.nils]))),
 oW (.store 6 (.t 6) (.t 22)),
 mV 7 23])
 (kL [2,5,6,7] 1 (.seq (.region [
 oP 24 (.load (some 6) (.t 6)),
 mV 25 5,
 mV 26 25,
 mG 27 7 26 true,
 oG 28 (.bin .eql .num (.t 27) (cI 0)) 26 true,
 oP 29 (.pick (.t 26) (.t 28) (cB false)),
 oW (.store 6 (.t 2) (.t 24)),
 mV 3 29])
 (.ret)))))))))
def n378:NF:=⟨30,[2,3],.fin n378b [⟨some 2,.load (some 6) (.t 2),none⟩]⟩
def n379:NF:=⟨22,[],
 .seq (.region [
 oP 4 (.box true 6 (.t 1))])
 (kL [0,2,4] 1 (.draw 1 [
 ⟨0,none,(mV 6 0),[]⟩,
 ⟨1,none,(mV 7 0),[]⟩,
 ⟨2,none,(oP 8 (.nilck (.t 7))),[]⟩,
 ⟨3,none,(oP 9 (.faddr 31 (.t 8))),[]⟩,
 ⟨4,none,(oP 10 (lD 9)),[]⟩,
 ⟨5,none,(mV 11 0),[]⟩,
 ⟨6,none,(oP 12 (.nilck (.t 11))),[]⟩,
 ⟨7,none,(oP 13 (.faddr 9 (.t 12))),[]⟩,
 ⟨8,none,(oP 14 (lD 13)),[]⟩,
 ⟨9,none,(mV 15 2),[]⟩,
 ⟨10,none,(oP 16 (.load (some 6) (.t 4))),[]⟩,
 ⟨11,none,(oP 17 (.build [(.int .i64 0),(.int .i64 0),(.int .i64 0),(.int .i64 0),(.int .i64 0),(.int .i64 0),(.int .i64 0),(.int .i64 0),.nils,.nils] [(0,(1,(cI 5))),(1,(1,(.t 14))),(3,(1,(.t 15))),(4,(6,(.t 16)))])),[]⟩,
 ⟨12,(some 0),(oP 18 (.bslice false 10 1 [(.int .i64 0),(.int .i64 0),(.int .i64 0),(.int .i64 0),(.int .i64 0),(.int .i64 0),(.int .i64 0),(.int .i64 0),.nils,.nils] [(0,(10,(.t 17)))])),[]⟩,
 ⟨13,none,(oP 19 (.app 10 112 (.t 10) (.t 18))),[]⟩,
 ⟨14,none,(oP 20 (.nilck (.t 6))),[]⟩,
 ⟨15,none,(oP 21 (.faddr 31 (.t 20))),[]⟩,
 ⟨16,none,(oW (.store 1 (.t 21) (.t 19))),[]⟩]))⟩
def n380:NF:=⟨12,[2],
 .seq (.region [
 oP 2 (.mov (.c (.c .nils)))])
 (kL [0] 0 (.seq (.region [
 mV 4 0,
 oP 5 (.nilck (.t 4)),
 oP 6 (.faddr 31 (.t 5)),
 oP 7 (lD 6),
 mV 3 7])
 (kL [0,3] 0 (.seq (.region [
 mV 8 0,
 oP 9 (.nilck (.t 8)),
 oP 10 (.faddr 31 (.t 9)),
 oW (.store 1 (.t 10) (.c (.c .nils)))])
 (kL [3] 0 (.seq (.region [
 mV 11 3,
 mV 2 11])
 (.ret)))))))⟩
def n381:NF:=⟨13,[4],
 .seq (.region [
 oP 4 (.mov (.c (.c (.int .u64 0))))])
 (kL [0,1] 0 (.seq (.seq (.region [
 mV 5 1,
 mV 6 0,
 oP 7 (.len .sl (.t 6)),
 oP 8 (.bin .geq .num (.t 5) (.t 7))])
 (kL [0,1,8] 0 (.cond (.t 8)
 (.seq (.region [
 oP 4 (.mov (.c (.c (.int .u64 0))))])
 (.ret))
 (.skip))))
 (kL [0,1] 0 (.seq (.region [
 mV 9 0,
 mV 10 1,
 oP 11 (iA 1 9 10),
 oP 12 (lD 11),
 mV 4 12])
 (.ret)))))⟩
def n382:NF:=⟨13,[],
 .seq (.region [
 mV 2 0,
 oP 3 (.bin .neq .ptr (.t 2) (.c (.c .nilp)))])
 (kL [0,3] 0 (.cond (.t 3)
 (.region [
 mV 4 0,
 mV 5 0,
 oP 6 (.nilck (.t 5)),
 oP 7 (.faddr 1 (.t 6)),
 oP 8 (lD 7),
 oP 9 (.bin .add .num (.t 8) (cI 1)),
 oP 10 (.min [(.t 9),(cI 1000000)]),
 oP 11 (.nilck (.t 4)),
 oP 12 (.faddr 1 (.t 11)),
 oW (.store 1 (.t 12) (.t 10))])
 (.skip)))⟩
def n274:NF:=⟨15,[2],
 .seq (.region [
 oP 2 (.mov (cI 0))])
 (kL [0] 0 (.seq (.seq (.region [
 mV 6 0,
 oP 7 (.nilck (.t 6)),
 oP 8 (.faddr 19 (.t 7)),
 oP 9 (lD 8),
 oP 10 (.call 60 [(.t 9)]),
 mV 5 10,
 oP 11 (.ext (.t 5) 0),
 oP 12 (.ext (.t 5) 1),
 mV 3 11,
 mV 4 12])
 (kL [3,4] 0 (.seq (.region [
 mV 13 4])
 (kL [3,13] 0 (.cond (.t 13)
 (.seq (.region [
 mV 14 3,
 mV 2 14])
 (.ret))
 (.skip))))))
 (kL [] 0 (.seq (.region [
 oP 2 (.mov (cI 64))])
 (.ret)))))⟩
def n56:NF:=⟨46,[6],
 .seq (.region [
 oP 6 (.mov (.c (.c .nils)))])
 (kL [0,1,2] 0 (.seq (.seq (.region [
 mV 11 0,
 oP 12 (.bin .eql .ptr (.t 11) (.c (.c .nilp))),
 mV 13 12,
 mG 14 1 13 false,
 oG 15 (.bin .lss .num (.t 14) (cI 0)) 13 false,
 oP 16 (.pick (.t 13) (cB true) (.t 15))])
 (kL [0,1,2,16] 0 (.cond (.t 16)
 (.seq (.region [
 oP 6 (.mov (.c (.c .nils)))])
 (.ret))
 (.skip))))
 (kL [0,1,2] 0 (.seq (.region [
 oP 7 (.mov (.c (.c .nils)))])
 (kL [0,1,2,7] 0 (.seq (.region [
 mV 17 1,
 mV 18 2,
 oP 19 (.max [(cI 1),(.t 18)]),
 oP 20 (.bin .sub .num (.t 17) (.t 19)),
 oP 8 (.box false 1 (cI 0)),
 oW (.store 1 (.t 8) (.t 20))])
 (kL [0,7,8] 0 (.seq (.seq (.region [
 mV 21 0,
 oP 22 (.nilck (.t 21)),
 oP 23 (.faddr 2 (.t 22)),
 oP 24 (lD 23),
 oP 25 (.len .sl (.t 24)),
 oP 26 (.mov (cI 0))])
 (kL [0,7,8,24,25,26] 0 (.block 0 (.loop (kL [0,7,8,24,25,26] 0 (.seq (.region [
 oP 27 (.bin .lss .num (.t 26) (.t 25))])
 (kL [0,7,8,24,25,26,27] 0 (.seq (.cond (.t 27)
 (.skip)
 (.exit 0))
 (kL [0,7,8,24,25,26] 0 (.seq (.block 1 (.seq (.region [
 oP 28 (iA 3 24 26),
 oP 29 (.load (some 3) (.t 28)),
 oP 10 (.box true 3 (.c (.agg [(.int .i64 0),(.int .i64 0),(.int .i64 0)]))),
 oW (.store 3 (.t 10) (.t 29))])
 (kL [0,7,8,10,24,25,26] 1 (.seq (.region [
 oP 30 (.faddr 2 (.t 10)),
 oP 31 (lD 30),
 oP 32 (lD 8),
 oP 33 (.bin .leq .num (.t 31) (.t 32))])
 (kL [0,7,8,10,24,25,26,33] 1 (.cond (.t 33)
 (.region [
 mV 34 7,
 oP 35 (.faddr 1 (.t 10)),
 oP 36 (lD 35),
 oP 37 (.bslice true 1 1 [(.int .i64 0)] [(0,(1,(.t 36)))]),
 oP 38 (.app 1 8 (.t 34) (.t 37)),
 mV 7 38])
 (.skip)))))))
 (kL [0,7,8,24,25,26] 0 (.region [
 oP 39 (.bin .add .num (.t 26) (cI 1)),
 mV 26 39]))))))))))))
 (kL [0,7,8] 0 (.seq (.region [
 mV 40 7,
 oP 41 (.call 74 [(.t 40)])])
 (kL [0,7,8] 0 (.seq (.region [
 mV 42 0,
 oP 43 (.mkfn 75 [(.t 8)]),
 oP 44 (.call 76 [(.t 42),(.t 43)])])
 (kL [7] 0 (.seq (.region [
 mV 45 7,
 mV 6 45])
 (.ret)))))))))))))))⟩
def n383:NF:=⟨17,[],
 .seq (.region [
 mV 5 0,
 oP 6 (.call 274 [(.t 5)]),
 mV 4 6])
 (kL [0,1,4] 0 (.seq (.region [
 mV 7 4,
 mV 8 1,
 oP 9 (.bin .neq .num (.t 7) (.t 8)),
 mV 10 9,
 mG 11 4 10 true,
 oG 12 (.bin .neq .num (.t 11) (cI 64)) 10 true,
 oP 13 (.pick (.t 10) (.t 12) (cB false))])
 (kL [0,4,13] 0 (.cond (.t 13)
 (.region [
 mV 14 0,
 mV 15 4,
 oP 16 (.call 384 [(.t 14),(cI 6),(.t 15)])])
 (.skip)))))⟩
def n384:NF:=⟨22,[],
 .draw 1 [
 ⟨0,none,(mV 6 0),[]⟩,
 ⟨1,none,(mV 7 0),[]⟩,
 ⟨2,none,(oP 8 (.nilck (.t 7))),[]⟩,
 ⟨3,none,(oP 9 (.faddr 31 (.t 8))),[]⟩,
 ⟨4,none,(oP 10 (lD 9)),[]⟩,
 ⟨5,none,(mV 11 1),[]⟩,
 ⟨6,none,(mV 12 0),[]⟩,
 ⟨7,none,(oP 13 (.nilck (.t 12))),[]⟩,
 ⟨8,none,(oP 14 (.faddr 9 (.t 13))),[]⟩,
 ⟨9,none,(oP 15 (lD 14)),[]⟩,
 ⟨10,none,(mV 16 2),[]⟩,
 ⟨11,none,(oP 17 (.build [(.int .i64 0),(.int .i64 0),(.int .i64 0),(.int .i64 0),(.int .i64 0),(.int .i64 0),(.int .i64 0),(.int .i64 0),.nils,.nils] [(0,(1,(.t 11))),(1,(1,(.t 15))),(2,(1,(.t 16)))])),[]⟩,
 ⟨12,(some 0),(oP 18 (.bslice false 10 1 [(.int .i64 0),(.int .i64 0),(.int .i64 0),(.int .i64 0),(.int .i64 0),(.int .i64 0),(.int .i64 0),(.int .i64 0),.nils,.nils] [(0,(10,(.t 17)))])),[]⟩,
 ⟨13,none,(oP 19 (.app 10 112 (.t 10) (.t 18))),[]⟩,
 ⟨14,none,(oP 20 (.nilck (.t 6))),[]⟩,
 ⟨15,none,(oP 21 (.faddr 31 (.t 20))),[]⟩,
 ⟨16,none,(oW (.store 1 (.t 21) (.t 19))),[]⟩]⟩
def n281:NF:=⟨10,[2],
 .seq (.region [
 oP 2 (.mov (cI 0))])
 (kL [0] 0 (.seq (.seq (.region [
 mV 3 0,
 oP 4 (.bin .eql .ptr (.t 3) (.c (.c .nilp)))])
 (kL [0,4] 0 (.cond (.t 4)
 (.seq (.region [
 oP 2 (.mov (cI 0))])
 (.ret))
 (.skip))))
 (kL [0] 0 (.seq (.region [
 mV 5 0,
 oP 6 (.nilck (.t 5)),
 oP 7 (.faddr 1 (.t 6)),
 oP 8 (lD 7),
 oP 9 (.len .sl (.t 8)),
 mV 2 9])
 (.ret)))))⟩
def n273:NF:=⟨13,[4],
 .seq (.region [
 oP 4 (.mov (cB false))])
 (kL [0,1] 0 (.seq (.region [
 mV 5 1,
 mV 6 0,
 oP 7 (.nilck (.t 6)),
 oP 8 (.faddr 0 (.t 7)),
 oP 9 (.faddr 0 (.t 8)),
 oP 10 (lD 9),
 oP 11 (.bin .sub .num (.t 10) (cI 1)),
 oP 12 (.call 267 [(.t 5),(cI 0),(.t 11)]),
 mV 4 12])
 (.ret)))⟩
def n275:NF:=⟨62,[2,3],
 .seq (.region [
 oP 1 (.box true 6 (.t 0)),
 oP 2 (.mov (.c (.c .nils))),
 oP 3 (.mov (cI 0))])
 (kL [1] 1 (.seq (.seq (.region [
 oP 7 (.load (some 6) (.t 1)),
 oP 8 (.call 289 [(.t 7)]),
 oP 9 (.un .not (.t 8))])
 (kL [1,9] 1 (.cond (.t 9)
 (.seq (.region [
 oP 2 (.mov (.c (.c .nils))),
 oP 3 (.mov (cI 1))])
 (.ret))
 (.skip))))
 (kL [1] 1 (.seq (.region [
 oP 10 (.build [.nils,(.int .i64 0)] []),
 oP 11 (.box false 2 (.t 10)),
 mV 4 11])
 (kL [1,4] 1 (.seq (.region [
 mV 12 4,
 oP 13 (.faddr 0 (.t 1)),
 oP 14 (lD 13),
 oP 15 (.conv (.toInt .u64) (.t 14)),
 oP 16 (.call 290 [(.t 12),(.t 15),(cI 8)])])
 (kL [1,4] 1 (.seq (.region [
 mV 17 4,
 oP 18 (.faddr 1 (.t 1)),
 oP 19 (lD 18),
 oP 20 (.conv (.toInt .u64) (.t 19)),
 oP 21 (.call 290 [(.t 17),(.t 20),(cI 8)])])
 (kL [1,4] 1 (.seq (.region [
 mV 22 4,
 oP 23 (.faddr 2 (.t 1)),
 oP 24 (lD 23),
 oP 25 (.conv (.toInt .u64) (.t 24)),
 oP 26 (.call 290 [(.t 22),(.t 25),(cI 48)])])
 (kL [1,4] 1 (.seq (.region [
 mV 27 4,
 oP 28 (.faddr 3 (.t 1)),
 oP 29 (lD 28),
 oP 30 (.conv (.toInt .u64) (.t 29)),
 oP 31 (.call 290 [(.t 27),(.t 30),(cI 8)])])
 (kL [1,4] 1 (.seq (.region [
 mV 32 4,
 oP 33 (.faddr 4 (.t 1)),
 oP 34 (lD 33),
 oP 35 (.len .sl (.t 34)),
 oP 36 (.conv (.toInt .u64) (.t 35)),
 oP 37 (.call 290 [(.t 32),(.t 36),(cI 8)])])
 (kL [1,4] 1 (.seq (.seq (.region [
 oP 38 (.faddr 4 (.t 1)),
 oP 39 (lD 38),
 oP 40 (.len .sl (.t 39)),
 oP 41 (.mov (cI 0))])
 (kL [1,4,39,40,41] 1 (.block 0 (.loop (kL [1,4,39,40,41] 1 (.seq (.region [
 oP 42 (.bin .lss .num (.t 41) (.t 40))])
 (kL [1,4,39,40,41,42] 1 (.seq (.cond (.t 42)
 (.skip)
 (.exit 0))
 (kL [1,4,39,40,41] 1 (.seq (.block 1 (.seq (.region [
 oP 43 (iA 1 39 41),
 oP 44 (lD 43),
 mV 6 44])
 (kL [1,4,6,39,40,41] 1 (.region [
 mV 45 4,
 mV 46 6,
 oP 47 (.conv (.toInt .u64) (.t 46)),
 oP 48 (.call 290 [(.t 45),(.t 47),(cI 8)])]))))
 (kL [1,4,39,40,41] 1 (.region [
 oP 49 (.bin .add .num (.t 41) (cI 1)),
 mV 41 49]))))))))))))
 (kL [1,4] 1 (.seq (.region [
 mV 50 4,
 oP 51 (.faddr 5 (.t 1)),
 oP 52 (lD 51),
 oP 53 (.len .sl (.t 52)),
 oP 54 (.conv (.toInt .u64) (.t 53)),
 oP 55 (.call 290 [(.t 50),(.t 54),(cI 8)])])
 (kL [1,4] 1 (.seq (.region [
 mV 56 4,
 oP 57 (.faddr 5 (.t 1)),
 oP 58 (lD 57),
 oP 59 (.call 291 [(.t 56),(.t 58)])])
 (kL [4] 0 (.seq (.region [
 mV 60 4,
 oP 61 (.call 292 [(.t 60)]),
 mV 2 61,
 oP 3 (.mov (cI 0))])
 (.ret)))))))))))))))))))))))⟩
def n276:NF:=⟨41,[6],
 .seq (.region [
 oP 6 (.mov (cB false))])
 (kL [0,1,2] 0 (.seq (.seq (.region [
 mV 7 0,
 oP 8 (.bin .eql .ptr (.t 7) (.c (.c .nilp)))])
 (kL [0,1,2,8] 0 (.cond (.t 8)
 (.seq (.region [
 oP 6 (.mov (cB false))])
 (.ret))
 (.skip))))
 (kL [0,1,2] 0 (.seq (.seq (.draw 0 [
 ⟨0,none,(mV 9 0),[]⟩,
 ⟨1,none,(oP 10 (.nilck (.t 9))),[]⟩,
 ⟨2,none,(oP 11 (.faddr 1 (.t 10))),[]⟩,
 ⟨3,none,(oP 12 (lD 11)),[]⟩,
 ⟨4,none,(oP 13 (.len .sl (.t 12))),[]⟩,
 ⟨5,none,(mV 14 0),[]⟩,
 ⟨6,none,(oP 15 (.nilck (.t 14))),[]⟩,
 ⟨7,none,(oP 16 (.faddr 0 (.t 15))),[]⟩,
 ⟨8,none,(oP 17 (lD 16)),[]⟩,
 ⟨9,none,(oP 18 (.bin .geq .num (.t 13) (.t 17))),[]⟩])
 (kL [0,1,2,18] 0 (.cond (.t 18)
 (.seq (.region [
 mV 19 0,
 mV 20 0,
 oP 21 (.nilck (.t 20)),
 oP 22 (.faddr 2 (.t 21)),
 oP 23 (lD 22),
 oP 24 (.bin .add .num (.t 23) (cI 1)),
 oP 25 (.min [(.t 24),(cI 1000000)]),
 oP 26 (.nilck (.t 19)),
 oP 27 (.faddr 2 (.t 26)),
 oW (.store 1 (.t 27) (.t 25))])
 (kL [] 0 (.seq (.region [
 oP 6 (.mov (cB false))])
 (.ret))))
 (.skip))))
 (kL [0,1,2] 0 (.seq (.draw 1 [
 ⟨0,none,(mV 28 0),[]⟩,
 ⟨1,none,(mV 29 0),[]⟩,
 ⟨2,none,(oP 30 (.nilck (.t 29))),[]⟩,
 ⟨3,none,(oP 31 (.faddr 1 (.t 30))),[]⟩,
 ⟨4,none,(oP 32 (lD 31)),[]⟩,
 ⟨5,none,(mV 33 1),[]⟩,
 ⟨6,none,(mV 34 2),[]⟩,
 ⟨7,none,(oP 35 (.call 293 [(.t 34)])),[(4,(oP 32 (lD 31)))]⟩,
 ⟨8,none,(oP 36 (.build [(.int .i64 0),.nils] [(0,(1,(.t 33))),(1,(1,(.t 35)))])),[]⟩,
 ⟨9,(some 0),(oP 37 (.bslice false 2 1 [(.int .i64 0),.nils] [(0,(2,(.t 36)))])),[]⟩,
 ⟨10,none,(oP 38 (.app 2 32 (.t 32) (.t 37))),[]⟩,
 ⟨11,none,(oP 39 (.nilck (.t 28))),[]⟩,
 ⟨12,none,(oP 40 (.faddr 1 (.t 39))),[]⟩,
 ⟨13,none,(oW (.store 1 (.t 40) (.t 38))),[]⟩])
 (kL [] 0 (.seq (.region [
 oP 6 (.mov (cB true))])
 (.ret)))))))))⟩
def n385:NF:=⟨14,[],
 .seq (.region [
 mV 4 0,
 oP 5 (.bin .neq .ptr (.t 4) (.c (.c .nilp)))])
 (kL [0,1,5] 0 (.cond (.t 5)
 (.region [
 mV 6 0,
 mV 7 0,
 mV 8 1,
 oP 9 (.call 402 [(.t 8),(cI 1000000000000)]),
 oP 10 (.nilck (.t 6)),
 oP 11 (.faddr 0 (.t 10)),
 oW (.store 1 (.t 11) (.t 9)),
 oP 12 (.nilck (.t 7)),
 oP 13 (.faddr 1 (.t 12)),
 oW (.store 1 (.t 13) (cI 0))])
 (.skip)))⟩
def n337:NF:=⟨26,[4],
 .seq (.region [
 oP 4 (.mov (cB false))])
 (kL [0,1] 0 (.seq (.seq (.region [
 mV 6 0,
 oP 7 (.len .sl (.t 6)),
 mV 8 1,
 oP 9 (.len .sl (.t 8)),
 oP 10 (.bin .neq .num (.t 7) (.t 9))])
 (kL [0,1,10] 0 (.cond (.t 10)
 (.seq (.region [
 oP 4 (.mov (cB false))])
 (.ret))
 (.skip))))
 (kL [0,1] 0 (.seq (.seq (.region [
 mV 11 0,
 oP 12 (.len .sl (.t 11)),
 oP 13 (.mov (cI 0))])
 (kL [0,1,12,13] 0 (.block 0 (.loop (kL [0,1,12,13] 0 (.seq (.region [
 oP 14 (.bin .lss .num (.t 13) (.t 12))])
 (kL [0,1,12,13,14] 0 (.seq (.cond (.t 14)
 (.skip)
 (.exit 0))
 (kL [0,1,12,13] 0 (.seq (.block 1 (.seq (.region [
 mV 15 13,
 mV 5 15])
 (kL [0,1,5,12,13] 0 (.seq (.draw 0 [
 ⟨0,none,(mV 16 0),[]⟩,
 ⟨1,none,(mV 17 5),[]⟩,
 ⟨2,none,(oP 18 (iA 1 16 17)),[]⟩,
 ⟨3,none,(oP 19 (lD 18)),[]⟩,
 ⟨4,none,(mV 20 1),[]⟩,
 ⟨5,none,(mV 21 5),[]⟩,
 ⟨6,none,(oP 22 (iA 1 20 21)),[]⟩,
 ⟨7,none,(oP 23 (lD 22)),[]⟩,
 ⟨8,none,(oP 24 (.bin .neq .num (.t 19) (.t 23))),[]⟩])
 (kL [0,1,12,13,24] 0 (.cond (.t 24)
 (.seq (.region [
 oP 4 (.mov (cB false))])
 (.ret))
 (.skip)))))))
 (kL [0,1,12,13] 0 (.region [
 oP 25 (.bin .add .num (.t 13) (cI 1)),
 mV 13 25]))))))))))))
 (kL [] 0 (.seq (.region [
 oP 4 (.mov (cB true))])
 (.ret)))))))⟩
def n386:NF:=⟨26,[4],
 .seq (.region [
 oP 4 (.mov (cB false))])
 (kL [0,1] 0 (.seq (.seq (.region [
 mV 6 0,
 oP 7 (.len .sl (.t 6)),
 mV 8 1,
 oP 9 (.len .sl (.t 8)),
 oP 10 (.bin .neq .num (.t 7) (.t 9))])
 (kL [0,1,10] 0 (.cond (.t 10)
 (.seq (.region [
 oP 4 (.mov (cB false))])
 (.ret))
 (.skip))))
 (kL [0,1] 0 (.seq (.seq (.region [
 mV 11 0,
 oP 12 (.len .sl (.t 11)),
 oP 13 (.mov (cI 0))])
 (kL [0,1,12,13] 0 (.block 0 (.loop (kL [0,1,12,13] 0 (.seq (.region [
 oP 14 (.bin .lss .num (.t 13) (.t 12))])
 (kL [0,1,12,13,14] 0 (.seq (.cond (.t 14)
 (.skip)
 (.exit 0))
 (kL [0,1,12,13] 0 (.seq (.block 1 (.seq (.region [
 mV 15 13,
 mV 5 15])
 (kL [0,1,5,12,13] 0 (.seq (.draw 0 [
 ⟨0,none,(mV 16 0),[]⟩,
 ⟨1,none,(mV 17 5),[]⟩,
 ⟨2,none,(oP 18 (iA 1 16 17)),[]⟩,
 ⟨3,none,(oP 19 (lD 18)),[]⟩,
 ⟨4,none,(mV 20 1),[]⟩,
 ⟨5,none,(mV 21 5),[]⟩,
 ⟨6,none,(oP 22 (iA 1 20 21)),[]⟩,
 ⟨7,none,(oP 23 (lD 22)),[]⟩,
 ⟨8,none,(oP 24 (.bin .neq .num (.t 19) (.t 23))),[]⟩])
 (kL [0,1,12,13,24] 0 (.cond (.t 24)
 (.seq (.region [
 oP 4 (.mov (cB false))])
 (.ret))
 (.skip)))))))
 (kL [0,1,12,13] 0 (.region [
 oP 25 (.bin .add .num (.t 13) (cI 1)),
 mV 13 25]))))))))))))
 (kL [] 0 (.seq (.region [
 oP 4 (.mov (cB true))])
 (.ret)))))))⟩
def n305:NF:=⟨9,[4],
 .seq (.region [
 oP 4 (.mov (cB false))])
 (kL [0,1] 0 (.seq (.region [
 mV 5 0,
 mV 6 1,
 oP 7 (.call 327 [(.t 5),(.t 6)]),
 oP 8 (.bin .geq .num (.t 7) (cI 0)),
 mV 4 8])
 (.ret)))⟩
def n387:NF:=⟨30,[],
 .seq (.seq (.region [
 mV 4 0,
 oP 5 (.bin .eql .ptr (.t 4) (.c (.c .nilp))),
 mV 6 5,
 mG 7 0 6 false,
 oG 8 (.nilck (.t 7)) 6 false,
 oG 9 (.faddr 2 (.t 8)) 6 false,
 oG 10 (lD 9) 6 false,
 oG 11 (.bin .geq .num (.t 10) (cI 1099511627776)) 6 false,
 oP 12 (.pick (.t 6) (cB true) (.t 11))])
 (kL [0,1,12] 0 (.cond (.t 12)
 (.ret)
 (.skip))))
 (kL [0,1] 0 (.seq (.region [
 mV 13 0,
 oP 14 (.nilck (.t 13)),
 oP 15 (.faddr 2 (.t 14)),
 oP 16 (lD 15),
 oP 17 (.bin .add .num (.t 16) (cI 1)),
 oP 18 (.nilck (.t 13)),
 oP 19 (.faddr 2 (.t 18)),
 oW (.store 1 (.t 19) (.t 17))])
 (kL [0,1] 0 (.draw 0 [
 ⟨0,none,(mV 20 0),[]⟩,
 ⟨1,none,(oP 21 (.nilck (.t 20))),[]⟩,
 ⟨2,none,(oP 22 (.faddr 1 (.t 21))),[]⟩,
 ⟨3,none,(oP 23 (lD 22)),[]⟩,
 ⟨4,none,(mV 24 1),[]⟩,
 ⟨5,none,(oP 25 (.call 402 [(.t 24),(cI 100)])),[(3,(oP 23 (lD 22)))]⟩,
 ⟨6,none,(oP 26 (.bin .mul .num (.t 25) (cI 10000))),[]⟩,
 ⟨7,none,(oP 27 (.bin .add .num (.t 23) (.t 26))),[]⟩,
 ⟨8,none,(oP 28 (.nilck (.t 20))),[]⟩,
 ⟨9,none,(oP 29 (.faddr 1 (.t 28))),[]⟩,
 ⟨10,none,(oW (.store 1 (.t 29) (.t 27))),[]⟩]))))⟩
def n294:NF:=⟨19,[4],
 .seq (.region [
 oP 3 (.box false 1 (.t 1)),
 oP 4 (.mov (.c (.c .nils)))])
 (kL [0,3] 0 (.seq (.seq (.region [
 mV 6 0,
 oP 7 (.call 288 [(.t 6)]),
 oP 8 (.un .not (.t 7))])
 (kL [0,3,8] 0 (.cond (.t 8)
 (.seq (.region [
 oP 4 (.mov (.c (.c .nils)))])
 (.ret))
 (.skip))))
 (kL [0,3] 0 (.seq (.region [
 mV 9 0,
 oP 10 (.call 203 [(.t 9)]),
 oP 11 (.mkfn 310 [(.t 3)]),
 oP 12 (.call 311 [(.t 10),(.t 11)]),
 mV 5 12])
 (kL [0,5] 0 (.seq (.seq (.region [
 mV 13 5,
 oP 14 (.len .sl (.t 13)),
 oP 15 (.bin .eql .num (.t 14) (cI 0))])
 (kL [0,5,15] 0 (.cond (.t 15)
 (.seq (.region [
 mV 16 0,
 oP 17 (.call 203 [(.t 16)]),
 mV 4 17])
 (.ret))
 (.skip))))
 (kL [5] 0 (.seq (.region [
 mV 18 5,
 mV 4 18])
 (.ret)))))))))⟩
def n295b:Code:=
 .seq (.region [
 oP 4 (.box false 5 (.c (.agg [(.int .i64 0),(.int .i64 0),(.int .i64 0),(.int .i64 0),.nils])))])
 (kL [0,1,4] 0 (.seq (.region [
 mV 5 1,
 mV 6 0,
 oP 7 (.call 312 [(.t 6)]),
 oP 8 (.build [(.int .i64 0),(.int .i64 0),(.int .i64 0),(.int .i64 0),.nils] [(0,(1,(cI 1))),(1,(1,(.t 5))),(2,(1,(.t 7)))]),
 oW (.store 5 (.t 4) (.t 8))])
 (.ret)))
def n295:NF:=⟨9,[4],.fin n295b [⟨some 4,.load (some 5) (.t 4),none⟩]⟩
def n296:NF:=⟨33,[2,3,4],
 .seq (.region [
 oP 2 (.mov (.c (.c .nils))),
 oP 3 (.mov (cI 0)),
 oP 4 (.mov (cB false))])
 (kL [0] 0 (.seq (.region [
 mV 9 0,
 oP 10 (.nilck (.t 9)),
 oP 11 (.faddr 11 (.t 10)),
 oP 12 (lD 11),
 oP 13 (.call 313 [(.t 12),(cI 0)]),
 mV 8 13,
 oP 14 (.ext (.t 8) 0),
 oP 15 (.ext (.t 8) 1),
 mV 5 14,
 mV 6 15])
 (kL [0,5,6] 0 (.seq (.seq (.region [
 mV 16 6,
 oP 17 (.un .not (.t 16))])
 (kL [0,5,17] 0 (.cond (.t 17)
 (.seq (.region [
 oP 2 (.mov (.c (.c .nils))),
 oP 3 (.mov (cI 0)),
 oP 4 (.mov (cB false))])
 (.ret))
 (.skip))))
 (kL [0,5] 0 (.seq (.region [
 mV 18 0,
 oP 19 (.nilck (.t 18)),
 oP 20 (.faddr 11 (.t 19)),
 oP 21 (lD 20),
 oP 22 (.call 314 [(.t 21)]),
 oP 23 (.iaddr 1 (.t 22) (cI 0)),
 oP 24 (lD 23),
 mV 7 24])
 (kL [0,5,7] 0 (.seq (.seq (.region [
 mV 25 7,
 oP 26 (.bin .eql .num (.t 25) (cI 64))])
 (kL [0,5,7,26] 0 (.cond (.t 26)
 (.region [
 mV 27 0,
 oP 28 (.call 274 [(.t 27)]),
 mV 7 28])
 (.skip))))
 (kL [5,7] 0 (.seq (.region [
 mV 29 5,
 mV 30 7,
 mV 31 7,
 oP 32 (.bin .neq .num (.t 31) (cI 64)),
 mV 2 29,
 mV 3 30,
 mV 4 32])
 (.ret)))))))))))⟩
def n297:NF:=⟨16,[2],
 .seq (.region [
 oP 2 (.mov (cB false))])
 (kL [0] 0 (.seq (.draw 0 [
 ⟨0,none,(mV 3 0),[]⟩,
 ⟨1,none,(oP 4 (.bin .neq .ptr (.t 3) (.c (.c .nilp)))),[]⟩,
 ⟨2,none,(mV 5 4),[]⟩,
 ⟨3,none,(mG 6 0 5 true),[]⟩,
 ⟨4,none,(oG 7 (.nilck (.t 6)) 5 true),[]⟩,
 ⟨5,none,(oG 8 (.faddr 1 (.t 7)) 5 true),[]⟩,
 ⟨6,none,(oG 9 (lD 8) 5 true),[]⟩,
 ⟨7,none,(mG 10 0 5 true),[]⟩,
 ⟨8,none,(oG 11 (.nilck (.t 10)) 5 true),[]⟩,
 ⟨9,none,(oG 12 (.faddr 0 (.t 11)) 5 true),[]⟩,
 ⟨10,none,(oG 13 (lD 12) 5 true),[]⟩,
 ⟨11,none,(oG 14 (.bin .geq .num (.t 9) (.t 13)) 5 true),[]⟩,
 ⟨12,none,(oP 15 (.pick (.t 5) (.t 14) (cB false))),[]⟩,
 ⟨13,none,(mV 2 15),[]⟩])
 (.ret)))⟩
def n298:NF:=⟨52,[2],
 .seq (.region [
 oP 1 (.box true 6 (.t 0)),
 oP 2 (.mov (cB false))])
 (kL [1] 1 (.seq (.seq (.region [
 oP 3 (.faddr 1 (.t 1)),
 oP 4 (lD 3),
 oP 5 (.call 315 [(.t 4)]),
 oP 6 (.un .not (.t 5)),
 mV 7 6,
 oG 8 (.faddr 2 (.t 1)) 7 false,
 oG 9 (lD 8) 7 false,
 oG 10 (.call 315 [(.t 9)]) 7 false,
 oG 11 (.un .not (.t 10)) 7 false,
 mG 12 11 7 false,
 oG 13 (.faddr 2 (.t 1)) 12 true,
 oG 14 (lD 13) 12 true,
 oG 15 (.bin .neq .num (.t 14) (cI 64)) 12 true,
 oG 16 (.pick (.t 12) (.t 15) (cB false)) 7 false,
 oP 17 (.pick (.t 7) (cB true) (.t 16)),
 mV 18 17,
 oG 19 (.faddr 2 (.t 1)) 18 false,
 oG 20 (lD 19) 18 false,
 oG 21 (.faddr 1 (.t 1)) 18 false,
 oG 22 (lD 21) 18 false,
 oG 23 (.bin .eql .num (.t 20) (.t 22)) 18 false,
 oP 24 (.pick (.t 18) (cB true) (.t 23)),
 mV 25 24,
 oG 26 (.faddr 3 (.t 1)) 25 false,
 oG 27 (lD 26) 25 false,
 oG 28 (.bin .lss .num (.t 27) (cI 0)) 25 false,
 oP 29 (.pick (.t 25) (cB true) (.t 28)),
 mV 30 29,
 oG 31 (.faddr 3 (.t 1)) 30 false,
 oG 32 (lD 31) 30 false,
 oG 33 (.bin .gtr .num (.t 32) (cI 255)) 30 false,
 oP 34 (.pick (.t 30) (cB true) (.t 33))])
 (kL [1,34] 1 (.cond (.t 34)
 (.seq (.region [
 oP 2 (.mov (cB false))])
 (.ret))
 (.skip))))
 (kL [1] 1 (.seq (.seq (.region [
 oP 35 (.faddr 4 (.t 1)),
 oP 36 (lD 35),
 oP 37 (.len .sl (.t 36)),
 oP 38 (.bin .gtr .num (.t 37) (cI 4)),
 mV 39 38,
 oG 40 (.faddr 4 (.t 1)) 39 false,
 oG 41 (lD 40) 39 false,
 oG 42 (.call 316 [(.t 41),(.c (.c (.fn 317 [])))]) 39 false,
 oP 43 (.pick (.t 39) (cB true) (.t 42)),
 mV 44 43,
 oG 45 (.faddr 5 (.t 1)) 44 false,
 oG 46 (lD 45) 44 false,
 oG 47 (.len .sl (.t 46)) 44 false,
 oG 48 (.bin .gtr .num (.t 47) (cI 64)) 44 false,
 oP 49 (.pick (.t 44) (cB true) (.t 48))])
 (kL [1,49] 1 (.cond (.t 49)
 (.seq (.region [
 oP 2 (.mov (cB false))])
 (.ret))
 (.skip))))
 (kL [1] 1 (.seq (.region [
 oP 50 (.load (some 6) (.t 1)),
 oP 51 (.call 318 [(.t 50)]),
 mV 2 51])
 (.ret)))))))⟩
def n299:NF:=⟨39,[2,3],
 .seq (.region [
 oP 2 (.mov (.c (.c .nils))),
 oP 3 (.mov (cI 0))])
 (kL [0] 0 (.seq (.seq (.region [
 mV 7 0,
 oP 8 (.len .sl (.t 7)),
 oP 9 (.bin .gtr .num (.t 8) (cI 4)),
 mV 10 9,
 mG 11 0 10 false,
 oG 12 (.call 316 [(.t 11),(.c (.c (.fn 319 [])))]) 10 false,
 oP 13 (.pick (.t 10) (cB true) (.t 12))])
 (kL [0,13] 0 (.cond (.t 13)
 (.seq (.region [
 oP 2 (.mov (.c (.c .nils))),
 oP 3 (.mov (cI 1))])
 (.ret))
 (.skip))))
 (kL [0] 0 (.seq (.region [
 oP 14 (.build [.nils,(.int .i64 0)] []),
 oP 15 (.box false 2 (.t 14)),
 mV 4 15])
 (kL [0,4] 0 (.seq (.region [
 mV 16 4,
 mV 17 0,
 oP 18 (.len .sl (.t 17)),
 oP 19 (.conv (.toInt .u64) (.t 18)),
 oP 20 (.call 290 [(.t 16),(.t 19),(cI 8)])])
 (kL [0,4] 0 (.seq (.seq (.region [
 mV 21 0,
 oP 22 (.len .sl (.t 21)),
 oP 23 (.mov (cI 0))])
 (kL [4,21,22,23] 0 (.block 0 (.loop (kL [4,21,22,23] 0 (.seq (.region [
 oP 24 (.bin .lss .num (.t 23) (.t 22))])
 (kL [4,21,22,23,24] 0 (.seq (.cond (.t 24)
 (.skip)
 (.exit 0))
 (kL [4,21,22,23] 0 (.seq (.block 1 (.seq (.region [
 oP 25 (iA 5 21 23),
 oP 26 (.load (some 5) (.t 25)),
 oP 6 (.box true 5 (.c (.agg [(.int .i64 0),(.int .i64 0),(.int .i64 0),(.int .i64 0),.nils]))),
 oW (.store 5 (.t 6) (.t 26))])
 (kL [4,6,21,22,23] 1 (.seq (.region [
 mV 27 4,
 oP 28 (.faddr 0 (.t 6)),
 oP 29 (lD 28),
 oP 30 (.conv (.toInt .u64) (.t 29)),
 oP 31 (.call 290 [(.t 27),(.t 30),(cI 8)])])
 (kL [4,6,21,22,23] 1 (.region [
 oP 32 (.load (some 5) (.t 6)),
 oP 33 (.call 320 [(.t 32)]),
 mV 34 4,
 oP 35 (.inv [(218,321),(220,322),(222,323)] (.t 33) [(.t 34)])]))))))
 (kL [4,21,22,23] 0 (.region [
 oP 36 (.bin .add .num (.t 23) (cI 1)),
 mV 23 36]))))))))))))
 (kL [4] 0 (.seq (.region [
 mV 37 4,
 oP 38 (.call 292 [(.t 37)]),
 mV 2 38,
 oP 3 (.mov (cI 0))])
 (.ret)))))))))))⟩
def n290:NF:=⟨85,[],
 .seq (.seq (.region [
 mV 10 0,
 oP 11 (.bin .eql .ptr (.t 10) (.c (.c .nilp))),
 mV 12 11,
 mG 13 2 12 false,
 oG 14 (.call 309 [(.t 13)]) 12 false,
 oG 15 (.un .not (.t 14)) 12 false,
 oP 16 (.pick (.t 12) (cB true) (.t 15))])
 (kL [0,1,2,16] 0 (.cond (.t 16)
 (.ret)
 (.skip))))
 (kL [0,1,2] 0 (.seq (.region [
 mV 17 2,
 mV 6 17])
 (kL [0,1,6] 0 (.block 0 (.loop (kL [0,1,6] 0 (.seq (.seq (.region [
 mV 18 6,
 oP 19 (.bin .gtr .num (.t 18) (cI 0))])
 (kL [0,1,6,19] 0 (.cond (.t 19)
 (.skip)
 (.exit 0))))
 (kL [0,1,6] 0 (.block 1 (.seq (.seq (.region [
 mV 20 0,
 oP 21 (.nilck (.t 20)),
 oP 22 (.faddr 1 (.t 21)),
 oP 23 (lD 22),
 oP 24 (.bin .rem .num (.t 23) (cI 8)),
 oP 25 (.bin .eql .num (.t 24) (cI 0))])
 (kL [0,1,6,25] 0 (.cond (.t 25)
 (.region [
 mV 26 0,
 mV 27 0,
 oP 28 (.nilck (.t 27)),
 oP 29 (.faddr 0 (.t 28)),
 oP 30 (lD 29),
 oP 31 (.bslice true 1 1 [(.int .u8 0)] [(0,(1,(.c (.c (.int .u8 0)))))]),
 oP 32 (.app 1 1 (.t 30) (.t 31)),
 oP 33 (.nilck (.t 26)),
 oP 34 (.faddr 0 (.t 33)),
 oW (.store 1 (.t 34) (.t 32))])
 (.skip))))
 (kL [0,1,6] 0 (.seq (.region [
 mV 35 0,
 oP 36 (.nilck (.t 35)),
 oP 37 (.faddr 1 (.t 36)),
 oP 38 (lD 37),
 oP 39 (.bin .rem .num (.t 38) (cI 8)),
 oP 40 (.bin .sub .num (cI 8) (.t 39)),
 mV 7 40])
 (kL [0,1,6,7] 0 (.seq (.region [
 mV 41 7,
 mV 42 6,
 oP 43 (.min [(.t 41),(.t 42)]),
 mV 8 43])
 (kL [0,1,6,7,8] 0 (.seq (.draw 0 [
 ⟨0,none,(mV 44 1),[]⟩,
 ⟨1,none,(mV 45 6),[]⟩,
 ⟨2,none,(mV 46 8),[]⟩,
 ⟨3,none,(oP 47 (.bin .sub .num (.t 45) (.t 46))),[]⟩,
 ⟨4,none,(oP 48 (.bin .shr .num (.t 44) (.t 47))),[]⟩,
 ⟨5,none,(oP 49 (.conv (.toInt .u8) (.t 48))),[]⟩,
 ⟨6,none,(mV 50 8),[]⟩,
 ⟨7,none,(oP 51 (.bin .shl .num (.c (.c (.int .u8 1))) (.t 50))),[]⟩,
 ⟨8,none,(oP 52 (.bin .sub .num (.t 51) (.c (.c (.int .u8 1))))),[]⟩,
 ⟨9,none,(oP 53 (.bin .and .num (.t 49) (.t 52))),[]⟩,
 ⟨10,none,(mV 9 53),[]⟩])
 (kL [0,1,6,7,8,9] 0 (.seq (.draw 0 [
 ⟨0,none,(mV 54 0),[]⟩,
 ⟨1,none,(oP 55 (.nilck (.t 54))),[]⟩,
 ⟨2,none,(oP 56 (.faddr 0 (.t 55))),[]⟩,
 ⟨3,none,(oP 57 (lD 56)),[]⟩,
 ⟨4,none,(mV 58 0),[]⟩,
 ⟨5,none,(oP 59 (.nilck (.t 58))),[]⟩,
 ⟨6,none,(oP 60 (.faddr 0 (.t 59))),[]⟩,
 ⟨7,none,(oP 61 (lD 60)),[]⟩,
 ⟨8,none,(oP 62 (.len .sl (.t 61))),[]⟩,
 ⟨9,none,(oP 63 (.bin .sub .num (.t 62) (cI 1))),[]⟩,
 ⟨10,none,(oP 64 (iA 1 57 63)),[]⟩,
 ⟨11,none,(oP 65 (lD 64)),[]⟩,
 ⟨12,none,(mV 66 9),[]⟩,
 ⟨13,none,(mV 67 7),[]⟩,
 ⟨14,none,(mV 68 8),[]⟩,
 ⟨15,none,(oP 69 (.bin .sub .num (.t 67) (.t 68))),[]⟩,
 ⟨16,none,(oP 70 (.bin .shl .num (.t 66) (.t 69))),[]⟩,
 ⟨17,none,(oP 71 (.bin .or .num (.t 65) (.t 70))),[]⟩,
 ⟨18,none,(oP 72 (iA 1 57 63)),[]⟩,
 ⟨19,none,(oW (.store 1 (.t 72) (.t 71))),[]⟩])
 (kL [0,1,6,8] 0 (.region [
 mV 73 0,
 mV 74 0,
 oP 75 (.nilck (.t 74)),
 oP 76 (.faddr 1 (.t 75)),
 oP 77 (lD 76),
 mV 78 8,
 oP 79 (.bin .add .num (.t 77) (.t 78)),
 mV 80 6,
 mV 81 8,
 oP 82 (.bin .sub .num (.t 80) (.t 81)),
 oP 83 (.nilck (.t 73)),
 oP 84 (.faddr 1 (.t 83)),
 oW (.store 1 (.t 84) (.t 79)),
 mV 6 82]))))))))))))))))))))⟩
def n291:NF:=⟨17,[],
 .seq (.region [
 mV 6 1,
 oP 7 (.len .sl (.t 6)),
 oP 8 (.mov (cI 0))])
 (kL [0,6,7,8] 0 (.block 0 (.loop (kL [0,6,7,8] 0 (.seq (.region [
 oP 9 (.bin .lss .num (.t 8) (.t 7))])
 (kL [0,6,7,8,9] 0 (.seq (.cond (.t 9)
 (.skip)
 (.exit 0))
 (kL [0,6,7,8] 0 (.seq (.block 1 (.seq (.region [
 oP 10 (iA 1 6 8),
 oP 11 (lD 10),
 mV 5 11])
 (kL [0,5,6,7,8] 0 (.region [
 mV 12 0,
 mV 13 5,
 oP 14 (.conv (.toInt .u64) (.t 13)),
 oP 15 (.call 290 [(.t 12),(.t 14),(cI 8)])]))))
 (kL [0,6,7,8] 0 (.region [
 oP 16 (.bin .add .num (.t 8) (cI 1)),
 mV 8 16])))))))))))⟩
def n300:NF:=⟨15,[2],
 .seq (.region [
 oP 2 (.mov (.c (.c .nils)))])
 (kL [0] 0 (.seq (.region [
 mV 4 0,
 oP 5 (.call 324 [(.t 4)]),
 mV 3 5])
 (kL [0,3] 0 (.seq (.region [
 mV 6 0,
 oP 7 (.call 293 [(.t 6)]),
 mV 8 3,
 oP 9 (.conv (.toInt .u8) (.t 8)),
 mV 10 3,
 oP 11 (.bin .shr .num (.t 10) (.c (.c (.int .u64 8)))),
 oP 12 (.conv (.toInt .u8) (.t 11)),
 oP 13 (.bslice true 1 2 [(.int .u8 0)] [(0,(1,(.t 9))),(1,(1,(.t 12)))]),
 oP 14 (.app 1 1 (.t 7) (.t 13)),
 mV 2 14])
 (.ret)))))⟩
def n292:NF:=⟨10,[2],
 .seq (.region [
 oP 2 (.mov (.c (.c .nils)))])
 (kL [0] 0 (.seq (.seq (.region [
 mV 3 0,
 oP 4 (.bin .eql .ptr (.t 3) (.c (.c .nilp)))])
 (kL [0,4] 0 (.cond (.t 4)
 (.seq (.region [
 oP 2 (.mov (.c (.c .nils)))])
 (.ret))
 (.skip))))
 (kL [0] 0 (.seq (.region [
 mV 5 0,
 oP 6 (.nilck (.t 5)),
 oP 7 (.faddr 0 (.t 6)),
 oP 8 (lD 7),
 oP 9 (.app 1 1 (.c (.c .nils)) (.t 8)),
 mV 2 9])
 (.ret)))))⟩
def n388:NF:=⟨16,[4],
 .seq (.region [
 oP 4 (.mov (cI 0))])
 (kL [0,1] 0 (.seq (.region [
 mV 6 0,
 mV 7 1,
 oP 8 (.bin .quo .num (.t 6) (.t 7)),
 mV 5 8])
 (kL [0,1,5] 0 (.seq (.seq (.region [
 mV 9 0,
 mV 10 1,
 oP 11 (.bin .rem .num (.t 9) (.t 10)),
 oP 12 (.bin .lss .num (.t 11) (cI 0))])
 (kL [5,12] 0 (.cond (.t 12)
 (.region [
 mV 13 5,
 oP 14 (.bin .sub .num (.t 13) (cI 1)),
 mV 5 14])
 (.skip))))
 (kL [5] 0 (.seq (.region [
 mV 15 5,
 mV 4 15])
 (.ret)))))))⟩
def n389:NF:=⟨27,[6],
 .seq (.region [
 oP 6 (.mov (cB false))])
 (kL [0,1,2] 0 (.seq (.region [
 mV 9 0,
 mV 10 1,
 oP 11 (.min [(.t 9),(.t 10)]),
 mV 12 0,
 mV 13 1,
 oP 14 (.max [(.t 12),(.t 13)]),
 mV 7 11,
 mV 8 14])
 (kL [2,7,8] 0 (.seq (.region [
 mV 15 2,
 oP 16 (.bin .geq .num (.t 15) (cI 0)),
 mV 17 16,
 mG 18 8 17 true,
 oG 19 (.conv (.toInt .u64) (.t 18)) 17 true,
 mG 20 7 17 true,
 oG 21 (.conv (.toInt .u64) (.t 20)) 17 true,
 oG 22 (.bin .sub .num (.t 19) (.t 21)) 17 true,
 mG 23 2 17 true,
 oG 24 (.conv (.toInt .u64) (.t 23)) 17 true,
 oG 25 (.bin .leq .num (.t 22) (.t 24)) 17 true,
 oP 26 (.pick (.t 17) (.t 25) (cB false)),
 mV 6 26])
 (.ret)))))⟩
def n390:NF:=⟨77,[],
 .seq (.region [
 oP 6 (.box true 6 (.t 1))])
 (kL [0,2,3,4,6] 1 (.seq (.seq (.draw 0 [
 ⟨0,none,(oP 10 (.faddr 0 (.t 6))),[]⟩,
 ⟨1,none,(oP 11 (lD 10)),[]⟩,
 ⟨2,none,(oP 12 (.bin .neq .num (.t 11) (cI 3))),[]⟩,
 ⟨3,none,(mV 13 12),[]⟩,
 ⟨4,none,(mG 14 2 13 false),[]⟩,
 ⟨5,none,(oG 15 (.bin .gtr .num (.t 14) (cI 253)) 13 false),[]⟩,
 ⟨6,none,(oP 16 (.pick (.t 13) (cB true) (.t 15))),[]⟩,
 ⟨7,none,(mV 17 16),[]⟩,
 ⟨8,none,(mG 18 0 17 false),[]⟩,
 ⟨9,none,(oG 19 (.nilck (.t 18)) 17 false),[]⟩,
 ⟨10,none,(oG 20 (.faddr 21 (.t 19)) 17 false),[]⟩,
 ⟨11,none,(oG 21 (lD 20) 17 false),[]⟩,
 ⟨12,none,(mG 22 0 17 false),[]⟩,
 ⟨13,none,(oG 23 (.nilck (.t 22)) 17 false),[]⟩,
 ⟨14,none,(oG 24 (.faddr 0 (.t 23)) 17 false),[]⟩,
 ⟨15,none,(oG 25 (.faddr 6 (.t 24)) 17 false),[]⟩,
 ⟨16,none,(oG 26 (lD 25) 17 false),[]⟩,
 ⟨17,none,(oG 27 (.bin .leq .num (.t 21) (.t 26)) 17 false),[]⟩,
 ⟨18,none,(oP 28 (.pick (.t 17) (cB true) (.t 27))),[]⟩])
 (kL [0,2,3,4,6,28] 1 (.cond (.t 28)
 (.ret)
 (.skip))))
 (kL [0,2,3,4,6] 1 (.seq (.region [
 mV 29 0,
 oP 30 (.nilck (.t 29)),
 oP 31 (.faddr 18 (.t 30)),
 oW (.store 1 (.t 31) (cB true))])
 (kL [0,2,3,4,6] 1 (.seq (.draw 0 [
 ⟨0,none,(mV 32 0),[]⟩,
 ⟨1,none,(mV 33 0),[]⟩,
 ⟨2,none,(mV 34 0),[]⟩,
 ⟨3,none,(oP 35 (.nilck (.t 34))),[]⟩,
 ⟨4,none,(oP 36 (.faddr 9 (.t 35))),[]⟩,
 ⟨5,none,(oP 37 (lD 36)),[]⟩,
 ⟨6,none,(mV 38 2),[]⟩,
 ⟨7,none,(oP 39 (.bin .add .num (.t 38) (cI 1))),[]⟩,
 ⟨9,none,(mV 41 0),[]⟩,
 ⟨10,none,(oP 42 (.nilck (.t 41))),[]⟩,
 ⟨11,none,(oP 43 (.faddr 0 (.t 42))),[]⟩,
 ⟨12,none,(oP 44 (.faddr 5 (.t 43))),[]⟩,
 ⟨13,none,(oP 45 (lD 44)),[]⟩,
 ⟨8,none,(oP 40 (.call 53 [(.t 37),(.t 39)])),[(13,(oP 45 (lD 44)))]⟩,
 ⟨14,none,(oP 46 (.call 403 [(.t 45)])),[]⟩,
 ⟨15,none,(oP 47 (.nilck (.t 32))),[]⟩,
 ⟨16,none,(oP 48 (.faddr 19 (.t 47))),[]⟩,
 ⟨17,none,(oW (.store 1 (.t 48) (.t 40))),[]⟩,
 ⟨18,none,(oP 49 (.nilck (.t 33))),[]⟩,
 ⟨19,none,(oP 50 (.faddr 20 (.t 49))),[]⟩,
 ⟨20,none,(oW (.store 1 (.t 50) (.t 46))),[]⟩])
 (kL [0,2,3,4,6] 1 (.seq (.draw 0 [
 ⟨0,none,(mV 51 0),[]⟩,
 ⟨1,none,(oP 52 (.nilck (.t 51))),[]⟩,
 ⟨2,none,(oP 53 (.faddr 19 (.t 52))),[]⟩,
 ⟨3,none,(oP 54 (lD 53)),[]⟩,
 ⟨4,none,(oP 55 (.faddr 1 (.t 6))),[]⟩,
 ⟨5,none,(oP 56 (lD 55)),[]⟩,
 ⟨6,none,(mV 57 2),[]⟩,
 ⟨7,none,(mV 58 3),[]⟩,
 ⟨8,none,(oP 59 (.call 58 [(.t 54),(.t 56),(.t 57),(.t 58)])),[]⟩])
 (kL [0,4,6] 1 (.seq (.region [
 mV 60 0,
 oP 61 (.faddr 1 (.t 6)),
 oP 62 (lD 61),
 oP 63 (.call 384 [(.t 60),(cI 1),(.t 62)])])
 (kL [0,4,6] 1 (.seq (.region [
 mV 64 0,
 oP 65 (.faddr 1 (.t 6)),
 oP 66 (lD 65),
 mV 67 4,
 oP 68 (.call 404 [(.t 64),(.t 66),(.t 67)])])
 (kL [0,6] 1 (.seq (.region [
 mV 69 0,
 oP 70 (.faddr 1 (.t 6)),
 oP 71 (lD 70),
 oP 72 (.call 384 [(.t 69),(cI 2),(.t 71)])])
 (kL [0,6] 1 (.region [
 mV 73 0,
 oP 74 (.faddr 1 (.t 6)),
 oP 75 (lD 74),
 oP 76 (.call 384 [(.t 73),(cI 6),(.t 75)])]))))))))))))))))⟩
def n391:NF:=⟨32,[],
 .seq (.region [
 mV 11 0,
 oP 12 (.call 274 [(.t 11)]),
 mV 10 12])
 (kL [0,1,2,3,4,10] 0 (.seq (.region [
 mV 13 0,
 oP 14 (.nilck (.t 13)),
 oP 15 (.faddr 19 (.t 14)),
 oP 16 (lD 15),
 mV 17 1,
 mV 18 2,
 mV 19 3,
 oP 20 (.call 58 [(.t 16),(.t 17),(.t 18),(.t 19)])])
 (kL [0,1,4,10] 0 (.seq (.seq (.region [
 mV 21 0,
 oP 22 (.call 274 [(.t 21)]),
 mV 23 1,
 oP 24 (.bin .eql .num (.t 22) (.t 23))])
 (kL [0,1,4,10,24] 0 (.cond (.t 24)
 (.region [
 mV 25 0,
 mV 26 1,
 mV 27 4,
 oP 28 (.call 404 [(.t 25),(.t 26),(.t 27)])])
 (.skip))))
 (kL [0,10] 0 (.region [
 mV 29 0,
 mV 30 10,
 oP 31 (.call 383 [(.t 29),(.t 30)])]))))))⟩
def n392:NF:=⟨56,[8],
 .seq (.region [
 oP 5 (.box true 6 (.t 1)),
 oP 8 (.mov (.c (.c .nils)))])
 (kL [0,2,3,5] 1 (.seq (.seq (.draw 0 [
 ⟨0,none,(oP 11 (.faddr 2 (.t 5))),[]⟩,
 ⟨1,none,(oP 12 (lD 11)),[]⟩,
 ⟨2,none,(mV 13 0),[]⟩,
 ⟨3,none,(oP 14 (.nilck (.t 13))),[]⟩,
 ⟨4,none,(oP 15 (.faddr 9 (.t 14))),[]⟩,
 ⟨5,none,(oP 16 (lD 15)),[]⟩,
 ⟨6,none,(oP 17 (.bin .neq .num (.t 12) (.t 16))),[]⟩,
 ⟨7,none,(mV 18 17),[]⟩,
 ⟨8,none,(oG 19 (.faddr 0 (.t 5)) 18 false),[]⟩,
 ⟨9,none,(oG 20 (lD 19) 18 false),[]⟩,
 ⟨10,none,(oG 21 (.bin .neq .num (.t 20) (cI 1)) 18 false),[]⟩,
 ⟨11,none,(mG 22 21 18 false),[]⟩,
 ⟨12,none,(oG 23 (.faddr 0 (.t 5)) 22 true),[]⟩,
 ⟨13,none,(oG 24 (lD 23) 22 true),[]⟩,
 ⟨14,none,(oG 25 (.bin .neq .num (.t 24) (cI 4)) 22 true),[]⟩,
 ⟨15,none,(oG 26 (.pick (.t 22) (.t 25) (cB false)) 18 false),[]⟩,
 ⟨16,none,(oP 27 (.pick (.t 18) (cB true) (.t 26))),[]⟩])
 (kL [0,2,3,5,27] 1 (.cond (.t 27)
 (.seq (.region [
 oP 8 (.mov (.c (.c .nils)))])
 (.ret))
 (.skip))))
 (kL [0,2,3,5] 1 (.seq (.draw 1 [
 ⟨0,none,(mV 29 0),[]⟩,
 ⟨1,none,(oP 30 (.nilck (.t 29))),[]⟩,
 ⟨2,none,(oP 31 (.faddr 9 (.t 30))),[]⟩,
 ⟨3,none,(oP 32 (lD 31)),[]⟩,
 ⟨4,none,(oP 33 (.faddr 1 (.t 5))),[]⟩,
 ⟨5,none,(oP 34 (lD 33)),[]⟩,
 ⟨6,none,(oP 35 (.faddr 3 (.t 5))),[]⟩,
 ⟨7,none,(oP 36 (lD 35)),[]⟩,
 ⟨8,none,(mV 37 0),[]⟩,
 ⟨9,none,(mV 38 2),[]⟩,
 ⟨11,none,(mV 40 3),[]⟩,
 ⟨12,none,(oP 41 (.un .neg (.t 40))),[]⟩,
 ⟨13,none,(oP 42 (.build [(.int .i64 0),(.int .i64 0),(.int .i64 0),(.int .i64 0),.nils] [(0,(1,(cI 2))),(3,(1,(.t 41)))])),[]⟩,
 ⟨10,none,(oP 39 (.call 295 [(.t 37),(.t 38)])),[(3,(oP 32 (lD 31))),(5,(oP 34 (lD 33))),(7,(oP 36 (lD 35)))]⟩,
 ⟨14,(some 0),(oP 43 (.bslice false 5 2 [(.int .i64 0),(.int .i64 0),(.int .i64 0),(.int .i64 0),.nils] [(0,(5,(.t 39))),(5,(5,(.t 42)))])),[]⟩,
 ⟨15,none,(oP 44 (.build [(.int .i64 0),(.int .i64 0),(.int .i64 0),(.int .i64 0),.nils,.nils] [(0,(1,(cI 2))),(1,(1,(.t 32))),(2,(1,(.t 34))),(3,(1,(.t 36))),(4,(1,(.t 43)))])),[]⟩,
 ⟨16,none,(oP 45 (.call 280 [(.t 44)])),[]⟩,
 ⟨17,none,(mV 28 45),[]⟩,
 ⟨18,none,(oP 46 (.ext (.t 28) 0)),[]⟩,
 ⟨19,none,(oP 47 (.ext (.t 28) 1)),[]⟩,
 ⟨20,none,(mV 9 46),[]⟩,
 ⟨21,none,(mV 10 47),[]⟩])
 (kL [0,5,9] 1 (.seq (.seq (.region [
 oP 48 (.faddr 0 (.t 5)),
 oP 49 (lD 48),
 oP 50 (.bin .eql .num (.t 49) (cI 1))])
 (kL [0,5,9,50] 1 (.cond (.t 50)
 (.region [
 mV 51 0,
 oP 52 (.faddr 5 (.t 5)),
 oP 53 (lD 52),
 oP 54 (.call 405 [(.t 51),(.t 53)])])
 (.skip))))
 (kL [9] 0 (.seq (.region [
 mV 55 9,
 mV 8 55])
 (.ret)))))))))⟩
def n393:NF:=⟨11,[4],
 .seq (.region [
 oP 4 (.mov (cI 0))])
 (kL [0,1] 0 (.seq (.region [
 mV 5 1,
 oP 6 (.un .neg (.t 5)),
 mV 7 0,
 mV 8 1,
 oP 9 (.min [(.t 7),(.t 8)]),
 oP 10 (.max [(.t 6),(.t 9)]),
 mV 4 10])
 (.ret)))⟩
def n394:NF:=⟨17,[2],
 .seq (.region [
 oP 2 (.mov (cB false))])
 (kL [0] 0 (.seq (.region [
 mV 4 0,
 oP 5 (.len .sl (.t 4)),
 oP 6 (.bin .sub .num (.t 5) (cI 2)),
 mV 3 6])
 (kL [0,3] 0 (.seq (.region [
 mV 7 3,
 oP 8 (.bin .geq .num (.t 7) (cI 0)),
 mV 9 8,
 mG 10 0 9 true,
 mG 11 3 9 true,
 oG 12 (.slice 1 (.t 10) none (some (.t 11)) none) 9 true,
 oG 13 (.call 300 [(.t 12)]) 9 true,
 mG 14 0 9 true,
 oG 15 (.call 386 [(.t 13),(.t 14)]) 9 true,
 oP 16 (.pick (.t 9) (.t 15) (cB false)),
 mV 2 16])
 (.ret)))))⟩
def n395:NF:=⟨7,[2],
 .seq (.region [
 oP 2 (.mov (.c (.c .nilp)))])
 (kL [0] 0 (.seq (.region [
 mV 3 0,
 oP 4 (.app 1 1 (.c (.c .nils)) (.t 3)),
 oP 5 (.build [.nils,(.int .i64 0),(.int .i64 0)] [(0,(1,(.t 4)))]),
 oP 6 (.box false 3 (.t 5)),
 mV 2 6])
 (.ret)))⟩
def n396:NF:=⟨6,[2],
 .seq (.region [
 oP 2 (.mov (cI 0))])
 (kL [0] 0 (.seq (.region [
 mV 3 0,
 oP 4 (.call 406 [(.t 3),(cI 8)]),
 oP 5 (.conv (.toInt .i64) (.t 4)),
 mV 2 5])
 (.ret)))⟩
def n397:NF:=⟨31,[4],
 .seq (.region [
 oP 4 (.mov (.c (.c .nils)))])
 (kL [0,1] 0 (.seq (.seq (.region [
 mV 6 1,
 oP 7 (.bin .leq .num (.t 6) (cI 0)),
 mV 8 7,
 mG 9 0 8 false,
 mG 10 1 8 false,
 mG 11 0 8 false,
 oG 12 (.call 407 [(.t 11)]) 8 false,
 oG 13 (.len .sl (.t 12)) 8 false,
 oG 14 (.bin .add .num (.t 13) (cI 1)) 8 false,
 oG 15 (.min [(.t 10),(.t 14)]) 8 false,
 oG 16 (.bin .mul .num (.t 15) (cI 8)) 8 false,
 oG 17 (.call 408 [(.t 9),(.t 16)]) 8 false,
 oG 18 (.un .not (.t 17)) 8 false,
 oP 19 (.pick (.t 8) (cB true) (.t 18))])
 (kL [0,1,19] 0 (.cond (.t 19)
 (.seq (.region [
 oP 4 (.mov (.c (.c .nils)))])
 (.ret))
 (.skip))))
 (kL [0,1] 0 (.seq (.region [
 oP 5 (.mov (.c (.c .nils)))])
 (kL [0,1,5] 0 (.seq (.seq (.region [
 mV 20 1,
 oP 21 (.mov (cI 0))])
 (kL [0,5,20,21] 0 (.block 0 (.loop (kL [0,5,20,21] 0 (.seq (.region [
 oP 22 (.bin .lss .num (.t 21) (.t 20))])
 (kL [0,5,20,21,22] 0 (.seq (.cond (.t 22)
 (.skip)
 (.exit 0))
 (kL [0,5,20,21] 0 (.seq (.block 1 (.region [
 mV 23 5,
 mV 24 0,
 oP 25 (.call 406 [(.t 24),(cI 8)]),
 oP 26 (.conv (.toInt .u8) (.t 25)),
 oP 27 (.bslice true 1 1 [(.int .u8 0)] [(0,(1,(.t 26)))]),
 oP 28 (.app 1 1 (.t 23) (.t 27)),
 mV 5 28]))
 (kL [0,5,20,21] 0 (.region [
 oP 29 (.bin .add .num (.t 21) (cI 1)),
 mV 21 29]))))))))))))
 (kL [5] 0 (.seq (.region [
 mV 30 5,
 mV 4 30])
 (.ret)))))))))⟩
def n398:NF:=⟨21,[2],
 .seq (.region [
 oP 2 (.mov (cI 0))])
 (kL [0] 0 (.seq (.block 0 (.seq (.region [
 mV 4 0,
 oP 5 (.bin .eql .ptr (.t 4) (.c (.c .nilp))),
 mV 3 5])
 (kL [0,3] 0 (.cond (.t 3)
 (.seq (.region [
 oP 2 (.mov (cI 1))])
 (.ret))
 (.seq (.region [
 mV 7 0,
 oP 8 (.nilck (.t 7)),
 oP 9 (.faddr 2 (.t 8)),
 oP 10 (lD 9),
 oP 11 (.bin .eql .num (.t 10) (cI 0)),
 mV 12 11,
 mG 13 0 12 true,
 oG 14 (.call 409 [(.t 13)]) 12 true,
 oG 15 (.bin .gtr .num (.t 14) (cI 0)) 12 true,
 oP 16 (.pick (.t 12) (.t 15) (cB false)),
 mV 6 16])
 (kL [0,6] 0 (.cond (.t 6)
 (.seq (.region [
 oP 2 (.mov (cI 3))])
 (.ret))
 (.skip))))))))
 (kL [0] 0 (.seq (.region [
 mV 17 0,
 oP 18 (.nilck (.t 17)),
 oP 19 (.faddr 2 (.t 18)),
 oP 20 (lD 19),
 mV 2 20])
 (.ret)))))⟩
def n399:NF:=⟨41,[2,3],
 .seq (.region [
 oP 2 (.mov (.c (.c .nils))),
 oP 3 (.mov (cI 0))])
 (kL [0] 0 (.seq (.region [
 mV 10 0,
 oP 11 (.call 395 [(.t 10)]),
 mV 4 11])
 (kL [4] 0 (.seq (.region [
 mV 12 4,
 oP 13 (.call 406 [(.t 12),(cI 8)]),
 oP 14 (.conv (.toInt .i64) (.t 13)),
 mV 5 14])
 (kL [4,5] 0 (.seq (.seq (.region [
 mV 15 4,
 oP 16 (.call 410 [(.t 15)])])
 (kL [4,5,16] 0 (.cond (.t 16)
 (.seq (.region [
 oP 2 (.mov (.c (.c .nils))),
 oP 3 (.mov (cI 2))])
 (.ret))
 (.skip))))
 (kL [4,5] 0 (.seq (.seq (.region [
 mV 17 5,
 oP 18 (.bin .gtr .num (.t 17) (cI 4))])
 (kL [4,5,18] 0 (.cond (.t 18)
 (.seq (.region [
 oP 2 (.mov (.c (.c .nils))),
 oP 3 (.mov (cI 3))])
 (.ret))
 (.skip))))
 (kL [4,5] 0 (.seq (.region [
 oP 6 (.mov (.c (.c .nils)))])
 (kL [4,5,6] 0 (.seq (.seq (.region [
 mV 19 5,
 oP 20 (.mov (cI 0))])
 (kL [4,6,19,20] 0 (.block 0 (.loop (kL [4,6,19,20] 0 (.seq (.region [
 oP 21 (.bin .lss .num (.t 20) (.t 19))])
 (kL [4,6,19,20,21] 0 (.seq (.cond (.t 21)
 (.skip)
 (.exit 0))
 (kL [4,6,19,20] 0 (.seq (.block 1 (.seq (.region [
 mV 23 4,
 oP 24 (.call 411 [(.t 23)]),
 mV 22 24,
 oP 25 (.ext (.t 22) 0),
 oP 26 (.ext (.t 22) 1),
 oP 7 (.box true 5 (.c (.agg [(.int .i64 0),(.int .i64 0),(.int .i64 0),(.int .i64 0),.nils]))),
 oW (.store 5 (.t 7) (.t 25)),
 mV 8 26])
 (kL [4,6,7,8,19,20] 1 (.seq (.seq (.region [
 mV 27 8,
 oP 28 (.bin .neq .num (.t 27) (cI 0))])
 (kL [4,6,7,8,19,20,28] 1 (.cond (.t 28)
 (.seq (.region [
 mV 29 8,
 oP 2 (.mov (.c (.c .nils))),
 mV 3 29])
 (.ret))
 (.skip))))
 (kL [4,6,7,19,20] 1 (.region [
 mV 30 6,
 oP 31 (.load (some 5) (.t 7)),
 oP 32 (.bslice true 5 1 [(.int .i64 0),(.int .i64 0),(.int .i64 0),(.int .i64 0),.nils] [(0,(5,(.t 31)))]),
 oP 33 (.app 5 56 (.t 30) (.t 32)),
 mV 6 33]))))))
 (kL [4,6,19,20] 0 (.region [
 oP 34 (.bin .add .num (.t 20) (cI 1)),
 mV 20 34]))))))))))))
 (kL [4,6] 0 (.seq (.seq (.region [
 mV 35 4,
 oP 36 (.call 398 [(.t 35)]),
 mV 9 36])
 (kL [6,9] 0 (.seq (.region [
 mV 37 9,
 oP 38 (.bin .neq .num (.t 37) (cI 0))])
 (kL [6,9,38] 0 (.cond (.t 38)
 (.seq (.region [
 mV 39 9,
 oP 2 (.mov (.c (.c .nils))),
 mV 3 39])
 (.ret))
 (.skip))))))
 (kL [6] 0 (.seq (.region [
 mV 40 6,
 mV 2 40,
 oP 3 (.mov (cI 0))])
 (.ret)))))))))))))))))⟩
def n336b:Code:=
 .seq (.region [
 oP 4 (.box false 5 (.c (.agg [(.int .i64 0),(.int .i64 0),(.int .i64 0),(.int .i64 0),.nils]))),
 oP 5 (.mov (cB false))])
 (kL [0,1,4] 0 (.seq (.seq (.region [
 mV 8 0,
 oP 9 (.len .sl (.t 8)),
 oP 10 (.mov (cI 0))])
 (kL [1,4,8,9,10] 0 (.block 0 (.loop (kL [1,4,8,9,10] 0 (.seq (.region [
 oP 11 (.bin .lss .num (.t 10) (.t 9))])
 (kL [1,4,8,9,10,11] 0 (.seq (.cond (.t 11)
 (.skip)
 (.exit 0))
 (kL [1,4,8,9,10] 0 (.seq (.block 1 (.seq (.region [
 oP 12 (iA 5 8 10),
 oP 13 (.load (some 5) (.t 12)),
 oP 7 (.box true 5 (.c (.agg [(.int .i64 0),(.int .i64 0),(.int .i64 0),(.int .i64 0),.nils]))),
 oW (.store 5 (.t 7) (.t 13))])
 (kL [1,4,7,8,9,10] 1 (.seq (.region [
 oP 14 (.faddr 0 (.t 7)),
 oP 15 (lD 14),
 mV 16 1,
 oP 17 (.bin .eql .num (.t 15) (.t 16))])
 (kL [1,4,7,8,9,10,17] 1 (.cond (.t 17)
 (.seq (.region [
 oP 18 (.faddr 4 (.t 7)),
 oP 19 (lD 18),
 oP 20 (.call 203 [(.t 19)]),
 oP 21 (.faddr 4 (.t 7)),
 oW (.store 1 (.t 21) (.t 20))])
 (kL [4,7] 1 (.seq (.region [
 oP 22 (.load (some 5) (.t 7)),
 oW (.store 5 (.t 4) (.t 22)),
 oP 5 (.mov (cB true))])
 (.ret))))
 (.skip)))))))
 (kL [1,4,8,9,10] 0 (.region [
 oP 23 (.bin .add .num (.t 10) (cI 1)),
 mV 10 23]))))))))))))
 (kL [4] 0 (.seq (.region [
 oP 24 (.build [(.int .i64 0),(.int .i64 0),(.int .i64 0),(.int .i64 0),.nils] []),
 oW (.store 5 (.t 4) (.t 24)),
 oP 5 (.mov (cB false))])
 (.ret)))))
def n336:NF:=⟨25,[4,5],.fin n336b [⟨some 4,.load (some 5) (.t 4),none⟩]⟩
def n400:NF:=⟨28,[4,5],
 .seq (.region [
 oP 4 (.mov (.c (.c .nils))),
 oP 5 (.mov (cB false))])
 (kL [0,1] 0 (.seq (.region [
 mV 9 0,
 mV 10 1,
 oP 11 (.call 313 [(.t 9),(.t 10)]),
 mV 8 11,
 oP 12 (.ext (.t 8) 0),
 oP 13 (.ext (.t 8) 1),
 mV 6 12,
 mV 7 13])
 (kL [0,1,6,7] 0 (.seq (.seq (.region [
 mV 14 7])
 (kL [0,1,6,7,14] 0 (.cond (.t 14)
 (.region [
 mV 15 0,
 mV 16 0,
 oP 17 (.nilck (.t 16)),
 oP 18 (.faddr 1 (.t 17)),
 oP 19 (lD 18),
 mV 20 1,
 mV 21 1,
 oP 22 (.bin .add .num (.t 21) (cI 1)),
 oP 23 (.call 412 [(.t 19),(.t 20),(.t 22)]),
 oP 24 (.nilck (.t 15)),
 oP 25 (.faddr 1 (.t 24)),
 oW (.store 1 (.t 25) (.t 23))])
 (.skip))))
 (kL [6,7] 0 (.seq (.region [
 mV 26 6,
 mV 27 7,
 mV 4 26,
 mV 5 27])
 (.ret)))))))⟩
def n401b:Code:=
 .seq (.region [
 oP 2 (.box false 6 (.c (.agg [(.int .i64 0),(.int .i64 0),(.int .i64 0),(.int .i64 0),.nils,.nils]))),
 oP 3 (.mov (cI 0))])
 (kL [0,2] 0 (.seq (.region [
 mV 11 0,
 oP 12 (.call 395 [(.t 11)]),
 mV 4 12])
 (kL [2,4] 0 (.seq (.region [
 mV 13 4,
 oP 14 (.call 413 [(.t 13)]),
 mV 15 4,
 oP 16 (.call 413 [(.t 15)]),
 mV 17 4,
 oP 18 (.call 406 [(.t 17),(cI 48)]),
 oP 19 (.conv (.toInt .i64) (.t 18)),
 mV 20 4,
 oP 21 (.call 413 [(.t 20)]),
 oP 22 (.build [(.int .i64 0),(.int .i64 0),(.int .i64 0),(.int .i64 0),.nils,.nils] [(0,(1,(.t 14))),(1,(1,(.t 16))),(2,(1,(.t 19))),(3,(1,(.t 21)))]),
 oP 5 (.box true 6 (.c (.agg [(.int .i64 0),(.int .i64 0),(.int .i64 0),(.int .i64 0),.nils,.nils]))),
 oW (.store 6 (.t 5) (.t 22))])
 (kL [2,4,5] 1 (.seq (.region [
 mV 23 4,
 oP 24 (.call 413 [(.t 23)]),
 mV 6 24])
 (kL [2,4,5,6] 1 (.seq (.seq (.region [
 mV 25 6,
 oP 26 (.bin .gtr .num (.t 25) (cI 16))])
 (kL [2,4,5,6,26] 1 (.cond (.t 26)
 (.seq (.region [
 oP 27 (.build [(.int .i64 0),(.int .i64 0),(.int .i64 0),(.int .i64 0),.nils,.nils] []),
 oW (.store 6 (.t 2) (.t 27)),
 oP 3 (.mov (cI 3))])
 (.ret))
 (.skip))))
 (kL [2,4,5,6] 1 (.seq (.seq (.region [
 mV 28 4,
 mV 29 6,
 oP 30 (.call 397 [(.t 28),(.t 29)]),
 oP 31 (.len .sl (.t 30)),
 oP 32 (.mov (cI 0))])
 (kL [2,4,5,30,31,32] 1 (.block 0 (.loop (kL [2,4,5,30,31,32] 1 (.seq (.region [
 oP 33 (.bin .lss .num (.t 32) (.t 31))])
 (kL [2,4,5,30,31,32,33] 1 (.seq (.cond (.t 33)
 (.skip)
 (.exit 0))
 (kL [2,4,5,30,31,32] 1 (.seq (.block 1 (.seq (.region [
 oP 34 (iA 1 30 32),
 oP 35 (lD 34),
 mV 8 35])
 (kL [2,4,5,8,30,31,32] 1 (.region [
 oP 36 (.faddr 4 (.t 5)),
 oP 37 (lD 36),
 mV 38 8,
 oP 39 (.conv (.toInt .i64) (.t 38)),
 oP 40 (.bslice true 1 1 [(.int .i64 0)] [(0,(1,(.t 39)))]),
 oP 41 (.app 1 8 (.t 37) (.t 40)),
 oP 42 (.faddr 4 (.t 5)),
 oW (.store 1 (.t 42) (.t 41))]))))
 (kL [2,4,5,30,31,32] 1 (.region [
 oP 43 (.bin .add .num (.t 32) (cI 1)),
 mV 32 43]))))))))))))
 (kL [2,4,5] 1 (.seq (.region [
 mV 44 4,
 oP 45 (.call 413 [(.t 44)]),
 mV 9 45])
 (kL [2,4,5,9] 1 (.seq (.block 2 (.seq (.region [
 mV 47 4,
 oP 48 (.call 398 [(.t 47)]),
 oP 49 (.bin .eql .num (.t 48) (cI 2)),
 mV 46 49])
 (kL [2,4,5,9,46] 1 (.cond (.t 46)
 (.seq (.region [
 oP 50 (.build [(.int .i64 0),(.int .i64 0),(.int .i64 0),(.int .i64 0),.nils,.nils] []),
 oW (.store 6 (.t 2) (.t 50)),
 oP 3 (.mov (cI 2))])
 (.ret))
 (.seq (.region [
 mV 52 9,
 oP 53 (.call 307 [(.t 52),(cI 1),(cI 24)]),
 oP 54 (.un .not (.t 53)),
 mV 51 54])
 (kL [2,4,5,9,51] 1 (.cond (.t 51)
 (.seq (.region [
 oP 55 (.build [(.int .i64 0),(.int .i64 0),(.int .i64 0),(.int .i64 0),.nils,.nils] []),
 oW (.store 6 (.t 2) (.t 55)),
 oP 3 (.mov (cI 3))])
 (.ret))
 (.skip))))))))
 (kL [2,4,5,9] 1 (.seq (.region [
 mV 56 4,
 mV 57 9,
 oP 58 (.call 397 [(.t 56),(.t 57)]),
 oP 59 (.faddr 5 (.t 5)),
 oW (.store 1 (.t 59) (.t 58))])
 (kL [2,4,5] 1 (.seq (.seq (.region [
 mV 60 4,
 oP 61 (.call 398 [(.t 60)]),
 mV 10 61])
 (kL [2,5,10] 1 (.block 3 (.seq (.region [
 mV 63 10,
 oP 64 (.bin .neq .num (.t 63) (cI 0)),
 mV 62 64])
 (kL [2,5,10,62] 1 (.cond (.t 62)
 (.seq (.region [
 oP 65 (.build [(.int .i64 0),(.int .i64 0),(.int .i64 0),(.int .i64 0),.nils,.nils] []),
 mV 66 10,
 oW (.store 6 (.t 2) (.t 65)),
 mV 3 66])
 (.ret))
 (.seq (.region [
 oP 68 (.load (some 6) (.t 5)),
 oP 69 (.call 289 [(.t 68)]),
 oP 70 (.un .not (.t 69)),
 mV 67 70])
 (kL [2,5,67] 1 (.cond (.t 67)
 (.seq (.region [
 oP 71 (.build [(.int .i64 0),(.int .i64 0),(.int .i64 0),(.int .i64 0),.nils,.nils] []),
 oW (.store 6 (.t 2) (.t 71)),
 oP 3 (.mov (cI 3))])
 (.ret))
 (.skip))))))))))
 (kL [2,5] 1 (.seq (.region [
 oP 72 (.load (some 6) (.t 5)),
 oW (.store 6 (.t 2) (.t 72)),
 oP 3 (.mov (cI 0))])
 (.ret)))))))))))))))))))))
def n401:NF:=⟨73,[2,3],.fin n401b [⟨some 2,.load (some 6) (.t 2),none⟩]⟩
def n60:NF:=⟨21,[2,3],
 .seq (.region [
 oP 2 (.mov (cI 0)),
 oP 3 (.mov (cB false))])
 (kL [0] 0 (.seq (.seq (.region [
 mV 4 0,
 oP 5 (.bin .eql .ptr (.t 4) (.c (.c .nilp))),
 mV 6 5,
 mG 7 0 6 false,
 oG 8 (.nilck (.t 7)) 6 false,
 oG 9 (.faddr 2 (.t 8)) 6 false,
 oG 10 (lD 9) 6 false,
 oG 11 (.len .sl (.t 10)) 6 false,
 oG 12 (.bin .eql .num (.t 11) (cI 0)) 6 false,
 oP 13 (.pick (.t 6) (cB true) (.t 12))])
 (kL [0,13] 0 (.cond (.t 13)
 (.seq (.region [
 oP 2 (.mov (cI 0)),
 oP 3 (.mov (cB false))])
 (.ret))
 (.skip))))
 (kL [0] 0 (.seq (.region [
 mV 14 0,
 oP 15 (.nilck (.t 14)),
 oP 16 (.faddr 2 (.t 15)),
 oP 17 (lD 16),
 oP 18 (.iaddr 3 (.t 17) (cI 0)),
 oP 19 (.faddr 1 (.t 18)),
 oP 20 (lD 19),
 mV 2 20,
 oP 3 (.mov (cB true))])
 (.ret)))))⟩
def n74:NF:=⟨11,[],
 .seq (.region [
 mV 3 0,
 oP 4 (.len .sl (.t 3)),
 mV 2 4])
 (kL [0,2] 0 (.region [
 mV 5 0,
 mV 6 2,
 mV 7 2,
 oP 8 (.conv (.toInt .u64) (.t 7)),
 oP 9 (.call 82 [(.t 8)]),
 oP 10 (.call 83 [(.t 5),(cI 0),(.t 6),(.t 9)])]))⟩
def n76:NF:=⟨13,[],
 .region [
 mV 4 0,
 mV 5 0,
 oP 6 (.nilck (.t 5)),
 oP 7 (.faddr 2 (.t 6)),
 oP 8 (lD 7),
 mV 9 1,
 oP 10 (.call 84 [(.t 8),(.t 9)]),
 oP 11 (.nilck (.t 4)),
 oP 12 (.faddr 2 (.t 11)),
 oW (.store 1 (.t 12) (.t 10))]⟩
def n75:NF:=⟨8,[3],
 .seq (.region [
 oP 2 (.box true 3 (.t 0)),
 oP 3 (.mov (cB false))])
 (kL [1,2] 1 (.seq (.region [
 oP 4 (.faddr 2 (.t 2)),
 oP 5 (lD 4),
 oP 6 (lD 1),
 oP 7 (.bin .leq .num (.t 5) (.t 6)),
 mV 3 7])
 (.ret)))⟩
def n289:NF:=⟨39,[2],
 .seq (.region [
 oP 1 (.box true 6 (.t 0)),
 oP 2 (.mov (cB false))])
 (kL [1] 1 (.seq (.region [
 oP 3 (.faddr 0 (.t 1)),
 oP 4 (lD 3),
 oP 5 (.call 306 [(.t 4)]),
 mV 6 5,
 oG 7 (.faddr 1 (.t 1)) 6 true,
 oG 8 (lD 7) 6 true,
 oG 9 (.call 306 [(.t 8)]) 6 true,
 oP 10 (.pick (.t 6) (.t 9) (cB false)),
 mV 11 10,
 oG 12 (.faddr 0 (.t 1)) 11 true,
 oG 13 (lD 12) 11 true,
 oG 14 (.faddr 1 (.t 1)) 11 true,
 oG 15 (lD 14) 11 true,
 oG 16 (.bin .neq .num (.t 13) (.t 15)) 11 true,
 oP 17 (.pick (.t 11) (.t 16) (cB false)),
 mV 18 17,
 oG 19 (.faddr 2 (.t 1)) 18 true,
 oG 20 (lD 19) 18 true,
 oG 21 (.call 307 [(.t 20),(cI 0),(cI 70368744177663)]) 18 true,
 oP 22 (.pick (.t 18) (.t 21) (cB false)),
 mV 23 22,
 oG 24 (.faddr 3 (.t 1)) 23 true,
 oG 25 (lD 24) 23 true,
 oG 26 (.call 307 [(.t 25),(cI 0),(cI 15)]) 23 true,
 oP 27 (.pick (.t 23) (.t 26) (cB false)),
 mV 28 27,
 oG 29 (.faddr 4 (.t 1)) 28 true,
 oG 30 (lD 29) 28 true,
 oG 31 (.call 308 [(.t 30)]) 28 true,
 oP 32 (.pick (.t 28) (.t 31) (cB false)),
 mV 33 32,
 oG 34 (.faddr 5 (.t 1)) 33 true,
 oG 35 (lD 34) 33 true,
 oG 36 (.len .sl (.t 35)) 33 true,
 oG 37 (.call 307 [(.t 36),(cI 1),(cI 24)]) 33 true,
 oP 38 (.pick (.t 33) (.t 37) (cB false)),
 mV 2 38])
 (.ret)))⟩
def n402:NF:=⟨11,[4],
 .seq (.region [
 oP 4 (.mov (cI 0))])
 (kL [0,1] 0 (.seq (.region [
 mV 5 1,
 oP 6 (.un .neg (.t 5)),
 mV 7 0,
 mV 8 1,
 oP 9 (.min [(.t 7),(.t 8)]),
 oP 10 (.max [(.t 6),(.t 9)]),
 mV 4 10])
 (.ret)))⟩
def n327:NF:=⟨19,[4],
 .seq (.region [
 oP 4 (.mov (cI 0))])
 (kL [0,1] 0 (.seq (.seq (.region [
 mV 6 0,
 oP 7 (.len .sl (.t 6)),
 oP 8 (.mov (cI 0))])
 (kL [0,1,7,8] 0 (.block 0 (.loop (kL [0,1,7,8] 0 (.seq (.region [
 oP 9 (.bin .lss .num (.t 8) (.t 7))])
 (kL [0,1,7,8,9] 0 (.seq (.cond (.t 9)
 (.skip)
 (.exit 0))
 (kL [0,1,7,8] 0 (.seq (.block 1 (.seq (.region [
 mV 10 8,
 mV 5 10])
 (kL [0,1,5,7,8] 0 (.seq (.region [
 mV 11 1,
 mV 12 0,
 mV 13 5,
 oP 14 (iA 1 12 13),
 oP 15 (lD 14),
 oP 16 (.bin .eql .num (.t 11) (.t 15))])
 (kL [0,1,5,7,8,16] 0 (.cond (.t 16)
 (.seq (.region [
 mV 17 5,
 mV 4 17])
 (.ret))
 (.skip)))))))
 (kL [0,1,7,8] 0 (.region [
 oP 18 (.bin .add .num (.t 8) (cI 1)),
 mV 8 18]))))))))))))
 (kL [] 0 (.seq (.region [
 oP 4 (.mov (cI (-1)))])
 (.ret)))))⟩
def n311:NF:=⟨42,[4],
 .seq (.region [
 oP 4 (.mov (.c (.c .nils)))])
 (kL [0,1] 0 (.seq (.region [
 mV 8 0,
 mV 9 1,
 oP 10 (.call 328 [(.t 8),(.t 9)]),
 mV 5 10])
 (kL [0,1,5] 0 (.seq (.seq (.region [
 mV 11 5,
 oP 12 (.bin .eql .num (.t 11) (cI (-1)))])
 (kL [0,1,5,12] 0 (.cond (.t 12)
 (.seq (.region [
 mV 13 0,
 mV 4 13])
 (.ret))
 (.skip))))
 (kL [0,1,5] 0 (.seq (.seq (.region [
 mV 14 5,
 oP 15 (.bin .add .num (.t 14) (cI 1)),
 mV 6 15])
 (kL [0,1,5,6] 0 (.block 0 (.loop (kL [0,1,5,6] 0 (.seq (.seq (.region [
 mV 16 6,
 mV 17 0,
 oP 18 (.len .sl (.t 17)),
 oP 19 (.bin .lss .num (.t 16) (.t 18))])
 (kL [0,1,5,6,19] 0 (.cond (.t 19)
 (.skip)
 (.exit 0))))
 (kL [0,1,5,6] 0 (.seq (.block 1 (.seq (.region [
 mV 22 0,
 mV 23 6,
 oP 24 (iA 1 22 23),
 oP 25 (lD 24),
 mV 7 25])
 (kL [0,1,5,6,7] 0 (.seq (.region [
 mV 26 1,
 mV 27 7,
 oP 28 (.dyn (.t 26) [(.t 27)]),
 oP 29 (.un .not (.t 28))])
 (kL [0,1,5,6,7,29] 0 (.cond (.t 29)
 (.seq (.region [
 mV 30 0,
 mV 31 5,
 mV 32 7,
 oP 33 (iA 1 30 31),
 oW (.store 1 (.t 33) (.t 32))])
 (kL [0,1,5,6] 0 (.region [
 mV 34 5,
 oP 35 (.bin .add .num (.t 34) (cI 1)),
 mV 5 35])))
 (.skip)))))))
 (kL [0,1,5,6] 0 (.region [
 mV 20 6,
 oP 21 (.bin .add .num (.t 20) (cI 1)),
 mV 6 21]))))))))))
 (kL [0,5] 0 (.seq (.region [
 mV 36 0,
 mV 37 5,
 oP 38 (.slice 1 (.t 36) (some (.t 37)) none none),
 oW (.clear 1 [(.int .i64 0)] (.t 38))])
 (kL [0,5] 0 (.seq (.region [
 mV 39 0,
 mV 40 5,
 oP 41 (.slice 1 (.t 39) none (some (.t 40)) none),
 mV 4 41])
 (.ret)))))))))))⟩
def n310:NF:=⟨9,[3],
 .seq (.region [
 oP 3 (.mov (cB false))])
 (kL [0,1] 0 (.seq (.region [
 oP 4 (lD 1),
 mV 5 0,
 oP 6 (.bin .shr .num (.t 4) (.t 5)),
 oP 7 (.bin .and .num (.t 6) (.c (.c (.int .u32 1)))),
 oP 8 (.bin .eql .num (.t 7) (.c (.c (.int .u32 1)))),
 mV 3 8])
 (.ret)))⟩
def n313:NF:=⟨30,[4,5],
 .seq (.region [
 oP 4 (.mov (.c (.c .nils))),
 oP 5 (.mov (cB false))])
 (kL [0,1] 0 (.seq (.seq (.region [
 mV 6 0,
 oP 7 (.bin .eql .ptr (.t 6) (.c (.c .nilp))),
 mV 8 7,
 mG 9 1 8 false,
 oG 10 (.bin .lss .num (.t 9) (cI 0)) 8 false,
 oP 11 (.pick (.t 8) (cB true) (.t 10)),
 mV 12 11,
 mG 13 1 12 false,
 mG 14 0 12 false,
 oG 15 (.nilck (.t 14)) 12 false,
 oG 16 (.faddr 1 (.t 15)) 12 false,
 oG 17 (lD 16) 12 false,
 oG 18 (.len .sl (.t 17)) 12 false,
 oG 19 (.bin .geq .num (.t 13) (.t 18)) 12 false,
 oP 20 (.pick (.t 12) (cB true) (.t 19))])
 (kL [0,1,20] 0 (.cond (.t 20)
 (.seq (.region [
 oP 4 (.mov (.c (.c .nils))),
 oP 5 (.mov (cB false))])
 (.ret))
 (.skip))))
 (kL [0,1] 0 (.seq (.region [
 mV 21 0,
 oP 22 (.nilck (.t 21)),
 oP 23 (.faddr 1 (.t 22)),
 oP 24 (lD 23),
 mV 25 1,
 oP 26 (iA 2 24 25),
 oP 27 (.faddr 1 (.t 26)),
 oP 28 (lD 27),
 oP 29 (.call 293 [(.t 28)]),
 mV 4 29,
 oP 5 (.mov (cB true))])
 (.ret)))))⟩
def n314:NF:=⟨24,[2],
 .seq (.region [
 oP 2 (.mov (.c (.c .nils)))])
 (kL [0] 0 (.seq (.seq (.region [
 mV 6 0,
 oP 7 (.bin .eql .ptr (.t 6) (.c (.c .nilp)))])
 (kL [0,7] 0 (.cond (.t 7)
 (.seq (.region [
 oP 2 (.mov (.c (.c .nils)))])
 (.ret))
 (.skip))))
 (kL [0] 0 (.seq (.region [
 oP 3 (.mov (.c (.c .nils)))])
 (kL [0,3] 0 (.seq (.seq (.region [
 mV 8 0,
 oP 9 (.nilck (.t 8)),
 oP 10 (.faddr 1 (.t 9)),
 oP 11 (lD 10),
 oP 12 (.len .sl (.t 11)),
 oP 13 (.mov (cI 0))])
 (kL [3,11,12,13] 0 (.block 0 (.loop (kL [3,11,12,13] 0 (.seq (.region [
 oP 14 (.bin .lss .num (.t 13) (.t 12))])
 (kL [3,11,12,13,14] 0 (.seq (.cond (.t 14)
 (.skip)
 (.exit 0))
 (kL [3,11,12,13] 0 (.seq (.block 1 (.seq (.region [
 oP 15 (iA 2 11 13),
 oP 16 (.load (some 2) (.t 15)),
 oP 5 (.box true 2 (.c (.agg [(.int .i64 0),.nils]))),
 oW (.store 2 (.t 5) (.t 16))])
 (kL [3,5,11,12,13] 1 (.region [
 mV 17 3,
 oP 18 (.faddr 0 (.t 5)),
 oP 19 (lD 18),
 oP 20 (.bslice true 1 1 [(.int .i64 0)] [(0,(1,(.t 19)))]),
 oP 21 (.app 1 8 (.t 17) (.t 20)),
 mV 3 21]))))
 (kL [3,11,12,13] 0 (.region [
 oP 22 (.bin .add .num (.t 13) (cI 1)),
 mV 13 22]))))))))))))
 (kL [3] 0 (.seq (.region [
 mV 23 3,
 mV 2 23])
 (.ret)))))))))⟩
def n315:NF:=⟨9,[2],
 .seq (.region [
 oP 2 (.mov (cB false))])
 (kL [0] 0 (.seq (.region [
 mV 3 0,
 oP 4 (.bin .geq .num (.t 3) (cI 0)),
 mV 5 4,
 mG 6 0 5 true,
 oG 7 (.bin .lss .num (.t 6) (cI 16)) 5 true,
 oP 8 (.pick (.t 5) (.t 7) (cB false)),
 mV 2 8])
 (.ret)))⟩
def n316:NF:=⟨9,[4],
 .seq (.region [
 oP 4 (.mov (cB false))])
 (kL [0,1] 0 (.seq (.region [
 mV 5 0,
 mV 6 1,
 oP 7 (.call 329 [(.t 5),(.t 6)]),
 oP 8 (.bin .geq .num (.t 7) (cI 0)),
 mV 4 8])
 (.ret)))⟩
end
end Camp
