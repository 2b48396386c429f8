/- Functions of the program, as the machine runs them. Printed by a program of mine (ncode.py). -/
import Derived.Test.YtidnhdikcdninaaGreatCodeA
set_option linter.unnecessarySimpa false
set_option linter.unusedVariables false
set_option linter.unusedSimpArgs false
set_option linter.unusedSectionVars false
namespace Camp
open Go
section
def n317:NF:=⟨6,[2],
 .seq (.region [
 oP 1 (.box true 5 (.t 0)),
 oP 2 (.mov (cB false))])
 (kL [1] 1 (.seq (.region [
 oP 3 (.load (some 5) (.t 1)),
 oP 4 (.call 330 [(.t 3)]),
 oP 5 (.un .not (.t 4)),
 mV 2 5])
 (.ret)))⟩
def n330:NF:=⟨20,[2],
 .seq (.region [
 oP 1 (.box true 5 (.t 0)),
 oP 2 (.mov (cB false))])
 (kL [1] 1 (.seq (.region [
 oP 4 (.load (some 5) (.t 1)),
 oP 5 (.call 320 [(.t 4)]),
 mV 3 5])
 (kL [1,3] 1 (.seq (.draw 0 [
 ⟨0,none,(mV 6 3),[]⟩,
 ⟨1,none,(oP 7 (.isnil true (.t 6))),[]⟩,
 ⟨2,none,(mV 8 7),[]⟩,
 ⟨3,none,(mG 9 3 8 true),[]⟩,
 ⟨4,none,(oG 10 (.inv [(218,331),(220,332),(222,333)] (.t 9) []) 8 true),[]⟩,
 ⟨5,none,(oP 11 (.pick (.t 8) (.t 10) (cB false))),[]⟩,
 ⟨6,none,(mV 12 11),[]⟩,
 ⟨7,none,(oG 13 (.load (some 5) (.t 1)) 12 true),[]⟩,
 ⟨8,none,(oG 14 (.faddr 0 (.t 1)) 12 true),[]⟩,
 ⟨9,none,(oG 15 (lD 14) 12 true),[]⟩,
 ⟨10,none,(mG 16 3 12 true),[]⟩,
 ⟨11,none,(oG 17 (.call 334 [(.t 15),(.t 16)]) 12 true),[(7,(oG 13 (.load (some 5) (.t 1)) 12 true))]⟩,
 ⟨12,none,(oG 18 (.call 335 [(.t 13),(.t 17)]) 12 true),[]⟩,
 ⟨13,none,(oP 19 (.pick (.t 12) (.t 18) (cB false))),[]⟩,
 ⟨14,none,(mV 2 19),[]⟩])
 (.ret)))))⟩
def n318:NF:=⟨50,[2],
 .seq (.region [
 oP 1 (.box true 6 (.t 0)),
 oP 2 (.mov (cB false))])
 (kL [1] 1 (.seq (.region [
 oP 7 (.faddr 4 (.t 1)),
 oP 8 (lD 7),
 oP 9 (.call 336 [(.t 8),(cI 1)]),
 mV 6 9,
 oP 10 (.ext (.t 6) 0),
 oP 11 (.ext (.t 6) 1),
 oP 3 (.box true 5 (.c (.agg [(.int .i64 0),(.int .i64 0),(.int .i64 0),(.int .i64 0),.nils]))),
 oW (.store 5 (.t 3) (.t 10)),
 mV 4 11])
 (kL [1,4] 1 (.seq (.region [
 oP 12 (.faddr 2 (.t 1)),
 oP 13 (lD 12),
 oP 14 (.bin .neq .num (.t 13) (cI 64)),
 mV 5 14])
 (kL [1,4,5] 1 (.seq (.seq (.region [
 oP 15 (.faddr 0 (.t 1)),
 oP 16 (lD 15)])
 (kL [1,4,5,16] 1 (.block 0 (.seq (.seq (.region [
 oP 18 (.bin .eql .num (.t 16) (cI 2)),
 mV 17 18])
 (kL [1,4,5,16,17] 1 (.cond (.t 17)
 (.skip)
 (.region [
 oP 19 (.bin .eql .num (.t 16) (cI 4)),
 mV 17 19]))))
 (kL [1,4,5,16,17] 1 (.cond (.t 17)
 (.seq (.region [
 mV 20 5,
 mV 21 20,
 oG 22 (.faddr 5 (.t 1)) 21 true,
 oG 23 (lD 22) 21 true,
 oG 24 (.len .sl (.t 23)) 21 true,
 oG 25 (.bin .eql .num (.t 24) (cI 0)) 21 true,
 oP 26 (.pick (.t 21) (.t 25) (cB false)),
 mV 2 26])
 (.ret))
 (.seq (.region [
 oP 28 (.bin .eql .num (.t 16) (cI 3)),
 mV 27 28])
 (kL [1,4,5,16,27] 1 (.cond (.t 27)
 (.seq (.region [
 mV 29 5,
 oP 30 (.un .not (.t 29)),
 mV 31 30,
 oG 32 (.faddr 5 (.t 1)) 31 true,
 oG 33 (lD 32) 31 true,
 oG 34 (.len .sl (.t 33)) 31 true,
 oG 35 (.bin .eql .num (.t 34) (cI 0)) 31 true,
 oP 36 (.pick (.t 31) (.t 35) (cB false)),
 mV 37 36,
 mG 38 4 37 true,
 oP 39 (.pick (.t 37) (.t 38) (cB false)),
 mV 2 39])
 (.ret))
 (.seq (.seq (.region [
 oP 41 (.bin .eql .num (.t 16) (cI 1)),
 mV 40 41])
 (kL [1,5,16,40] 1 (.cond (.t 40)
 (.skip)
 (.region [
 oP 42 (.bin .eql .num (.t 16) (cI 5)),
 mV 40 42]))))
 (kL [1,5,40] 1 (.cond (.t 40)
 (.seq (.region [
 mV 43 5,
 mV 44 43,
 oG 45 (.faddr 5 (.t 1)) 44 true,
 oG 46 (lD 45) 44 true,
 oG 47 (.len .sl (.t 46)) 44 true,
 oG 48 (.bin .gtr .num (.t 47) (cI 0)) 44 true,
 oP 49 (.pick (.t 44) (.t 48) (cB false)),
 mV 2 49])
 (.ret))
 (.skip)))))))))))))
 (kL [] 0 (.seq (.region [
 oP 2 (.mov (cB false))])
 (.ret)))))))))⟩
def n319:NF:=⟨6,[2],
 .seq (.region [
 oP 1 (.box true 5 (.t 0)),
 oP 2 (.mov (cB false))])
 (kL [1] 1 (.seq (.region [
 oP 3 (.load (some 5) (.t 1)),
 oP 4 (.call 330 [(.t 3)]),
 oP 5 (.un .not (.t 4)),
 mV 2 5])
 (.ret)))⟩
def n320:NF:=⟨26,[2],
 .seq (.region [
 oP 1 (.box true 5 (.t 0)),
 oP 2 (.mov (.c (.c .nili)))])
 (kL [1] 1 (.seq (.seq (.region [
 oP 3 (.faddr 0 (.t 1)),
 oP 4 (lD 3)])
 (kL [1,4] 1 (.block 0 (.seq (.region [
 oP 6 (.bin .eql .num (.t 4) (cI 1)),
 mV 5 6])
 (kL [1,4,5] 1 (.cond (.t 5)
 (.seq (.region [
 oP 7 (.faddr 1 (.t 1)),
 oP 8 (lD 7),
 oP 9 (.faddr 2 (.t 1)),
 oP 10 (lD 9),
 oP 11 (.build [(.int .i64 0),(.int .i64 0)] [(0,(1,(.t 8))),(1,(1,(.t 10)))]),
 oP 12 (.mkif 218 (.t 11)),
 mV 2 12])
 (.ret))
 (.seq (.region [
 oP 14 (.bin .eql .num (.t 4) (cI 2)),
 mV 13 14])
 (kL [1,4,13] 1 (.cond (.t 13)
 (.seq (.region [
 oP 15 (.faddr 3 (.t 1)),
 oP 16 (lD 15),
 oP 17 (.build [(.int .i64 0)] [(0,(1,(.t 16)))]),
 oP 18 (.mkif 220 (.t 17)),
 mV 2 18])
 (.ret))
 (.seq (.seq (.region [
 oP 20 (.bin .eql .num (.t 4) (cI 3)),
 mV 19 20])
 (kL [1,4,19] 1 (.cond (.t 19)
 (.skip)
 (.region [
 oP 21 (.bin .eql .num (.t 4) (cI 4)),
 mV 19 21]))))
 (kL [1,19] 1 (.cond (.t 19)
 (.seq (.region [
 oP 22 (.faddr 4 (.t 1)),
 oP 23 (lD 22),
 oP 24 (.build [.nils] [(0,(1,(.t 23)))]),
 oP 25 (.mkif 222 (.t 24)),
 mV 2 25])
 (.ret))
 (.skip)))))))))))))
 (kL [] 0 (.seq (.region [
 oP 2 (.mov (.c (.c .nili)))])
 (.ret)))))⟩
def n309:NF:=⟨9,[2],
 .seq (.region [
 oP 2 (.mov (cB false))])
 (kL [0] 0 (.seq (.region [
 mV 3 0,
 oP 4 (.bin .geq .num (.t 3) (cI 0)),
 mV 5 4,
 mG 6 0 5 true,
 oG 7 (.bin .leq .num (.t 6) (cI 64)) 5 true,
 oP 8 (.pick (.t 5) (.t 7) (cB false)),
 mV 2 8])
 (.ret)))⟩
def n324:NF:=⟨28,[2],
 .seq (.region [
 oP 2 (.mov (.c (.c (.int .u16 0))))])
 (kL [0] 0 (.seq (.region [
 oP 3 (.mov (.c (.c (.int .u16 0))))])
 (kL [0,3] 0 (.seq (.seq (.region [
 mV 6 0,
 oP 7 (.len .sl (.t 6)),
 oP 8 (.mov (cI 0))])
 (kL [3,6,7,8] 0 (.block 0 (.loop (kL [3,6,7,8] 0 (.seq (.region [
 oP 9 (.bin .lss .num (.t 8) (.t 7))])
 (kL [3,6,7,8,9] 0 (.seq (.cond (.t 9)
 (.skip)
 (.exit 0))
 (kL [3,6,7,8] 0 (.seq (.block 1 (.seq (.region [
 oP 10 (iA 1 6 8),
 oP 11 (lD 10),
 mV 5 11])
 (kL [3,5,6,7,8] 0 (.seq (.region [
 mV 12 3,
 mV 13 5,
 oP 14 (.conv (.toInt .u16) (.t 13)),
 oP 15 (.bin .xor .num (.t 12) (.t 14)),
 mV 3 15])
 (kL [3,6,7,8] 0 (.seq (.region [
 oP 16 (.mov (cI 0))])
 (kL [3,6,7,8,16] 0 (.block 2 (.loop (kL [3,6,7,8,16] 0 (.seq (.region [
 oP 17 (.bin .lss .num (.t 16) (cI 8))])
 (kL [3,6,7,8,16,17] 0 (.seq (.cond (.t 17)
 (.skip)
 (.exit 2))
 (kL [3,6,7,8,16] 0 (.seq (.block 3 (.region [
 mV 18 3,
 oP 19 (.bin .shr .num (.t 18) (.c (.c (.int .u64 1)))),
 mV 20 3,
 oP 21 (.bin .and .num (.t 20) (.c (.c (.int .u16 1)))),
 oP 22 (.un .neg (.t 21)),
 oP 23 (.bin .and .num (.c (.c (.int .u16 33800))) (.t 22)),
 oP 24 (.bin .xor .num (.t 19) (.t 23)),
 mV 3 24]))
 (kL [3,6,7,8,16] 0 (.region [
 oP 25 (.bin .add .num (.t 16) (cI 1)),
 mV 16 25])))))))))))))))))
 (kL [3,6,7,8] 0 (.region [
 oP 26 (.bin .add .num (.t 8) (cI 1)),
 mV 8 26]))))))))))))
 (kL [3] 0 (.seq (.region [
 mV 27 3,
 mV 2 27])
 (.ret)))))))⟩
def n53:NF:=⟨17,[4],
 .seq (.region [
 oP 4 (.mov (.c (.c .nilp)))])
 (kL [0,1] 0 (.seq (.seq (.region [
 mV 5 0,
 oP 6 (.call 73 [(.t 5),(cI 0),(cI 15)]),
 oP 7 (.un .not (.t 6)),
 mV 8 7,
 mG 9 1 8 false,
 oG 10 (.call 73 [(.t 9),(cI 0),(cI 255)]) 8 false,
 oG 11 (.un .not (.t 10)) 8 false,
 oP 12 (.pick (.t 8) (cB true) (.t 11))])
 (kL [0,1,12] 0 (.cond (.t 12)
 (.seq (.region [
 oP 4 (.mov (.c (.c .nilp)))])
 (.ret))
 (.skip))))
 (kL [0,1] 0 (.seq (.region [
 mV 13 0,
 mV 14 1,
 oP 15 (.build [(.int .i64 0),(.int .i64 0),.nils] [(0,(1,(.t 13))),(1,(1,(.t 14)))]),
 oP 16 (.box false 3 (.t 15)),
 mV 4 16])
 (.ret)))))⟩
def n403:NF:=⟨8,[2],
 .seq (.region [
 oP 2 (.mov (.c (.c .nilp)))])
 (kL [0] 0 (.seq (.region [
 mV 3 0,
 oP 4 (.min [(.t 3),(cI 10000)]),
 oP 5 (.max [(cI 1),(.t 4)]),
 oP 6 (.build [(.int .i64 0),(.int .i64 0)] [(0,(1,(.t 5)))]),
 oP 7 (.box false 2 (.t 6)),
 mV 2 7])
 (.ret)))⟩
def n58:NF:=⟨96,[8],
 .seq (.region [
 oP 4 (.box false 1 (.t 0)),
 oP 5 (.box false 1 (.t 1)),
 oP 8 (.mov (cB false))])
 (kL [2,3,4,5] 0 (.seq (.seq (.draw 0 [
 ⟨0,none,(oP 11 (lD 4)),[]⟩,
 ⟨1,none,(oP 12 (.bin .eql .ptr (.t 11) (.c (.c .nilp)))),[]⟩,
 ⟨2,none,(mV 13 12),[]⟩,
 ⟨3,none,(oG 14 (lD 5) 13 false),[]⟩,
 ⟨4,none,(oG 15 (.call 73 [(.t 14),(cI 0),(cI 15)]) 13 false),[]⟩,
 ⟨5,none,(oG 16 (.un .not (.t 15)) 13 false),[]⟩,
 ⟨6,none,(oP 17 (.pick (.t 13) (cB true) (.t 16))),[]⟩,
 ⟨7,none,(mV 18 17),[]⟩,
 ⟨8,none,(oG 19 (lD 5) 18 false),[]⟩,
 ⟨9,none,(oG 20 (lD 4) 18 false),[]⟩,
 ⟨10,none,(oG 21 (.nilck (.t 20)) 18 false),[]⟩,
 ⟨11,none,(oG 22 (.faddr 0 (.t 21)) 18 false),[]⟩,
 ⟨12,none,(oG 23 (lD 22) 18 false),[]⟩,
 ⟨13,none,(oG 24 (.bin .eql .num (.t 19) (.t 23)) 18 false),[]⟩,
 ⟨14,none,(oP 25 (.pick (.t 18) (cB true) (.t 24))),[]⟩,
 ⟨15,none,(mV 26 25),[]⟩,
 ⟨16,none,(mG 27 2 26 false),[]⟩,
 ⟨17,none,(oG 28 (.call 73 [(.t 27),(cI 0),(cI 255)]) 26 false),[]⟩,
 ⟨18,none,(oG 29 (.un .not (.t 28)) 26 false),[]⟩,
 ⟨19,none,(oP 30 (.pick (.t 26) (cB true) (.t 29))),[]⟩,
 ⟨20,none,(mV 31 30),[]⟩,
 ⟨21,none,(mG 32 3 31 false),[]⟩,
 ⟨22,none,(oG 33 (.bin .lss .num (.t 32) (cI 0)) 31 false),[]⟩,
 ⟨23,none,(oP 34 (.pick (.t 31) (cB true) (.t 33))),[]⟩])
 (kL [2,3,4,5,34] 0 (.cond (.t 34)
 (.seq (.region [
 oP 8 (.mov (cB false))])
 (.ret))
 (.skip))))
 (kL [2,3,4,5] 0 (.seq (.region [
 oP 35 (lD 4),
 oP 36 (.mkfn 77 [(.t 5)]),
 oP 37 (.call 76 [(.t 35),(.t 36)])])
 (kL [2,3,4,5] 0 (.seq (.seq (.region [
 mV 38 2,
 oP 39 (lD 4),
 oP 40 (.nilck (.t 39)),
 oP 41 (.faddr 1 (.t 40)),
 oP 42 (lD 41),
 oP 43 (.bin .geq .num (.t 38) (.t 42))])
 (kL [2,3,4,5,43] 0 (.cond (.t 43)
 (.seq (.region [
 oP 8 (.mov (cB false))])
 (.ret))
 (.skip))))
 (kL [2,3,4,5] 0 (.seq (.draw 1 [
 ⟨0,none,(oP 44 (lD 4)),[]⟩,
 ⟨1,none,(oP 45 (lD 4)),[]⟩,
 ⟨2,none,(oP 46 (.nilck (.t 45))),[]⟩,
 ⟨3,none,(oP 47 (.faddr 2 (.t 46))),[]⟩,
 ⟨4,none,(oP 48 (lD 47)),[]⟩,
 ⟨5,none,(mV 49 2),[]⟩,
 ⟨6,none,(oP 50 (lD 5)),[]⟩,
 ⟨7,none,(mV 51 3),[]⟩,
 ⟨8,none,(oP 52 (.build [(.int .i64 0),(.int .i64 0),(.int .i64 0)] [(0,(1,(.t 49))),(1,(1,(.t 50))),(2,(1,(.t 51)))])),[]⟩,
 ⟨9,(some 0),(oP 53 (.bslice false 3 1 [(.int .i64 0),(.int .i64 0),(.int .i64 0)] [(0,(3,(.t 52)))])),[]⟩,
 ⟨10,none,(oP 54 (.app 3 24 (.t 48) (.t 53))),[(0,(oP 44 (lD 4)))]⟩,
 ⟨11,none,(oP 55 (.nilck (.t 44))),[]⟩,
 ⟨12,none,(oP 56 (.faddr 2 (.t 55))),[]⟩,
 ⟨13,none,(oW (.store 1 (.t 56) (.t 54))),[]⟩])
 (kL [2,4,5] 0 (.seq (.region [
 oP 57 (lD 4),
 oP 58 (.nilck (.t 57)),
 oP 59 (.faddr 2 (.t 58)),
 oP 60 (lD 59),
 oP 61 (.call 78 [(.t 60),(.c (.c (.fn 79 [])))])])
 (kL [2,4,5] 0 (.seq (.draw 0 [
 ⟨0,none,(oP 62 (lD 4)),[]⟩,
 ⟨1,none,(oP 63 (lD 4)),[]⟩,
 ⟨2,none,(oP 64 (.nilck (.t 63))),[]⟩,
 ⟨3,none,(oP 65 (.faddr 1 (.t 64))),[]⟩,
 ⟨4,none,(oP 66 (lD 65)),[]⟩,
 ⟨5,none,(mV 67 2),[]⟩,
 ⟨6,none,(oP 68 (.bin .add .num (.t 67) (cI 1))),[]⟩,
 ⟨7,none,(oP 69 (.min [(.t 66),(.t 68)])),[]⟩,
 ⟨8,none,(oP 70 (.nilck (.t 62))),[]⟩,
 ⟨9,none,(oP 71 (.faddr 1 (.t 70))),[]⟩,
 ⟨10,none,(oW (.store 1 (.t 71) (.t 69))),[]⟩])
 (kL [4,5] 0 (.seq (.region [
 oP 72 (lD 4),
 oP 73 (.mkfn 80 [(.t 4)]),
 oP 74 (.call 76 [(.t 72),(.t 73)])])
 (kL [4,5] 0 (.seq (.seq (.region [
 oP 75 (lD 4),
 oP 76 (.nilck (.t 75)),
 oP 77 (.faddr 2 (.t 76)),
 oP 78 (lD 77),
 oP 79 (.len .sl (.t 78)),
 oP 80 (.bin .gtr .num (.t 79) (cI 3))])
 (kL [4,5,80] 0 (.cond (.t 80)
 (.draw 0 [
 ⟨0,none,(oP 81 (lD 4)),[]⟩,
 ⟨1,none,(oP 82 (lD 4)),[]⟩,
 ⟨2,none,(oP 83 (.nilck (.t 82))),[]⟩,
 ⟨3,none,(oP 84 (.faddr 2 (.t 83))),[]⟩,
 ⟨4,none,(oP 85 (lD 84)),[]⟩,
 ⟨5,none,(oP 86 (.slice 3 (.t 85) none (some (cI 3)) none)),[]⟩,
 ⟨6,none,(oP 87 (.nilck (.t 81))),[]⟩,
 ⟨7,none,(oP 88 (.faddr 2 (.t 87))),[]⟩,
 ⟨8,none,(oW (.store 1 (.t 88) (.t 86))),[]⟩])
 (.skip))))
 (kL [4,5] 0 (.seq (.region [
 oP 90 (lD 4),
 oP 91 (lD 5),
 oP 92 (.call 62 [(.t 90),(.t 91)]),
 mV 89 92,
 oP 93 (.ext (.t 89) 0),
 oP 94 (.ext (.t 89) 1),
 mV 9 93,
 mV 10 94])
 (kL [10] 0 (.seq (.region [
 mV 95 10,
 mV 8 95])
 (.ret)))))))))))))))))))))⟩
def n404:NF:=⟨20,[],
 .seq (.region [
 mV 6 0,
 oP 7 (.nilck (.t 6)),
 oP 8 (.faddr 10 (.t 7)),
 oP 9 (lD 8),
 mV 10 2,
 oP 11 (.call 414 [(.t 9),(.t 10)])])
 (kL [0,1] 0 (.seq (.region [
 mV 12 0,
 oP 13 (.nilck (.t 12)),
 oP 14 (.faddr 20 (.t 13)),
 oP 15 (lD 14),
 oP 16 (.call 415 [(.t 15)])])
 (kL [0,1] 0 (.region [
 mV 17 0,
 mV 18 1,
 oP 19 (.call 384 [(.t 17),(cI 7),(.t 18)])]))))⟩
def n405:NF:=⟨115,[],
 .seq (.region [
 mV 9 1,
 oP 10 (.call 401 [(.t 9)]),
 mV 8 10,
 oP 11 (.ext (.t 8) 0),
 oP 12 (.ext (.t 8) 1),
 oP 4 (.box true 6 (.c (.agg [(.int .i64 0),(.int .i64 0),(.int .i64 0),(.int .i64 0),.nils,.nils]))),
 oW (.store 6 (.t 4) (.t 11)),
 mV 5 12])
 (kL [0,4,5] 1 (.seq (.seq (.region [
 mV 13 5,
 oP 14 (.bin .neq .num (.t 13) (cI 0)),
 mV 15 14,
 mG 16 0 15 false,
 oG 17 (.load (some 6) (.t 4)) 15 false,
 oG 18 (.call 416 [(.t 16),(.t 17)]) 15 false,
 oG 19 (.un .not (.t 18)) 15 false,
 oP 20 (.pick (.t 15) (cB true) (.t 19))])
 (kL [0,4,20] 1 (.cond (.t 20)
 (.ret)
 (.skip))))
 (kL [0,4] 1 (.seq (.region [
 mV 21 0,
 oP 22 (.nilck (.t 21)),
 oP 23 (.faddr 9 (.t 22)),
 oP 24 (lD 23),
 oP 25 (.bin .neq .num (.t 24) (cI 0)),
 mV 26 25,
 oG 27 (.faddr 4 (.t 4)) 26 true,
 oG 28 (lD 27) 26 true,
 oG 29 (.len .sl (.t 28)) 26 true,
 oG 30 (.bin .gtr .num (.t 29) (cI 0)) 26 true,
 oP 31 (.pick (.t 26) (.t 30) (cB false)),
 mV 32 31,
 oG 33 (.faddr 4 (.t 4)) 32 true,
 oG 34 (lD 33) 32 true,
 oG 35 (.iaddr 1 (.t 34) (cI 0)) 32 true,
 oG 36 (lD 35) 32 true,
 oG 37 (.bin .eql .num (.t 36) (cI 0)) 32 true,
 oP 38 (.pick (.t 32) (.t 37) (cB false)),
 mV 6 38])
 (kL [0,4,6] 1 (.seq (.region [
 mV 39 0,
 oP 40 (.nilck (.t 39)),
 oP 41 (.faddr 12 (.t 40)),
 oP 42 (lD 41),
 mV 7 42])
 (kL [0,4,6,7] 1 (.seq (.block 0 (.seq (.draw 0 [
 ⟨0,none,(oP 44 (.faddr 1 (.t 4))),[]⟩,
 ⟨1,none,(oP 45 (lD 44)),[]⟩,
 ⟨2,none,(mV 46 0),[]⟩,
 ⟨3,none,(oP 47 (.nilck (.t 46))),[]⟩,
 ⟨4,none,(oP 48 (.faddr 9 (.t 47))),[]⟩,
 ⟨5,none,(oP 49 (lD 48)),[]⟩,
 ⟨6,none,(oP 50 (.bin .eql .num (.t 45) (.t 49))),[]⟩,
 ⟨7,none,(mV 43 50),[]⟩])
 (kL [0,4,6,7,43] 1 (.cond (.t 43)
 (.region [
 mV 51 0,
 oP 52 (.nilck (.t 51)),
 oP 53 (.faddr 14 (.t 52)),
 oP 54 (lD 53),
 mV 7 54])
 (.seq (.region [
 mV 56 6,
 mV 55 56])
 (kL [0,4,6,7,55] 1 (.cond (.t 55)
 (.region [
 mV 57 0,
 oP 58 (.nilck (.t 57)),
 oP 59 (.faddr 13 (.t 58)),
 oP 60 (lD 59),
 mV 7 60])
 (.skip))))))))
 (kL [0,4,6,7] 1 (.seq (.seq (.region [
 mV 61 7,
 oP 62 (.faddr 0 (.t 4)),
 oP 63 (lD 62),
 oP 64 (.faddr 2 (.t 4)),
 oP 65 (lD 64),
 oP 66 (.call 417 [(.t 61),(.t 63),(.t 65)]),
 oP 67 (.un .not (.t 66))])
 (kL [0,4,6,67] 1 (.cond (.t 67)
 (.seq (.region [
 mV 68 0,
 oP 69 (.load (some 6) (.t 4)),
 oP 70 (.call 379 [(.t 68),(.t 69),(cI 5)])])
 (.ret))
 (.skip))))
 (kL [0,4,6] 1 (.block 1 (.seq (.draw 0 [
 ⟨0,none,(oP 75 (.faddr 1 (.t 4))),[]⟩,
 ⟨1,none,(oP 76 (lD 75)),[]⟩,
 ⟨2,none,(mV 77 0),[]⟩,
 ⟨3,none,(oP 78 (.nilck (.t 77))),[]⟩,
 ⟨4,none,(oP 79 (.faddr 9 (.t 78))),[]⟩,
 ⟨5,none,(oP 80 (lD 79)),[]⟩,
 ⟨6,none,(oP 81 (.bin .eql .num (.t 76) (.t 80))),[]⟩,
 ⟨7,none,(mV 74 81),[]⟩])
 (kL [0,4,6,74] 1 (.cond (.t 74)
 (.seq (.region [
 mV 82 0,
 oP 83 (.load (some 6) (.t 4)),
 oP 84 (.call 418 [(.t 82),(.t 83)])])
 (kL [0,4] 1 (.draw 1 [
 ⟨0,none,(mV 85 0),[]⟩,
 ⟨1,none,(mV 86 0),[]⟩,
 ⟨2,none,(oP 87 (.nilck (.t 86))),[]⟩,
 ⟨3,none,(oP 88 (.faddr 31 (.t 87))),[]⟩,
 ⟨4,none,(oP 89 (lD 88)),[]⟩,
 ⟨5,none,(mV 90 0),[]⟩,
 ⟨6,none,(oP 91 (.nilck (.t 90))),[]⟩,
 ⟨7,none,(oP 92 (.faddr 9 (.t 91))),[]⟩,
 ⟨8,none,(oP 93 (lD 92)),[]⟩,
 ⟨9,none,(oP 94 (.load (some 6) (.t 4))),[]⟩,
 ⟨10,none,(oP 95 (.build [(.int .i64 0),(.int .i64 0),(.int .i64 0),(.int .i64 0),(.int .i64 0),(.int .i64 0),(.int .i64 0),(.int .i64 0),.nils,.nils] [(0,(1,(cI 4))),(1,(1,(.t 93))),(4,(6,(.t 94)))])),[]⟩,
 ⟨11,(some 0),(oP 96 (.bslice false 10 1 [(.int .i64 0),(.int .i64 0),(.int .i64 0),(.int .i64 0),(.int .i64 0),(.int .i64 0),(.int .i64 0),(.int .i64 0),.nils,.nils] [(0,(10,(.t 95)))])),[]⟩,
 ⟨12,none,(oP 97 (.app 10 112 (.t 89) (.t 96))),[]⟩,
 ⟨13,none,(oP 98 (.nilck (.t 85))),[]⟩,
 ⟨14,none,(oP 99 (.faddr 31 (.t 98))),[]⟩,
 ⟨15,none,(oW (.store 1 (.t 99) (.t 97))),[]⟩])))
 (.seq (.region [
 mV 101 6,
 mV 100 101])
 (kL [0,4,100] 1 (.cond (.t 100)
 (.region [
 mV 102 0,
 oP 103 (.load (some 6) (.t 4)),
 oP 104 (.load (some 6) (.t 4)),
 oP 105 (.call 419 [(.t 102),(.t 103),(.t 104)])])
 (.seq (.region [
 mV 107 0,
 oP 108 (.nilck (.t 107)),
 oP 109 (.faddr 9 (.t 108)),
 oP 110 (lD 109),
 oP 111 (.bin .eql .num (.t 110) (cI 0)),
 mV 106 111])
 (kL [0,4,106] 1 (.cond (.t 106)
 (.region [
 mV 112 0,
 oP 113 (.load (some 6) (.t 4)),
 oP 114 (.call 420 [(.t 112),(.t 113)])])
 (.region [
 mV 71 0,
 oP 72 (.load (some 6) (.t 4)),
 oP 73 (.call 421 [(.t 71),(.t 72)])]))))))))))))))))))))))⟩
def n406:NF:=⟨25,[4],
 .seq (.region [
 oP 4 (.mov (.c (.c (.int .u64 0))))])
 (kL [0,1] 0 (.seq (.seq (.region [
 mV 6 1,
 oP 7 (.call 309 [(.t 6)]),
 oP 8 (.un .not (.t 7)),
 mV 9 8,
 mG 10 0 9 false,
 mG 11 1 9 false,
 oG 12 (.call 408 [(.t 10),(.t 11)]) 9 false,
 oG 13 (.un .not (.t 12)) 9 false,
 oP 14 (.pick (.t 9) (cB true) (.t 13))])
 (kL [0,1,14] 0 (.cond (.t 14)
 (.seq (.region [
 oP 4 (.mov (.c (.c (.int .u64 0))))])
 (.ret))
 (.skip))))
 (kL [0,1] 0 (.seq (.region [
 oP 5 (.mov (.c (.c (.int .u64 0))))])
 (kL [0,1,5] 0 (.seq (.seq (.region [
 mV 15 1,
 oP 16 (.mov (cI 0))])
 (kL [0,5,15,16] 0 (.block 0 (.loop (kL [0,5,15,16] 0 (.seq (.region [
 oP 17 (.bin .lss .num (.t 16) (.t 15))])
 (kL [0,5,15,16,17] 0 (.seq (.cond (.t 17)
 (.skip)
 (.exit 0))
 (kL [0,5,15,16] 0 (.seq (.block 1 (.region [
 mV 18 5,
 oP 19 (.bin .shl .num (.t 18) (.c (.c (.int .u64 1)))),
 mV 20 0,
 oP 21 (.call 422 [(.t 20)]),
 oP 22 (.bin .or .num (.t 19) (.t 21)),
 mV 5 22]))
 (kL [0,5,15,16] 0 (.region [
 oP 23 (.bin .add .num (.t 16) (cI 1)),
 mV 16 23]))))))))))))
 (kL [5] 0 (.seq (.region [
 mV 24 5,
 mV 4 24])
 (.ret)))))))))⟩
def n408:NF:=⟨20,[4],
 .seq (.region [
 oP 4 (.mov (cB false))])
 (kL [0,1] 0 (.seq (.seq (.region [
 mV 5 0,
 oP 6 (.bin .eql .ptr (.t 5) (.c (.c .nilp))),
 mV 7 6,
 mG 8 0 7 false,
 oG 9 (.nilck (.t 8)) 7 false,
 oG 10 (.faddr 2 (.t 9)) 7 false,
 oG 11 (lD 10) 7 false,
 oG 12 (.bin .neq .num (.t 11) (cI 0)) 7 false,
 oP 13 (.pick (.t 7) (cB true) (.t 12))])
 (kL [0,1,13] 0 (.cond (.t 13)
 (.seq (.region [
 oP 4 (.mov (cB false))])
 (.ret))
 (.skip))))
 (kL [0,1] 0 (.seq (.seq (.region [
 mV 14 1,
 mV 15 0,
 oP 16 (.call 409 [(.t 15)]),
 oP 17 (.bin .gtr .num (.t 14) (.t 16))])
 (kL [0,17] 0 (.cond (.t 17)
 (.seq (.region [
 mV 18 0,
 oP 19 (.call 423 [(.t 18),(cI 2)])])
 (kL [] 0 (.seq (.region [
 oP 4 (.mov (cB false))])
 (.ret))))
 (.skip))))
 (kL [] 0 (.seq (.region [
 oP 4 (.mov (cB true))])
 (.ret)))))))⟩
def n407:NF:=⟨9,[2],
 .seq (.region [
 oP 2 (.mov (.c (.c .nils)))])
 (kL [0] 0 (.seq (.seq (.region [
 mV 3 0,
 oP 4 (.bin .eql .ptr (.t 3) (.c (.c .nilp)))])
 (kL [0,4] 0 (.cond (.t 4)
 (.seq (.region [
 oP 2 (.mov (.c (.c .nils)))])
 (.ret))
 (.skip))))
 (kL [0] 0 (.seq (.region [
 mV 5 0,
 oP 6 (.nilck (.t 5)),
 oP 7 (.faddr 0 (.t 6)),
 oP 8 (lD 7),
 mV 2 8])
 (.ret)))))⟩
def n409:NF:=⟨16,[2],
 .seq (.region [
 oP 2 (.mov (cI 0))])
 (kL [0] 0 (.seq (.seq (.region [
 mV 3 0,
 oP 4 (.bin .eql .ptr (.t 3) (.c (.c .nilp)))])
 (kL [0,4] 0 (.cond (.t 4)
 (.seq (.region [
 oP 2 (.mov (cI 0))])
 (.ret))
 (.skip))))
 (kL [0] 0 (.seq (.draw 0 [
 ⟨0,none,(mV 5 0),[]⟩,
 ⟨1,none,(oP 6 (.nilck (.t 5))),[]⟩,
 ⟨2,none,(oP 7 (.faddr 0 (.t 6))),[]⟩,
 ⟨3,none,(oP 8 (lD 7)),[]⟩,
 ⟨4,none,(oP 9 (.len .sl (.t 8))),[]⟩,
 ⟨5,none,(oP 10 (.bin .mul .num (cI 8) (.t 9))),[]⟩,
 ⟨6,none,(mV 11 0),[]⟩,
 ⟨7,none,(oP 12 (.nilck (.t 11))),[]⟩,
 ⟨8,none,(oP 13 (.faddr 1 (.t 12))),[]⟩,
 ⟨9,none,(oP 14 (lD 13)),[]⟩,
 ⟨10,none,(oP 15 (.bin .sub .num (.t 10) (.t 14))),[]⟩,
 ⟨11,none,(mV 2 15),[]⟩])
 (.ret)))))⟩
def n410:NF:=⟨6,[2],
 .seq (.region [
 oP 2 (.mov (cB false))])
 (kL [0] 0 (.seq (.region [
 mV 3 0,
 oP 4 (.call 398 [(.t 3)]),
 oP 5 (.bin .eql .num (.t 4) (cI 2)),
 mV 2 5])
 (.ret)))⟩
def n411b:Code:=
 .seq (.region [
 oP 2 (.box false 5 (.c (.agg [(.int .i64 0),(.int .i64 0),(.int .i64 0),(.int .i64 0),.nils]))),
 oP 3 (.mov (cI 0))])
 (kL [0,2] 0 (.seq (.region [
 mV 7 0,
 oP 8 (.call 406 [(.t 7),(cI 8)]),
 oP 9 (.conv (.toInt .i64) (.t 8)),
 mV 4 9])
 (kL [0,2,4] 0 (.seq (.seq (.region [
 mV 10 0,
 oP 11 (.call 410 [(.t 10)])])
 (kL [0,2,4,11] 0 (.cond (.t 11)
 (.seq (.region [
 oP 12 (.build [(.int .i64 0),(.int .i64 0),(.int .i64 0),(.int .i64 0),.nils] []),
 oW (.store 5 (.t 2) (.t 12)),
 oP 3 (.mov (cI 2))])
 (.ret))
 (.skip))))
 (kL [0,2,4] 0 (.seq (.seq (.region [
 mV 13 4,
 oP 14 (.build [(.int .i64 0),(.int .i64 0),(.int .i64 0),(.int .i64 0),.nils] [(0,(1,(.t 13)))]),
 oP 15 (.call 320 [(.t 14)]),
 oP 16 (.isnil false (.t 15))])
 (kL [0,2,4,16] 0 (.cond (.t 16)
 (.seq (.region [
 oP 17 (.build [(.int .i64 0),(.int .i64 0),(.int .i64 0),(.int .i64 0),.nils] []),
 oW (.store 5 (.t 2) (.t 17)),
 oP 3 (.mov (cI 3))])
 (.ret))
 (.skip))))
 (kL [0,2,4] 0 (.seq (.region [
 mV 18 0,
 oP 19 (.call 406 [(.t 18),(cI 8)]),
 oP 20 (.conv (.toInt .i64) (.t 19)),
 mV 5 20])
 (kL [0,2,4,5] 0 (.seq (.seq (.region [
 mV 21 0,
 oP 22 (.call 410 [(.t 21)])])
 (kL [0,2,4,5,22] 0 (.cond (.t 22)
 (.seq (.region [
 oP 23 (.build [(.int .i64 0),(.int .i64 0),(.int .i64 0),(.int .i64 0),.nils] []),
 oW (.store 5 (.t 2) (.t 23)),
 oP 3 (.mov (cI 2))])
 (.ret))
 (.skip))))
 (kL [0,2,4,5] 0 (.seq (.seq (.region [
 mV 24 4,
 mV 25 5,
 oP 26 (.call 424 [(.t 24),(.t 25)]),
 oP 27 (.un .not (.t 26))])
 (kL [0,2,4,5,27] 0 (.cond (.t 27)
 (.seq (.region [
 oP 28 (.build [(.int .i64 0),(.int .i64 0),(.int .i64 0),(.int .i64 0),.nils] []),
 oW (.store 5 (.t 2) (.t 28)),
 oP 3 (.mov (cI 3))])
 (.ret))
 (.skip))))
 (kL [0,2,4,5] 0 (.seq (.region [
 mV 29 0,
 mV 30 4,
 mV 31 5,
 oP 32 (.call 425 [(.t 29),(.t 30),(.t 31)]),
 oP 6 (.box true 5 (.c (.agg [(.int .i64 0),(.int .i64 0),(.int .i64 0),(.int .i64 0),.nils]))),
 oW (.store 5 (.t 6) (.t 32))])
 (kL [0,2,6] 1 (.seq (.seq (.region [
 mV 33 0,
 oP 34 (.call 410 [(.t 33)])])
 (kL [2,6,34] 1 (.cond (.t 34)
 (.seq (.region [
 oP 35 (.build [(.int .i64 0),(.int .i64 0),(.int .i64 0),(.int .i64 0),.nils] []),
 oW (.store 5 (.t 2) (.t 35)),
 oP 3 (.mov (cI 2))])
 (.ret))
 (.skip))))
 (kL [2,6] 1 (.seq (.region [
 oP 36 (.load (some 5) (.t 6)),
 oW (.store 5 (.t 2) (.t 36)),
 oP 3 (.mov (cI 0))])
 (.ret)))))))))))))))))))
def n411:NF:=⟨37,[2,3],.fin n411b [⟨some 2,.load (some 5) (.t 2),none⟩]⟩
def n412:NF:=⟨33,[6],
 .seq (.region [
 oP 6 (.mov (.c (.c .nils)))])
 (kL [0,1,2] 0 (.seq (.region [
 mV 8 0,
 mV 9 1,
 mV 10 2,
 mV 11 0,
 oP 12 (.len .sl (.t 11)),
 oP 13 (.slice 2 (.t 8) (some (.t 9)) (some (.t 10)) (some (.t 12)))])
 (kL [0,1,2] 0 (.seq (.seq (.region [
 mV 14 1,
 mV 15 2,
 oP 16 (.bin .eql .num (.t 14) (.t 15))])
 (kL [0,1,2,16] 0 (.cond (.t 16)
 (.seq (.region [
 mV 17 0,
 mV 6 17])
 (.ret))
 (.skip))))
 (kL [0,1,2] 0 (.seq (.region [
 mV 18 0,
 oP 19 (.len .sl (.t 18)),
 mV 7 19])
 (kL [0,1,2,7] 0 (.seq (.draw 0 [
 ⟨0,none,(mV 20 0),[]⟩,
 ⟨1,none,(mV 21 1),[]⟩,
 ⟨2,none,(oP 22 (.slice 2 (.t 20) none (some (.t 21)) none)),[]⟩,
 ⟨3,none,(mV 23 0),[]⟩,
 ⟨4,none,(mV 24 2),[]⟩,
 ⟨5,none,(oP 25 (.slice 2 (.t 23) (some (.t 24)) none none)),[]⟩,
 ⟨6,none,(oP 26 (.app 2 32 (.t 22) (.t 25))),[]⟩,
 ⟨7,none,(mV 0 26),[]⟩])
 (kL [0,7] 0 (.seq (.region [
 mV 27 0,
 mV 28 0,
 oP 29 (.len .sl (.t 28)),
 mV 30 7,
 oP 31 (.slice 2 (.t 27) (some (.t 29)) (some (.t 30)) none),
 oW (.clear 2 [(.int .i64 0),.nils] (.t 31))])
 (kL [0] 0 (.seq (.region [
 mV 32 0,
 mV 6 32])
 (.ret)))))))))))))⟩
def n413:NF:=⟨6,[2],
 .seq (.region [
 oP 2 (.mov (cI 0))])
 (kL [0] 0 (.seq (.region [
 mV 3 0,
 oP 4 (.call 406 [(.t 3),(cI 8)]),
 oP 5 (.conv (.toInt .i64) (.t 4)),
 mV 2 5])
 (.ret)))⟩
def n307:NF:=⟨15,[6],
 .seq (.region [
 oP 6 (.mov (cB false))])
 (kL [0,1,2] 0 (.seq (.region [
 mV 7 0,
 mV 8 1,
 oP 9 (.bin .geq .num (.t 7) (.t 8)),
 mV 10 9,
 mG 11 0 10 true,
 mG 12 2 10 true,
 oG 13 (.bin .leq .num (.t 11) (.t 12)) 10 true,
 oP 14 (.pick (.t 10) (.t 13) (cB false)),
 mV 6 14])
 (.ret)))⟩
def n83:NF:=⟨134,[],
 .seq (.region [
 oP 8 (.mov (cB true))])
 (kL [0,1,2,3,8] 0 (.seq (.region [
 oP 9 (.mov (cB true))])
 (kL [0,1,2,3,8,9] 0 (.block 0 (.loop (kL [0,1,2,3,8,9] 0 (.block 1 (.seq (.region [
 mV 19 2,
 mV 20 1,
 oP 21 (.bin .sub .num (.t 19) (.t 20)),
 mV 10 21])
 (kL [0,1,2,3,8,9,10] 0 (.seq (.seq (.region [
 mV 22 10,
 oP 23 (.bin .leq .num (.t 22) (cI 12))])
 (kL [0,1,2,3,8,9,10,23] 0 (.cond (.t 23)
 (.seq (.region [
 mV 24 0,
 mV 25 1,
 mV 26 2,
 oP 27 (.call 87 [(.t 24),(.t 25),(.t 26)])])
 (.ret))
 (.skip))))
 (kL [0,1,2,3,8,9,10] 0 (.seq (.seq (.region [
 mV 28 3,
 oP 29 (.bin .eql .num (.t 28) (cI 0))])
 (kL [0,1,2,3,8,9,10,29] 0 (.cond (.t 29)
 (.seq (.region [
 mV 30 0,
 mV 31 1,
 mV 32 2,
 oP 33 (.call 88 [(.t 30),(.t 31),(.t 32)])])
 (.ret))
 (.skip))))
 (kL [0,1,2,3,8,9,10] 0 (.seq (.seq (.region [
 mV 34 8,
 oP 35 (.un .not (.t 34))])
 (kL [0,1,2,3,8,9,10,35] 0 (.cond (.t 35)
 (.seq (.region [
 mV 36 0,
 mV 37 1,
 mV 38 2,
 oP 39 (.call 89 [(.t 36),(.t 37),(.t 38)])])
 (kL [0,1,2,3,8,9,10] 0 (.region [
 mV 40 3,
 oP 41 (.bin .sub .num (.t 40) (cI 1)),
 mV 3 41])))
 (.skip))))
 (kL [0,1,2,3,8,9,10] 0 (.seq (.region [
 mV 43 0,
 mV 44 1,
 mV 45 2,
 oP 46 (.call 90 [(.t 43),(.t 44),(.t 45)]),
 mV 42 46,
 oP 47 (.ext (.t 42) 0),
 oP 48 (.ext (.t 42) 1),
 mV 11 47,
 mV 12 48])
 (kL [0,1,2,3,8,9,10,11,12] 0 (.seq (.seq (.region [
 mV 49 12,
 oP 50 (.bin .eql .num (.t 49) (cI 2))])
 (kL [0,1,2,3,8,9,10,11,12,50] 0 (.cond (.t 50)
 (.seq (.region [
 mV 51 0,
 mV 52 1,
 mV 53 2,
 oP 54 (.call 91 [(.t 51),(.t 52),(.t 53)])])
 (kL [0,1,2,3,8,9,10,11] 0 (.seq (.region [
 mV 55 2,
 oP 56 (.bin .sub .num (.t 55) (cI 1)),
 mV 57 11,
 mV 58 1,
 oP 59 (.bin .sub .num (.t 57) (.t 58)),
 oP 60 (.bin .sub .num (.t 56) (.t 59)),
 mV 11 60])
 (kL [0,1,2,3,8,9,10,11] 0 (.region [
 oP 12 (.mov (cI 1))])))))
 (.skip))))
 (kL [0,1,2,3,8,9,10,11,12] 0 (.seq (.seq (.region [
 mV 61 8,
 mV 62 61,
 mG 63 9 62 true,
 oP 64 (.pick (.t 62) (.t 63) (cB false)),
 mV 65 64,
 mG 66 12 65 true,
 oG 67 (.bin .eql .num (.t 66) (cI 1)) 65 true,
 oP 68 (.pick (.t 65) (.t 67) (cB false))])
 (kL [0,1,2,3,8,9,10,11,68] 0 (.cond (.t 68)
 (.seq (.region [
 mV 69 0,
 mV 70 1,
 mV 71 2,
 oP 72 (.call 92 [(.t 69),(.t 70),(.t 71)])])
 (kL [0,1,2,3,8,9,10,11,72] 0 (.cond (.t 72)
 (.ret)
 (.skip))))
 (.skip))))
 (kL [0,1,2,3,8,9,10,11] 0 (.seq (.seq (.draw 0 [
 ⟨0,none,(mV 73 1),[]⟩,
 ⟨1,none,(oP 74 (.bin .gtr .num (.t 73) (cI 0))),[]⟩,
 ⟨2,none,(mV 75 74),[]⟩,
 ⟨3,none,(mG 76 0 75 true),[]⟩,
 ⟨4,none,(mG 77 1 75 true),[]⟩,
 ⟨5,none,(oG 78 (.bin .sub .num (.t 77) (cI 1)) 75 true),[]⟩,
 ⟨6,none,(oG 79 (iA 1 76 78) 75 true),[]⟩,
 ⟨7,none,(oG 80 (lD 79) 75 true),[]⟩,
 ⟨8,none,(mG 81 0 75 true),[]⟩,
 ⟨9,none,(mG 82 11 75 true),[]⟩,
 ⟨10,none,(oG 83 (iA 1 81 82) 75 true),[]⟩,
 ⟨11,none,(oG 84 (lD 83) 75 true),[]⟩,
 ⟨12,none,(oG 85 (.call 93 [(.t 80),(.t 84)]) 75 true),[]⟩,
 ⟨13,none,(oG 86 (.un .not (.t 85)) 75 true),[]⟩,
 ⟨14,none,(oP 87 (.pick (.t 75) (.t 86) (cB false))),[]⟩])
 (kL [0,1,2,3,8,9,10,11,87] 0 (.cond (.t 87)
 (.seq (.region [
 mV 88 0,
 mV 89 1,
 mV 90 2,
 mV 91 11,
 oP 92 (.call 94 [(.t 88),(.t 89),(.t 90),(.t 91)]),
 mV 13 92])
 (kL [0,2,3,8,9,13] 0 (.seq (.region [
 mV 93 13,
 mV 1 93])
 (.exit 1))))
 (.skip))))
 (kL [0,1,2,3,10,11] 0 (.seq (.region [
 mV 95 0,
 mV 96 1,
 mV 97 2,
 mV 98 11,
 oP 99 (.call 95 [(.t 95),(.t 96),(.t 97),(.t 98)]),
 mV 94 99,
 oP 100 (.ext (.t 94) 0),
 oP 101 (.ext (.t 94) 1),
 mV 14 100,
 mV 15 101])
 (kL [0,1,2,3,10,14,15] 0 (.seq (.region [
 mV 102 15,
 mV 9 102])
 (kL [0,1,2,3,9,10,14] 0 (.seq (.region [
 mV 103 14,
 mV 104 1,
 oP 105 (.bin .sub .num (.t 103) (.t 104)),
 mV 106 2,
 mV 107 14,
 oP 108 (.bin .sub .num (.t 106) (.t 107)),
 mV 16 105,
 mV 17 108])
 (kL [0,1,2,3,9,10,14,16,17] 0 (.seq (.region [
 mV 109 10,
 oP 110 (.bin .quo .num (.t 109) (cI 8)),
 mV 18 110])
 (kL [0,1,2,3,9,14,16,17,18] 0 (.seq (.region [
 mV 111 16,
 mV 112 17,
 oP 113 (.bin .lss .num (.t 111) (.t 112))])
 (kL [0,1,2,3,9,14,16,17,18,113] 0 (.cond (.t 113)
 (.seq (.region [
 mV 114 16,
 mV 115 18,
 oP 116 (.bin .geq .num (.t 114) (.t 115)),
 mV 8 116])
 (kL [0,1,2,3,8,9,14] 0 (.seq (.region [
 mV 117 0,
 mV 118 1,
 mV 119 14,
 mV 120 3,
 oP 121 (.call 83 [(.t 117),(.t 118),(.t 119),(.t 120)])])
 (kL [0,2,3,8,9,14] 0 (.region [
 mV 122 14,
 oP 123 (.bin .add .num (.t 122) (cI 1)),
 mV 1 123])))))
 (.seq (.region [
 mV 124 17,
 mV 125 18,
 oP 126 (.bin .geq .num (.t 124) (.t 125)),
 mV 8 126])
 (kL [0,1,2,3,8,9,14] 0 (.seq (.region [
 mV 127 0,
 mV 128 14,
 oP 129 (.bin .add .num (.t 128) (cI 1)),
 mV 130 2,
 mV 131 3,
 oP 132 (.call 83 [(.t 127),(.t 129),(.t 130),(.t 131)])])
 (kL [0,1,3,8,9,14] 0 (.region [
 mV 133 14,
 mV 2 133])))))))))))))))))))))))))))))))))))))))⟩
def n82:NF:=⟨8,[2],
 .seq (.region [
 oP 2 (.mov (cI 0))])
 (kL [0] 0 (.seq (.cond (cB false)
 (.seq (.region [
 mV 3 0,
 oP 4 (.conv (.toInt .u32) (.t 3)),
 oP 5 (.call 96 [(.t 4)]),
 mV 2 5])
 (.ret))
 (.skip))
 (kL [0] 0 (.seq (.region [
 mV 6 0,
 oP 7 (.call 97 [(.t 6)]),
 mV 2 7])
 (.ret)))))⟩
def n84:NF:=⟨42,[4],
 .seq (.region [
 oP 4 (.mov (.c (.c .nils)))])
 (kL [0,1] 0 (.seq (.region [
 mV 8 0,
 mV 9 1,
 oP 10 (.call 98 [(.t 8),(.t 9)]),
 mV 5 10])
 (kL [0,1,5] 0 (.seq (.seq (.region [
 mV 11 5,
 oP 12 (.bin .eql .num (.t 11) (cI (-1)))])
 (kL [0,1,5,12] 0 (.cond (.t 12)
 (.seq (.region [
 mV 13 0,
 mV 4 13])
 (.ret))
 (.skip))))
 (kL [0,1,5] 0 (.seq (.seq (.region [
 mV 14 5,
 oP 15 (.bin .add .num (.t 14) (cI 1)),
 mV 6 15])
 (kL [0,1,5,6] 0 (.block 0 (.loop (kL [0,1,5,6] 0 (.seq (.seq (.region [
 mV 16 6,
 mV 17 0,
 oP 18 (.len .sl (.t 17)),
 oP 19 (.bin .lss .num (.t 16) (.t 18))])
 (kL [0,1,5,6,19] 0 (.cond (.t 19)
 (.skip)
 (.exit 0))))
 (kL [0,1,5,6] 0 (.seq (.block 1 (.seq (.region [
 mV 22 0,
 mV 23 6,
 oP 24 (iA 3 22 23),
 oP 25 (.load (some 3) (.t 24)),
 oP 7 (.box true 3 (.c (.agg [(.int .i64 0),(.int .i64 0),(.int .i64 0)]))),
 oW (.store 3 (.t 7) (.t 25))])
 (kL [0,1,5,6,7] 1 (.seq (.region [
 mV 26 1,
 oP 27 (.load (some 3) (.t 7)),
 oP 28 (.dyn (.t 26) [(.t 27)]),
 oP 29 (.un .not (.t 28))])
 (kL [0,1,5,6,7,29] 1 (.cond (.t 29)
 (.seq (.region [
 mV 30 0,
 mV 31 5,
 oP 32 (.load (some 3) (.t 7)),
 oP 33 (iA 3 30 31),
 oW (.store 3 (.t 33) (.t 32))])
 (kL [0,1,5,6] 0 (.region [
 mV 34 5,
 oP 35 (.bin .add .num (.t 34) (cI 1)),
 mV 5 35])))
 (.skip)))))))
 (kL [0,1,5,6] 0 (.region [
 mV 20 6,
 oP 21 (.bin .add .num (.t 20) (cI 1)),
 mV 6 21]))))))))))
 (kL [0,5] 0 (.seq (.region [
 mV 36 0,
 mV 37 5,
 oP 38 (.slice 3 (.t 36) (some (.t 37)) none none),
 oW (.clear 3 [(.int .i64 0),(.int .i64 0),(.int .i64 0)] (.t 38))])
 (kL [0,5] 0 (.seq (.region [
 mV 39 0,
 mV 40 5,
 oP 41 (.slice 3 (.t 39) none (some (.t 40)) none),
 mV 4 41])
 (.ret)))))))))))⟩
def n306:NF:=⟨5,[2],
 .seq (.region [
 oP 2 (.mov (cB false))])
 (kL [0] 0 (.seq (.region [
 mV 3 0,
 oP 4 (.call 307 [(.t 3),(cI 0),(cI 15)]),
 mV 2 4])
 (.ret)))⟩
def n308:NF:=⟨26,[2],
 .seq (.region [
 oP 2 (.mov (cB false))])
 (kL [0] 0 (.seq (.seq (.region [
 mV 5 0,
 oP 6 (.len .sl (.t 5)),
 oP 7 (.mov (cI 0))])
 (kL [0,5,6,7] 0 (.block 0 (.loop (kL [0,5,6,7] 0 (.seq (.region [
 oP 8 (.bin .lss .num (.t 7) (.t 6))])
 (kL [0,5,6,7,8] 0 (.seq (.cond (.t 8)
 (.skip)
 (.exit 0))
 (kL [0,5,6,7] 0 (.seq (.block 1 (.seq (.region [
 mV 9 7,
 oP 10 (iA 1 5 7),
 oP 11 (lD 10),
 mV 3 9,
 mV 4 11])
 (kL [0,3,4,5,6,7] 0 (.seq (.region [
 mV 12 4,
 oP 13 (.call 306 [(.t 12)]),
 oP 14 (.un .not (.t 13)),
 mV 15 14,
 mG 16 0 15 false,
 mG 17 3 15 false,
 oG 18 (.slice 1 (.t 16) none (some (.t 17)) none) 15 false,
 mG 19 4 15 false,
 oG 20 (.call 305 [(.t 18),(.t 19)]) 15 false,
 oP 21 (.pick (.t 15) (cB true) (.t 20))])
 (kL [0,5,6,7,21] 0 (.cond (.t 21)
 (.seq (.region [
 oP 2 (.mov (cB false))])
 (.ret))
 (.skip)))))))
 (kL [0,5,6,7] 0 (.region [
 oP 22 (.bin .add .num (.t 7) (cI 1)),
 mV 7 22]))))))))))))
 (kL [0] 0 (.seq (.region [
 mV 23 0,
 oP 24 (.len .sl (.t 23)),
 oP 25 (.bin .leq .num (.t 24) (cI 16)),
 mV 2 25])
 (.ret)))))⟩
def n328:NF:=⟨19,[4],
 .seq (.region [
 oP 4 (.mov (cI 0))])
 (kL [0,1] 0 (.seq (.seq (.region [
 mV 6 0,
 oP 7 (.len .sl (.t 6)),
 oP 8 (.mov (cI 0))])
 (kL [0,1,7,8] 0 (.block 0 (.loop (kL [0,1,7,8] 0 (.seq (.region [
 oP 9 (.bin .lss .num (.t 8) (.t 7))])
 (kL [0,1,7,8,9] 0 (.seq (.cond (.t 9)
 (.skip)
 (.exit 0))
 (kL [0,1,7,8] 0 (.seq (.block 1 (.seq (.region [
 mV 10 8,
 mV 5 10])
 (kL [0,1,5,7,8] 0 (.seq (.region [
 mV 11 1,
 mV 12 0,
 mV 13 5,
 oP 14 (iA 1 12 13),
 oP 15 (lD 14),
 oP 16 (.dyn (.t 11) [(.t 15)])])
 (kL [0,1,5,7,8,16] 0 (.cond (.t 16)
 (.seq (.region [
 mV 17 5,
 mV 4 17])
 (.ret))
 (.skip)))))))
 (kL [0,1,7,8] 0 (.region [
 oP 18 (.bin .add .num (.t 8) (cI 1)),
 mV 8 18]))))))))))))
 (kL [] 0 (.seq (.region [
 oP 4 (.mov (cI (-1)))])
 (.ret)))))⟩
def n329:NF:=⟨19,[4],
 .seq (.region [
 oP 4 (.mov (cI 0))])
 (kL [0,1] 0 (.seq (.seq (.region [
 mV 6 0,
 oP 7 (.len .sl (.t 6)),
 oP 8 (.mov (cI 0))])
 (kL [0,1,7,8] 0 (.block 0 (.loop (kL [0,1,7,8] 0 (.seq (.region [
 oP 9 (.bin .lss .num (.t 8) (.t 7))])
 (kL [0,1,7,8,9] 0 (.seq (.cond (.t 9)
 (.skip)
 (.exit 0))
 (kL [0,1,7,8] 0 (.seq (.block 1 (.seq (.region [
 mV 10 8,
 mV 5 10])
 (kL [0,1,5,7,8] 0 (.seq (.region [
 mV 11 1,
 mV 12 0,
 mV 13 5,
 oP 14 (iA 5 12 13),
 oP 15 (.load (some 5) (.t 14)),
 oP 16 (.dyn (.t 11) [(.t 15)])])
 (kL [0,1,5,7,8,16] 0 (.cond (.t 16)
 (.seq (.region [
 mV 17 5,
 mV 4 17])
 (.ret))
 (.skip)))))))
 (kL [0,1,7,8] 0 (.region [
 oP 18 (.bin .add .num (.t 8) (cI 1)),
 mV 8 18]))))))))))))
 (kL [] 0 (.seq (.region [
 oP 4 (.mov (cI (-1)))])
 (.ret)))))⟩
def n335:NF:=⟨38,[4],
 .seq (.region [
 oP 2 (.box true 5 (.t 0)),
 oP 3 (.box true 5 (.t 1)),
 oP 4 (.mov (cB false))])
 (kL [2,3] 2 (.seq (.region [
 oP 5 (.faddr 0 (.t 2)),
 oP 6 (lD 5),
 oP 7 (.faddr 0 (.t 3)),
 oP 8 (lD 7),
 oP 9 (.bin .eql .num (.t 6) (.t 8)),
 mV 10 9,
 oG 11 (.faddr 1 (.t 2)) 10 true,
 oG 12 (lD 11) 10 true,
 oG 13 (.faddr 1 (.t 3)) 10 true,
 oG 14 (lD 13) 10 true,
 oG 15 (.bin .eql .num (.t 12) (.t 14)) 10 true,
 oP 16 (.pick (.t 10) (.t 15) (cB false)),
 mV 17 16,
 oG 18 (.faddr 2 (.t 2)) 17 true,
 oG 19 (lD 18) 17 true,
 oG 20 (.faddr 2 (.t 3)) 17 true,
 oG 21 (lD 20) 17 true,
 oG 22 (.bin .eql .num (.t 19) (.t 21)) 17 true,
 oP 23 (.pick (.t 17) (.t 22) (cB false)),
 mV 24 23,
 oG 25 (.faddr 3 (.t 2)) 24 true,
 oG 26 (lD 25) 24 true,
 oG 27 (.faddr 3 (.t 3)) 24 true,
 oG 28 (lD 27) 24 true,
 oG 29 (.bin .eql .num (.t 26) (.t 28)) 24 true,
 oP 30 (.pick (.t 24) (.t 29) (cB false)),
 mV 31 30,
 oG 32 (.faddr 4 (.t 2)) 31 true,
 oG 33 (lD 32) 31 true,
 oG 34 (.faddr 4 (.t 3)) 31 true,
 oG 35 (lD 34) 31 true,
 oG 36 (.call 337 [(.t 33),(.t 35)]) 31 true,
 oP 37 (.pick (.t 31) (.t 36) (cB false)),
 mV 4 37])
 (.ret)))⟩
def n334b:Code:=
 .seq (.region [
 oP 4 (.box false 5 (.c (.agg [(.int .i64 0),(.int .i64 0),(.int .i64 0),(.int .i64 0),.nils])))])
 (kL [0,1,4] 0 (.seq (.region [
 mV 12 0,
 oP 13 (.build [(.int .i64 0),(.int .i64 0),(.int .i64 0),(.int .i64 0),.nils] [(0,(1,(.t 12)))]),
 oP 5 (.box true 5 (.c (.agg [(.int .i64 0),(.int .i64 0),(.int .i64 0),(.int .i64 0),.nils]))),
 oW (.store 5 (.t 5) (.t 13))])
 (kL [1,4,5] 1 (.seq (.seq (.region [
 mV 15 1,
 oP 16 (.assert 218 (.agg [(.int .i64 0),(.int .i64 0)]) (.t 15)),
 mV 14 16,
 oP 17 (.ext (.t 14) 0),
 oP 18 (.ext (.t 14) 1),
 oP 6 (.box true 2 (.c (.agg [(.int .i64 0),(.int .i64 0)]))),
 oW (.store 2 (.t 6) (.t 17)),
 mV 7 18])
 (kL [1,4,5,6,7] 2 (.seq (.region [
 mV 19 7])
 (kL [1,4,5,6,19] 2 (.cond (.t 19)
 (.draw 0 [
 ⟨0,none,(oP 20 (.faddr 0 (.t 6))),[]⟩,
 ⟨1,none,(oP 21 (lD 20)),[]⟩,
 ⟨2,none,(oP 22 (.faddr 1 (.t 6))),[]⟩,
 ⟨3,none,(oP 23 (lD 22)),[]⟩,
 ⟨4,none,(oP 24 (.faddr 1 (.t 5))),[]⟩,
 ⟨5,none,(oW (.store 1 (.t 24) (.t 21))),[(3,(oP 23 (lD 22)))]⟩,
 ⟨6,none,(oP 25 (.faddr 2 (.t 5))),[]⟩,
 ⟨7,none,(oW (.store 1 (.t 25) (.t 23))),[]⟩])
 (.skip))))))
 (kL [1,4,5] 1 (.seq (.seq (.region [
 mV 27 1,
 oP 28 (.assert 220 (.agg [(.int .i64 0)]) (.t 27)),
 mV 26 28,
 oP 29 (.ext (.t 26) 0),
 oP 30 (.ext (.t 26) 1),
 oP 8 (.box true 1 (.c (.agg [(.int .i64 0)]))),
 oW (.store 1 (.t 8) (.t 29)),
 mV 9 30])
 (kL [1,4,5,8,9] 2 (.seq (.region [
 mV 31 9])
 (kL [1,4,5,8,31] 2 (.cond (.t 31)
 (.region [
 oP 32 (.faddr 0 (.t 8)),
 oP 33 (lD 32),
 oP 34 (.faddr 3 (.t 5)),
 oW (.store 1 (.t 34) (.t 33))])
 (.skip))))))
 (kL [1,4,5] 1 (.seq (.seq (.region [
 mV 36 1,
 oP 37 (.assert 222 (.agg [.nils]) (.t 36)),
 mV 35 37,
 oP 38 (.ext (.t 35) 0),
 oP 39 (.ext (.t 35) 1),
 oP 10 (.box true 1 (.c (.agg [.nils]))),
 oW (.store 1 (.t 10) (.t 38)),
 mV 11 39])
 (kL [4,5,10,11] 2 (.seq (.region [
 mV 40 11])
 (kL [4,5,10,40] 2 (.cond (.t 40)
 (.region [
 oP 41 (.faddr 0 (.t 10)),
 oP 42 (lD 41),
 oP 43 (.faddr 4 (.t 5)),
 oW (.store 1 (.t 43) (.t 42))])
 (.skip))))))
 (kL [4,5] 1 (.seq (.region [
 oP 44 (.load (some 5) (.t 5)),
 oW (.store 5 (.t 4) (.t 44))])
 (.ret)))))))))))
def n334:NF:=⟨45,[4],.fin n334b [⟨some 4,.load (some 5) (.t 4),none⟩]⟩
def n73:NF:=⟨15,[6],
 .seq (.region [
 oP 6 (.mov (cB false))])
 (kL [0,1,2] 0 (.seq (.region [
 mV 7 0,
 mV 8 1,
 oP 9 (.bin .geq .num (.t 7) (.t 8)),
 mV 10 9,
 mG 11 0 10 true,
 mG 12 2 10 true,
 oG 13 (.bin .leq .num (.t 11) (.t 12)) 10 true,
 oP 14 (.pick (.t 10) (.t 13) (cB false)),
 mV 6 14])
 (.ret)))⟩
def n77:NF:=⟨8,[3],
 .seq (.region [
 oP 2 (.box true 3 (.t 0)),
 oP 3 (.mov (cB false))])
 (kL [1,2] 1 (.seq (.region [
 oP 4 (.faddr 1 (.t 2)),
 oP 5 (lD 4),
 oP 6 (lD 1),
 oP 7 (.bin .eql .num (.t 5) (.t 6)),
 mV 3 7])
 (.ret)))⟩
def n78:NF:=⟨14,[],
 .seq (.region [
 mV 5 0,
 oP 6 (.len .sl (.t 5)),
 mV 4 6])
 (kL [0,1,4] 0 (.region [
 mV 7 0,
 mV 8 4,
 mV 9 4,
 oP 10 (.conv (.toInt .u64) (.t 9)),
 oP 11 (.call 82 [(.t 10)]),
 mV 12 1,
 oP 13 (.call 85 [(.t 7),(cI 0),(.t 8),(.t 11),(.t 12)])]))⟩
def n79:NF:=⟨17,[4],
 .seq (.region [
 oP 2 (.box true 3 (.t 0)),
 oP 3 (.box true 3 (.t 1)),
 oP 4 (.mov (cI 0))])
 (kL [2,3] 2 (.seq (.draw 1 [
 ⟨0,none,(oP 5 (.faddr 0 (.t 2))),[]⟩,
 ⟨1,none,(oP 6 (lD 5)),[]⟩,
 ⟨2,none,(oP 7 (.faddr 0 (.t 3))),[]⟩,
 ⟨3,none,(oP 8 (lD 7)),[]⟩,
 ⟨5,none,(oP 10 (.faddr 1 (.t 2))),[]⟩,
 ⟨6,none,(oP 11 (lD 10)),[]⟩,
 ⟨7,none,(oP 12 (.faddr 1 (.t 3))),[]⟩,
 ⟨8,none,(oP 13 (lD 12)),[]⟩,
 ⟨4,none,(oP 9 (.call 46 [(.t 6),(.t 8)])),[(6,(oP 11 (lD 10))),(8,(oP 13 (lD 12)))]⟩,
 ⟨9,none,(oP 14 (.call 46 [(.t 11),(.t 13)])),[]⟩,
 ⟨10,(some 0),(oP 15 (.bslice false 1 2 [(.int .i64 0)] [(0,(1,(.t 9))),(1,(1,(.t 14)))])),[]⟩,
 ⟨11,none,(oP 16 (.call 86 [(.t 15)])),[]⟩,
 ⟨12,none,(mV 4 16),[]⟩])
 (.ret)))⟩
def n80:NF:=⟨11,[3],
 .seq (.region [
 oP 2 (.box true 3 (.t 0)),
 oP 3 (.mov (cB false))])
 (kL [1,2] 1 (.seq (.draw 0 [
 ⟨0,none,(oP 4 (.faddr 0 (.t 2))),[]⟩,
 ⟨1,none,(oP 5 (lD 4)),[]⟩,
 ⟨2,none,(oP 6 (lD 1)),[]⟩,
 ⟨3,none,(oP 7 (.nilck (.t 6))),[]⟩,
 ⟨4,none,(oP 8 (.faddr 1 (.t 7))),[]⟩,
 ⟨5,none,(oP 9 (lD 8)),[]⟩,
 ⟨6,none,(oP 10 (.bin .geq .num (.t 5) (.t 9))),[]⟩,
 ⟨7,none,(mV 3 10),[]⟩])
 (.ret)))⟩
def n62:NF:=⟨26,[4,5],
 .seq (.region [
 oP 4 (.mov (cI 0)),
 oP 5 (.mov (cB false))])
 (kL [0,1] 0 (.seq (.seq (.region [
 mV 8 0,
 oP 9 (.bin .eql .ptr (.t 8) (.c (.c .nilp)))])
 (kL [0,1,9] 0 (.cond (.t 9)
 (.seq (.region [
 oP 4 (.mov (cI 0)),
 oP 5 (.mov (cB false))])
 (.ret))
 (.skip))))
 (kL [0,1] 0 (.seq (.seq (.region [
 mV 10 0,
 oP 11 (.nilck (.t 10)),
 oP 12 (.faddr 2 (.t 11)),
 oP 13 (lD 12),
 oP 14 (.len .sl (.t 13)),
 oP 15 (.mov (cI 0))])
 (kL [1,13,14,15] 0 (.block 0 (.loop (kL [1,13,14,15] 0 (.seq (.region [
 oP 16 (.bin .lss .num (.t 15) (.t 14))])
 (kL [1,13,14,15,16] 0 (.seq (.cond (.t 16)
 (.skip)
 (.exit 0))
 (kL [1,13,14,15] 0 (.seq (.block 1 (.seq (.region [
 oP 17 (iA 3 13 15),
 oP 18 (.load (some 3) (.t 17)),
 oP 7 (.box true 3 (.c (.agg [(.int .i64 0),(.int .i64 0),(.int .i64 0)]))),
 oW (.store 3 (.t 7) (.t 18))])
 (kL [1,7,13,14,15] 1 (.seq (.region [
 oP 19 (.faddr 1 (.t 7)),
 oP 20 (lD 19),
 mV 21 1,
 oP 22 (.bin .eql .num (.t 20) (.t 21))])
 (kL [1,7,13,14,15,22] 1 (.cond (.t 22)
 (.seq (.region [
 oP 23 (.faddr 0 (.t 7)),
 oP 24 (lD 23),
 mV 4 24,
 oP 5 (.mov (cB true))])
 (.ret))
 (.skip)))))))
 (kL [1,13,14,15] 0 (.region [
 oP 25 (.bin .add .num (.t 15) (cI 1)),
 mV 15 25]))))))))))))
 (kL [] 0 (.seq (.region [
 oP 4 (.mov (cI 0)),
 oP 5 (.mov (cB false))])
 (.ret)))))))⟩
def n414:NF:=⟨17,[],
 .seq (.region [
 mV 4 0,
 oP 5 (.bin .neq .ptr (.t 4) (.c (.c .nilp)))])
 (kL [0,1,5] 0 (.cond (.t 5)
 (.draw 0 [
 ⟨0,none,(mV 6 0),[]⟩,
 ⟨1,none,(mV 7 0),[]⟩,
 ⟨2,none,(oP 8 (.nilck (.t 7))),[]⟩,
 ⟨3,none,(oP 9 (.faddr 0 (.t 8))),[]⟩,
 ⟨4,none,(oP 10 (lD 9)),[]⟩,
 ⟨5,none,(mV 11 1),[]⟩,
 ⟨6,none,(oP 12 (.call 402 [(.t 11),(cI 1000000)])),[(4,(oP 10 (lD 9)))]⟩,
 ⟨7,none,(oP 13 (.bin .add .num (.t 10) (.t 12))),[]⟩,
 ⟨8,none,(oP 14 (.call 402 [(.t 13),(cI 1000000000000)])),[]⟩,
 ⟨9,none,(oP 15 (.nilck (.t 6))),[]⟩,
 ⟨10,none,(oP 16 (.faddr 0 (.t 15))),[]⟩,
 ⟨11,none,(oW (.store 1 (.t 16) (.t 14))),[]⟩])
 (.skip)))⟩
def n415:NF:=⟨7,[],
 .seq (.region [
 mV 2 0,
 oP 3 (.bin .neq .ptr (.t 2) (.c (.c .nilp)))])
 (kL [0,3] 0 (.cond (.t 3)
 (.region [
 mV 4 0,
 oP 5 (.nilck (.t 4)),
 oP 6 (.faddr 1 (.t 5)),
 oW (.store 1 (.t 6) (cI 0))])
 (.skip)))⟩
def n416:NF:=⟨22,[4],
 .seq (.region [
 oP 2 (.box false 1 (.t 0)),
 oP 3 (.box true 6 (.t 1)),
 oP 4 (.mov (cB false))])
 (kL [2,3] 1 (.seq (.region [
 oP 5 (lD 2),
 oP 6 (.faddr 0 (.t 3)),
 oP 7 (lD 6),
 oP 8 (.call 273 [(.t 5),(.t 7)]),
 mV 9 8,
 oG 10 (lD 2) 9 true,
 oG 11 (.faddr 1 (.t 3)) 9 true,
 oG 12 (lD 11) 9 true,
 oG 13 (.call 273 [(.t 10),(.t 12)]) 9 true,
 oP 14 (.pick (.t 9) (.t 13) (cB false)),
 mV 15 14,
 oG 16 (.faddr 4 (.t 3)) 15 true,
 oG 17 (lD 16) 15 true,
 oG 18 (.mkfn 426 [(.t 2)]) 15 true,
 oG 19 (.call 338 [(.t 17),(.t 18)]) 15 true,
 oG 20 (.un .not (.t 19)) 15 true,
 oP 21 (.pick (.t 15) (.t 20) (cB false)),
 mV 4 21])
 (.ret)))⟩
def n417:NF:=⟨77,[6],
 .seq (.region [
 oP 6 (.mov (cB false))])
 (kL [0,1,2] 0 (.seq (.seq (.region [
 mV 10 0,
 oP 11 (.bin .eql .ptr (.t 10) (.c (.c .nilp))),
 mV 12 11,
 mG 13 1 12 false,
 oG 14 (.bin .lss .num (.t 13) (cI 0)) 12 false,
 oP 15 (.pick (.t 12) (cB true) (.t 14)),
 mV 16 15,
 mG 17 1 16 false,
 oG 18 (.bin .geq .num (.t 17) (cI 16)) 16 false,
 oP 19 (.pick (.t 16) (cB true) (.t 18)),
 mV 20 19,
 mG 21 2 20 false,
 oG 22 (.bin .lss .num (.t 21) (cI 0)) 20 false,
 oP 23 (.pick (.t 20) (cB true) (.t 22))])
 (kL [0,1,2,23] 0 (.cond (.t 23)
 (.seq (.region [
 oP 6 (.mov (cB false))])
 (.ret))
 (.skip))))
 (kL [0,1,2] 0 (.seq (.region [
 mV 25 0,
 oP 26 (.nilck (.t 25)),
 oP 27 (.faddr 0 (.t 26)),
 oP 28 (lD 27),
 mV 29 1,
 oP 30 (.look (.int .i64) (.agg [(.int .i64 0),(.int .u64 0)]) true (.t 28) (.t 29)),
 mV 24 30,
 oP 31 (.ext (.t 24) 0),
 oP 32 (.ext (.t 24) 1),
 oP 7 (.box true 2 (.c (.agg [(.int .i64 0),(.int .u64 0)]))),
 oW (.store 2 (.t 7) (.t 31)),
 mV 8 32])
 (kL [0,1,2,7,8] 1 (.seq (.seq (.region [
 oP 33 (.faddr 0 (.t 7)),
 oP 34 (lD 33),
 mV 35 2,
 oP 36 (.bin .sub .num (.t 34) (.t 35)),
 mV 9 36])
 (kL [0,1,2,7,8,9] 1 (.block 0 (.seq (.region [
 mV 44 8,
 oP 45 (.un .not (.t 44)),
 mV 43 45])
 (kL [0,1,2,7,9,43] 1 (.cond (.t 43)
 (.region [
 mV 46 2,
 oP 47 (.build [(.int .i64 0),(.int .u64 0)] [(0,(1,(.t 46))),(1,(1,(.c (.c (.int .u64 1)))))]),
 oW (.store 2 (.t 7) (.t 47))])
 (.seq (.region [
 mV 49 9,
 oP 50 (.bin .lss .num (.t 49) (cI 0)),
 mV 48 50])
 (kL [0,1,2,7,9,48] 1 (.cond (.t 48)
 (.region [
 mV 51 2,
 oP 52 (.faddr 1 (.t 7)),
 oP 53 (lD 52),
 mV 54 9,
 oP 55 (.un .neg (.t 54)),
 oP 56 (.min [(.t 55),(cI 64)]),
 oP 57 (.bin .shl .num (.t 53) (.t 56)),
 oP 58 (.bin .or .num (.t 57) (.c (.c (.int .u64 1)))),
 oP 59 (.build [(.int .i64 0),(.int .u64 0)] [(0,(1,(.t 51))),(1,(1,(.t 58)))]),
 oW (.store 2 (.t 7) (.t 59))])
 (.seq (.region [
 mV 61 9,
 oP 62 (.bin .geq .num (.t 61) (cI 64)),
 mV 63 62,
 oG 64 (.faddr 1 (.t 7)) 63 false,
 oG 65 (lD 64) 63 false,
 mG 66 9 63 false,
 oG 67 (.bin .shr .num (.t 65) (.t 66)) 63 false,
 oG 68 (.bin .and .num (.t 67) (.c (.c (.int .u64 1)))) 63 false,
 oG 69 (.bin .eql .num (.t 68) (.c (.c (.int .u64 1)))) 63 false,
 oP 70 (.pick (.t 63) (cB true) (.t 69)),
 mV 60 70])
 (kL [0,1,7,9,60] 1 (.cond (.t 60)
 (.seq (.region [
 oP 6 (.mov (cB false))])
 (.ret))
 (.draw 0 [
 ⟨0,none,(oP 37 (.faddr 1 (.t 7))),[]⟩,
 ⟨1,none,(oP 38 (lD 37)),[]⟩,
 ⟨2,none,(mV 39 9),[]⟩,
 ⟨3,none,(oP 40 (.bin .shl .num (.c (.c (.int .u64 1))) (.t 39))),[]⟩,
 ⟨4,none,(oP 41 (.bin .or .num (.t 38) (.t 40))),[]⟩,
 ⟨5,none,(oP 42 (.faddr 1 (.t 7))),[]⟩,
 ⟨6,none,(oW (.store 1 (.t 42) (.t 41))),[]⟩])))))))))))))
 (kL [0,1,7] 1 (.seq (.draw 0 [
 ⟨0,none,(mV 71 0),[]⟩,
 ⟨1,none,(oP 72 (.nilck (.t 71))),[]⟩,
 ⟨2,none,(oP 73 (.faddr 0 (.t 72))),[]⟩,
 ⟨3,none,(oP 74 (lD 73)),[]⟩,
 ⟨4,none,(mV 75 1),[]⟩,
 ⟨5,none,(oP 76 (.load (some 2) (.t 7))),[]⟩,
 ⟨6,none,(oW (.mupd (.int .i64) (.t 74) (.t 75) (.t 76))),[]⟩])
 (kL [] 0 (.seq (.region [
 oP 6 (.mov (cB true))])
 (.ret)))))))))))⟩
def n418:NF:=⟨47,[],
 .seq (.region [
 oP 3 (.box true 6 (.t 1))])
 (kL [0,3] 1 (.seq (.draw 0 [
 ⟨0,none,(mV 4 0),[]⟩,
 ⟨1,none,(oP 5 (.nilck (.t 4))),[]⟩,
 ⟨2,none,(oP 6 (.faddr 9 (.t 5))),[]⟩,
 ⟨3,none,(oP 7 (lD 6)),[]⟩,
 ⟨4,none,(oP 8 (.bin .eql .num (.t 7) (cI 0))),[]⟩,
 ⟨5,none,(mV 9 8),[]⟩,
 ⟨6,none,(oG 10 (.faddr 4 (.t 3)) 9 true),[]⟩,
 ⟨7,none,(oG 11 (lD 10) 9 true),[]⟩,
 ⟨8,none,(oG 12 (.len .sl (.t 11)) 9 true),[]⟩,
 ⟨9,none,(oG 13 (.bin .gtr .num (.t 12) (cI 0)) 9 true),[]⟩,
 ⟨10,none,(oP 14 (.pick (.t 9) (.t 13) (cB false))),[]⟩,
 ⟨11,none,(mV 15 14),[]⟩,
 ⟨12,none,(oG 16 (.faddr 4 (.t 3)) 15 true),[]⟩,
 ⟨13,none,(oG 17 (lD 16) 15 true),[]⟩,
 ⟨14,none,(oG 18 (.iaddr 1 (.t 17) (cI 0)) 15 true),[]⟩,
 ⟨15,none,(oG 19 (lD 18) 15 true),[]⟩,
 ⟨16,none,(oG 20 (.faddr 0 (.t 3)) 15 true),[]⟩,
 ⟨17,none,(oG 21 (lD 20) 15 true),[]⟩,
 ⟨18,none,(oG 22 (.bin .eql .num (.t 19) (.t 21)) 15 true),[]⟩,
 ⟨19,none,(oP 23 (.pick (.t 15) (.t 22) (cB false))),[]⟩,
 ⟨20,none,(mV 24 23),[]⟩,
 ⟨21,none,(oG 25 (.faddr 4 (.t 3)) 24 true),[]⟩,
 ⟨22,none,(oG 26 (lD 25) 24 true),[]⟩,
 ⟨23,none,(oG 27 (.call 305 [(.t 26),(cI 0)]) 24 true),[]⟩,
 ⟨24,none,(oG 28 (.un .not (.t 27)) 24 true),[]⟩,
 ⟨25,none,(oP 29 (.pick (.t 24) (.t 28) (cB false))),[]⟩,
 ⟨26,none,(mV 30 29),[]⟩,
 ⟨27,none,(oG 31 (.faddr 4 (.t 3)) 30 true),[]⟩,
 ⟨28,none,(oG 32 (lD 31) 30 true),[]⟩,
 ⟨29,none,(oG 33 (.len .sl (.t 32)) 30 true),[]⟩,
 ⟨30,none,(oG 34 (.bin .lss .num (.t 33) (cI 16)) 30 true),[]⟩,
 ⟨31,none,(oP 35 (.pick (.t 30) (.t 34) (cB false))),[]⟩])
 (kL [0,3,35] 1 (.cond (.t 35)
 (.draw 1 [
 ⟨0,none,(mV 36 0),[]⟩,
 ⟨1,none,(oP 37 (.nilck (.t 36))),[]⟩,
 ⟨2,none,(oP 38 (.faddr 22 (.t 37))),[]⟩,
 ⟨3,none,(oP 39 (lD 38)),[]⟩,
 ⟨4,none,(oP 40 (.faddr 0 (.t 3))),[]⟩,
 ⟨5,none,(oP 41 (lD 40)),[]⟩,
 ⟨7,none,(oP 43 (.faddr 4 (.t 3))),[]⟩,
 ⟨8,none,(oP 44 (lD 43)),[]⟩,
 ⟨9,none,(oP 45 (.call 427 [(.t 44)])),[(3,(oP 39 (lD 38))),(5,(oP 41 (lD 40)))]⟩,
 ⟨6,(some 0),(oP 42 (.bslice false 1 1 [(.int .i64 0)] [(0,(1,(cI 0)))])),[]⟩,
 ⟨10,none,(oP 46 (.app 1 8 (.t 42) (.t 45))),[(3,(oP 39 (lD 38))),(5,(oP 41 (lD 40)))]⟩,
 ⟨11,none,(oW (.mupd (.int .i64) (.t 39) (.t 41) (.t 46))),[]⟩])
 (.skip)))))⟩
def n419:NF:=⟨36,[],
 .seq (.region [
 oP 4 (.box true 6 (.t 1)),
 oP 5 (.box true 6 (.t 2))])
 (kL [0,4,5] 2 (.seq (.draw 1 [
 ⟨0,none,(oP 10 (.load (some 6) (.t 4))),[]⟩,
 ⟨1,none,(mV 11 0),[]⟩,
 ⟨2,none,(oP 12 (.nilck (.t 11))),[]⟩,
 ⟨3,none,(oP 13 (.faddr 9 (.t 12))),[]⟩,
 ⟨4,none,(oP 14 (lD 13)),[]⟩,
 ⟨5,none,(oP 15 (.call 428 [(.t 10),(.t 14)])),[]⟩,
 ⟨6,none,(mV 9 15),[]⟩,
 ⟨7,none,(oP 16 (.ext (.t 9) 0)),[]⟩,
 ⟨8,none,(oP 17 (.ext (.t 9) 1)),[]⟩,
 ⟨9,none,(oP 18 (.ext (.t 9) 2)),[]⟩,
 ⟨10,(some 0),(oP 6 (.box false 6 (.c (.agg [(.int .i64 0),(.int .i64 0),(.int .i64 0),(.int .i64 0),.nils,.nils])))),[]⟩,
 ⟨11,none,(oW (.store 6 (.t 6) (.t 16))),[]⟩,
 ⟨12,none,(mV 7 17),[]⟩,
 ⟨13,none,(mV 8 18),[]⟩])
 (kL [0,5,6,7,8] 2 (.block 0 (.seq (.region [
 mV 25 8,
 oP 26 (.bin .eql .num (.t 25) (cI 11)),
 mV 24 26])
 (kL [0,5,6,7,8,24] 2 (.cond (.t 24)
 (.region [
 mV 27 0,
 oP 28 (.load (some 6) (.t 5)),
 oP 29 (.call 379 [(.t 27),(.t 28),(cI 2)])])
 (.seq (.region [
 mV 31 8,
 oP 32 (.bin .neq .num (.t 31) (cI 0)),
 mV 30 32])
 (kL [0,5,6,7,30] 2 (.cond (.t 30)
 (.region [
 mV 33 0,
 oP 34 (.load (some 6) (.t 5)),
 oP 35 (.call 379 [(.t 33),(.t 34),(cI 3)])])
 (.region [
 mV 19 0,
 oP 20 (.load (some 6) (.t 6)),
 mV 21 7,
 oP 22 (.load (some 6) (.t 5)),
 oP 23 (.call 429 [(.t 19),(.t 20),(.t 21),(.t 22)])])))))))))))⟩
def n420:NF:=⟨35,[],
 .seq (.region [
 oP 3 (.box true 6 (.t 1))])
 (kL [0,3] 1 (.seq (.draw 0 [
 ⟨0,none,(mV 8 0),[]⟩,
 ⟨1,none,(oP 9 (.nilck (.t 8))),[]⟩,
 ⟨2,none,(oP 10 (.faddr 22 (.t 9))),[]⟩,
 ⟨3,none,(oP 11 (lD 10)),[]⟩,
 ⟨4,none,(oP 12 (.faddr 1 (.t 3))),[]⟩,
 ⟨5,none,(oP 13 (lD 12)),[]⟩,
 ⟨6,none,(oP 14 (.look (.int .i64) (.c .nils) true (.t 11) (.t 13))),[]⟩,
 ⟨7,none,(mV 7 14),[]⟩,
 ⟨8,none,(oP 15 (.ext (.t 7) 0)),[]⟩,
 ⟨9,none,(oP 16 (.ext (.t 7) 1)),[]⟩,
 ⟨10,none,(mV 4 15),[]⟩,
 ⟨11,none,(mV 5 16),[]⟩])
 (kL [0,3,4,5] 1 (.seq (.seq (.region [
 mV 17 5,
 oP 18 (.un .not (.t 17))])
 (kL [0,3,4,18] 1 (.cond (.t 18)
 (.seq (.region [
 mV 19 0,
 oP 20 (.load (some 6) (.t 3)),
 oP 21 (.call 379 [(.t 19),(.t 20),(cI 3)])])
 (.ret))
 (.skip))))
 (kL [0,3,4] 1 (.seq (.region [
 oP 22 (.load (some 6) (.t 3)),
 oP 6 (.box true 6 (.c (.agg [(.int .i64 0),(.int .i64 0),(.int .i64 0),(.int .i64 0),.nils,.nils]))),
 oW (.store 6 (.t 6) (.t 22))])
 (kL [0,3,4,6] 2 (.seq (.draw 0 [
 ⟨0,none,(mV 23 4),[]⟩,
 ⟨1,none,(mV 24 0),[]⟩,
 ⟨2,none,(oP 25 (.nilck (.t 24))),[]⟩,
 ⟨3,none,(oP 26 (.faddr 0 (.t 25))),[]⟩,
 ⟨4,none,(oP 27 (.faddr 8 (.t 26))),[]⟩,
 ⟨5,none,(oP 28 (lD 27)),[]⟩,
 ⟨6,none,(oP 29 (.faddr 4 (.t 6))),[]⟩,
 ⟨7,none,(oW (.store 1 (.t 29) (.t 23))),[(5,(oP 28 (lD 27)))]⟩,
 ⟨8,none,(oP 30 (.faddr 3 (.t 6))),[]⟩,
 ⟨9,none,(oW (.store 1 (.t 30) (.t 28))),[]⟩])
 (kL [0,3,6] 2 (.region [
 mV 31 0,
 oP 32 (.load (some 6) (.t 6)),
 oP 33 (.load (some 6) (.t 3)),
 oP 34 (.call 419 [(.t 31),(.t 32),(.t 33)])]))))))))))⟩
def n421:NF:=⟨24,[],
 .seq (.region [
 oP 3 (.box true 6 (.t 1))])
 (kL [0,3] 1 (.seq (.draw 1 [
 ⟨0,none,(oP 7 (.load (some 6) (.t 3))),[]⟩,
 ⟨1,none,(mV 8 0),[]⟩,
 ⟨2,none,(oP 9 (.nilck (.t 8))),[]⟩,
 ⟨3,none,(oP 10 (.faddr 9 (.t 9))),[]⟩,
 ⟨4,none,(oP 11 (lD 10)),[]⟩,
 ⟨5,none,(oP 12 (.call 430 [(.t 7),(.t 11)])),[]⟩,
 ⟨6,none,(mV 6 12),[]⟩,
 ⟨7,none,(oP 13 (.ext (.t 6) 0)),[]⟩,
 ⟨8,none,(oP 14 (.ext (.t 6) 1)),[]⟩,
 ⟨9,(some 0),(oP 4 (.box false 6 (.c (.agg [(.int .i64 0),(.int .i64 0),(.int .i64 0),(.int .i64 0),.nils,.nils])))),[]⟩,
 ⟨10,none,(oW (.store 6 (.t 4) (.t 13))),[]⟩,
 ⟨11,none,(mV 5 14),[]⟩])
 (kL [0,3,4,5] 1 (.seq (.seq (.region [
 mV 15 5,
 oP 16 (.bin .neq .num (.t 15) (cI 0))])
 (kL [0,3,4,16] 1 (.cond (.t 16)
 (.seq (.region [
 mV 17 0,
 oP 18 (.load (some 6) (.t 3)),
 oP 19 (.call 379 [(.t 17),(.t 18),(cI 2)])])
 (.ret))
 (.skip))))
 (kL [0,3,4] 1 (.region [
 mV 20 0,
 oP 21 (.load (some 6) (.t 4)),
 oP 22 (.load (some 6) (.t 3)),
 oP 23 (.call 429 [(.t 20),(.t 21),(cI 64),(.t 22)])]))))))⟩
def n422:NF:=⟨32,[2],
 .seq (.region [
 oP 2 (.mov (.c (.c (.int .u64 0))))])
 (kL [0] 0 (.seq (.draw 0 [
 ⟨0,none,(mV 4 0),[]⟩,
 ⟨1,none,(oP 5 (.nilck (.t 4))),[]⟩,
 ⟨2,none,(oP 6 (.faddr 0 (.t 5))),[]⟩,
 ⟨3,none,(oP 7 (lD 6)),[]⟩,
 ⟨4,none,(mV 8 0),[]⟩,
 ⟨5,none,(oP 9 (.nilck (.t 8))),[]⟩,
 ⟨6,none,(oP 10 (.faddr 1 (.t 9))),[]⟩,
 ⟨7,none,(oP 11 (lD 10)),[]⟩,
 ⟨8,none,(oP 12 (.bin .quo .num (.t 11) (cI 8))),[]⟩,
 ⟨9,none,(oP 13 (iA 1 7 12)),[]⟩,
 ⟨10,none,(oP 14 (lD 13)),[]⟩,
 ⟨11,none,(mV 15 0),[]⟩,
 ⟨12,none,(oP 16 (.nilck (.t 15))),[]⟩,
 ⟨13,none,(oP 17 (.faddr 1 (.t 16))),[]⟩,
 ⟨14,none,(oP 18 (lD 17)),[]⟩,
 ⟨15,none,(oP 19 (.bin .rem .num (.t 18) (cI 8))),[]⟩,
 ⟨16,none,(oP 20 (.bin .sub .num (cI 7) (.t 19))),[]⟩,
 ⟨17,none,(oP 21 (.bin .shr .num (.t 14) (.t 20))),[]⟩,
 ⟨18,none,(oP 22 (.bin .and .num (.t 21) (.c (.c (.int .u8 1))))),[]⟩,
 ⟨19,none,(mV 3 22),[]⟩])
 (kL [0,3] 0 (.seq (.region [
 mV 23 0,
 oP 24 (.nilck (.t 23)),
 oP 25 (.faddr 1 (.t 24)),
 oP 26 (lD 25),
 oP 27 (.bin .add .num (.t 26) (cI 1)),
 oP 28 (.nilck (.t 23)),
 oP 29 (.faddr 1 (.t 28)),
 oW (.store 1 (.t 29) (.t 27))])
 (kL [3] 0 (.seq (.region [
 mV 30 3,
 oP 31 (.conv (.toInt .u64) (.t 30)),
 mV 2 31])
 (.ret)))))))⟩
def n423:NF:=⟨14,[],
 .region [
 mV 4 0,
 mV 5 0,
 mV 6 0,
 mV 7 1,
 oP 8 (.nilck (.t 4)),
 oP 9 (.faddr 2 (.t 8)),
 oW (.store 1 (.t 9) (.t 7)),
 oP 10 (.nilck (.t 5)),
 oP 11 (.faddr 0 (.t 10)),
 oW (.store 1 (.t 11) (.c (.c .nils))),
 oP 12 (.nilck (.t 6)),
 oP 13 (.faddr 1 (.t 12)),
 oW (.store 1 (.t 13) (cI 0))]⟩
def n424:NF:=⟨22,[4],
 .seq (.region [
 oP 4 (.mov (cB false))])
 (kL [0,1] 0 (.seq (.seq (.region [
 mV 6 0,
 oP 7 (.build [(.int .i64 0),(.int .i64 0),(.int .i64 0),(.int .i64 0),.nils] [(0,(1,(.t 6)))]),
 oP 8 (.call 320 [(.t 7)]),
 mV 5 8])
 (kL [1,5] 0 (.seq (.region [
 mV 9 5])
 (kL [1,9] 0 (.block 0 (.seq (.region [
 oP 10 (.assert 218 (.agg [(.int .i64 0),(.int .i64 0)]) (.t 9)),
 oP 11 (.ext (.t 10) 1),
 oP 12 (.ext (.t 10) 0)])
 (kL [1,9,11] 0 (.cond (.t 11)
 (.seq (.region [
 mV 13 1,
 oP 14 (.bin .eql .num (.t 13) (cI 6)),
 mV 4 14])
 (.ret))
 (.seq (.region [
 oP 15 (.assert 220 (.agg [(.int .i64 0)]) (.t 9)),
 oP 16 (.ext (.t 15) 1),
 oP 17 (.ext (.t 15) 0)])
 (kL [1,16] 0 (.cond (.t 16)
 (.seq (.region [
 mV 18 1,
 oP 19 (.bin .eql .num (.t 18) (cI 2)),
 mV 4 19])
 (.ret))
 (.skip))))))))))))
 (kL [1] 0 (.seq (.region [
 mV 20 1,
 oP 21 (.bin .leq .num (.t 20) (cI 16)),
 mV 4 21])
 (.ret)))))⟩
def n425b:Code:=
 .seq (.region [
 oP 6 (.box false 5 (.c (.agg [(.int .i64 0),(.int .i64 0),(.int .i64 0),(.int .i64 0),.nils])))])
 (kL [0,1,2,6] 0 (.seq (.region [
 mV 15 1,
 oP 16 (.build [(.int .i64 0),(.int .i64 0),(.int .i64 0),(.int .i64 0),.nils] [(0,(1,(.t 15)))]),
 oP 17 (.call 320 [(.t 16)]),
 mV 7 17])
 (kL [0,1,2,6,7] 0 (.seq (.seq (.region [
 mV 19 7,
 oP 20 (.assert 218 (.agg [(.int .i64 0),(.int .i64 0)]) (.t 19)),
 mV 18 20,
 oP 21 (.ext (.t 18) 0),
 oP 22 (.ext (.t 18) 1),
 oP 8 (.box true 2 (.c (.agg [(.int .i64 0),(.int .i64 0)]))),
 oW (.store 2 (.t 8) (.t 21)),
 mV 9 22])
 (kL [0,1,2,6,7,9] 0 (.seq (.region [
 mV 23 9])
 (kL [0,1,2,6,7,23] 0 (.cond (.t 23)
 (.seq (.region [
 mV 24 1,
 mV 25 0,
 oP 26 (.call 406 [(.t 25),(cI 40)]),
 oP 27 (.conv (.toInt .i64) (.t 26)),
 mV 28 0,
 oP 29 (.call 406 [(.t 28),(cI 8)]),
 oP 30 (.conv (.toInt .i64) (.t 29)),
 oP 31 (.build [(.int .i64 0),(.int .i64 0)] [(0,(1,(.t 27))),(1,(1,(.t 30)))]),
 oP 32 (.mkif 218 (.t 31)),
 oP 33 (.call 334 [(.t 24),(.t 32)]),
 oW (.store 5 (.t 6) (.t 33))])
 (.ret))
 (.skip))))))
 (kL [0,1,2,6,7] 0 (.seq (.seq (.region [
 mV 35 7,
 oP 36 (.assert 220 (.agg [(.int .i64 0)]) (.t 35)),
 mV 34 36,
 oP 37 (.ext (.t 34) 0),
 oP 38 (.ext (.t 34) 1),
 oP 10 (.box true 1 (.c (.agg [(.int .i64 0)]))),
 oW (.store 1 (.t 10) (.t 37)),
 mV 11 38])
 (kL [0,1,2,6,11] 0 (.seq (.region [
 mV 39 11])
 (kL [0,1,2,6,39] 0 (.cond (.t 39)
 (.seq (.region [
 mV 40 1,
 mV 41 0,
 oP 42 (.call 406 [(.t 41),(cI 16)]),
 oP 43 (.conv (.toInt .i16) (.t 42)),
 oP 44 (.conv (.toInt .i64) (.t 43)),
 oP 45 (.build [(.int .i64 0)] [(0,(1,(.t 44)))]),
 oP 46 (.mkif 220 (.t 45)),
 oP 47 (.call 334 [(.t 40),(.t 46)]),
 oW (.store 5 (.t 6) (.t 47))])
 (.ret))
 (.skip))))))
 (kL [0,1,2,6] 0 (.seq (.region [
 oP 12 (.mov (.c (.c .nils)))])
 (kL [0,1,2,6,12] 0 (.seq (.seq (.region [
 mV 48 0,
 mV 49 2,
 oP 50 (.call 397 [(.t 48),(.t 49)]),
 oP 51 (.len .sl (.t 50)),
 oP 52 (.mov (cI 0))])
 (kL [1,6,12,50,51,52] 0 (.block 0 (.loop (kL [1,6,12,50,51,52] 0 (.seq (.region [
 oP 53 (.bin .lss .num (.t 52) (.t 51))])
 (kL [1,6,12,50,51,52,53] 0 (.seq (.cond (.t 53)
 (.skip)
 (.exit 0))
 (kL [1,6,12,50,51,52] 0 (.seq (.block 1 (.seq (.region [
 oP 54 (iA 1 50 52),
 oP 55 (lD 54),
 mV 14 55])
 (kL [1,6,12,14,50,51,52] 0 (.region [
 mV 56 12,
 mV 57 14,
 oP 58 (.conv (.toInt .i64) (.t 57)),
 oP 59 (.bslice true 1 1 [(.int .i64 0)] [(0,(1,(.t 58)))]),
 oP 60 (.app 1 8 (.t 56) (.t 59)),
 mV 12 60]))))
 (kL [1,6,12,50,51,52] 0 (.region [
 oP 61 (.bin .add .num (.t 52) (cI 1)),
 mV 52 61]))))))))))))
 (kL [1,6,12] 0 (.seq (.region [
 mV 62 1,
 mV 63 12,
 oP 64 (.build [.nils] [(0,(1,(.t 63)))]),
 oP 65 (.mkif 222 (.t 64)),
 oP 66 (.call 334 [(.t 62),(.t 65)]),
 oW (.store 5 (.t 6) (.t 66))])
 (.ret)))))))))))))
def n425:NF:=⟨67,[6],.fin n425b [⟨some 6,.load (some 5) (.t 6),none⟩]⟩
def n87:NF:=⟨49,[],
 .seq (.region [
 mV 8 1,
 oP 9 (.bin .add .num (.t 8) (cI 1)),
 mV 6 9])
 (kL [0,1,2,6] 0 (.block 0 (.loop (kL [0,1,2,6] 0 (.seq (.seq (.region [
 mV 10 6,
 mV 11 2,
 oP 12 (.bin .lss .num (.t 10) (.t 11))])
 (kL [0,1,2,6,12] 0 (.cond (.t 12)
 (.skip)
 (.exit 0))))
 (kL [0,1,2,6] 0 (.seq (.block 1 (.seq (.region [
 mV 15 6,
 mV 7 15])
 (kL [0,1,2,6,7] 0 (.block 2 (.loop (kL [0,1,2,6,7] 0 (.seq (.seq (.draw 0 [
 ⟨0,none,(mV 16 7),[]⟩,
 ⟨1,none,(mV 17 1),[]⟩,
 ⟨2,none,(oP 18 (.bin .gtr .num (.t 16) (.t 17))),[]⟩,
 ⟨3,none,(mV 19 18),[]⟩,
 ⟨4,none,(mG 20 0 19 true),[]⟩,
 ⟨5,none,(mG 21 7 19 true),[]⟩,
 ⟨6,none,(oG 22 (iA 1 20 21) 19 true),[]⟩,
 ⟨7,none,(oG 23 (lD 22) 19 true),[]⟩,
 ⟨8,none,(mG 24 0 19 true),[]⟩,
 ⟨9,none,(mG 25 7 19 true),[]⟩,
 ⟨10,none,(oG 26 (.bin .sub .num (.t 25) (cI 1)) 19 true),[]⟩,
 ⟨11,none,(oG 27 (iA 1 24 26) 19 true),[]⟩,
 ⟨12,none,(oG 28 (lD 27) 19 true),[]⟩,
 ⟨13,none,(oG 29 (.call 93 [(.t 23),(.t 28)]) 19 true),[]⟩,
 ⟨14,none,(oP 30 (.pick (.t 19) (.t 29) (cB false))),[]⟩])
 (kL [0,1,2,6,7,30] 0 (.cond (.t 30)
 (.skip)
 (.exit 2))))
 (kL [0,1,2,6,7] 0 (.seq (.block 3 (.draw 0 [
 ⟨0,none,(mV 33 0),[]⟩,
 ⟨1,none,(mV 34 7),[]⟩,
 ⟨2,none,(mV 35 0),[]⟩,
 ⟨3,none,(mV 36 7),[]⟩,
 ⟨4,none,(oP 37 (.bin .sub .num (.t 36) (cI 1))),[]⟩,
 ⟨5,none,(mV 38 0),[]⟩,
 ⟨6,none,(mV 39 7),[]⟩,
 ⟨7,none,(oP 40 (.bin .sub .num (.t 39) (cI 1))),[]⟩,
 ⟨8,none,(oP 41 (iA 1 38 40)),[]⟩,
 ⟨9,none,(oP 42 (lD 41)),[]⟩,
 ⟨10,none,(mV 43 0),[]⟩,
 ⟨11,none,(mV 44 7),[]⟩,
 ⟨12,none,(oP 45 (iA 1 43 44)),[]⟩,
 ⟨13,none,(oP 46 (lD 45)),[]⟩,
 ⟨14,none,(oP 47 (iA 1 33 34)),[]⟩,
 ⟨15,none,(oW (.store 1 (.t 47) (.t 42))),[]⟩,
 ⟨16,none,(oP 48 (iA 1 35 37)),[]⟩,
 ⟨17,none,(oW (.store 1 (.t 48) (.t 46))),[]⟩]))
 (kL [0,1,2,6,7] 0 (.region [
 mV 31 7,
 oP 32 (.bin .sub .num (.t 31) (cI 1)),
 mV 7 32])))))))))))
 (kL [0,1,2,6] 0 (.region [
 mV 13 6,
 oP 14 (.bin .add .num (.t 13) (cI 1)),
 mV 6 14])))))))))⟩
def n88:NF:=⟨56,[],
 .seq (.region [
 mV 11 1,
 mV 6 11])
 (kL [0,1,2,6] 0 (.seq (.region [
 oP 7 (.mov (cI 0))])
 (kL [0,1,2,6,7] 0 (.seq (.region [
 mV 12 2,
 mV 13 1,
 oP 14 (.bin .sub .num (.t 12) (.t 13)),
 mV 8 14])
 (kL [0,6,7,8] 0 (.seq (.seq (.region [
 mV 15 8,
 oP 16 (.bin .sub .num (.t 15) (cI 1)),
 oP 17 (.bin .quo .num (.t 16) (cI 2)),
 mV 9 17])
 (kL [0,6,7,8,9] 0 (.block 0 (.loop (kL [0,6,7,8,9] 0 (.seq (.seq (.region [
 mV 18 9,
 oP 19 (.bin .geq .num (.t 18) (cI 0))])
 (kL [0,6,7,8,9,19] 0 (.cond (.t 19)
 (.skip)
 (.exit 0))))
 (kL [0,6,7,8,9] 0 (.seq (.block 1 (.region [
 mV 22 0,
 mV 23 9,
 mV 24 8,
 mV 25 6,
 oP 26 (.call 107 [(.t 22),(.t 23),(.t 24),(.t 25)])]))
 (kL [0,6,7,8,9] 0 (.region [
 mV 20 9,
 oP 21 (.bin .sub .num (.t 20) (cI 1)),
 mV 9 21]))))))))))
 (kL [0,6,7,8] 0 (.seq (.region [
 mV 27 8,
 oP 28 (.bin .sub .num (.t 27) (cI 1)),
 mV 10 28])
 (kL [0,6,7,10] 0 (.block 2 (.loop (kL [0,6,7,10] 0 (.seq (.seq (.region [
 mV 29 10,
 oP 30 (.bin .geq .num (.t 29) (cI 0))])
 (kL [0,6,7,10,30] 0 (.cond (.t 30)
 (.skip)
 (.exit 2))))
 (kL [0,6,7,10] 0 (.seq (.block 3 (.seq (.draw 0 [
 ⟨0,none,(mV 33 0),[]⟩,
 ⟨1,none,(mV 34 6),[]⟩,
 ⟨2,none,(mV 35 0),[]⟩,
 ⟨3,none,(mV 36 6),[]⟩,
 ⟨4,none,(mV 37 10),[]⟩,
 ⟨5,none,(oP 38 (.bin .add .num (.t 36) (.t 37))),[]⟩,
 ⟨6,none,(mV 39 0),[]⟩,
 ⟨7,none,(mV 40 6),[]⟩,
 ⟨8,none,(mV 41 10),[]⟩,
 ⟨9,none,(oP 42 (.bin .add .num (.t 40) (.t 41))),[]⟩,
 ⟨10,none,(oP 43 (iA 1 39 42)),[]⟩,
 ⟨11,none,(oP 44 (lD 43)),[]⟩,
 ⟨12,none,(mV 45 0),[]⟩,
 ⟨13,none,(mV 46 6),[]⟩,
 ⟨14,none,(oP 47 (iA 1 45 46)),[]⟩,
 ⟨15,none,(oP 48 (lD 47)),[]⟩,
 ⟨16,none,(oP 49 (iA 1 33 34)),[]⟩,
 ⟨17,none,(oW (.store 1 (.t 49) (.t 44))),[]⟩,
 ⟨18,none,(oP 50 (iA 1 35 38)),[]⟩,
 ⟨19,none,(oW (.store 1 (.t 50) (.t 48))),[]⟩])
 (kL [0,6,7,10] 0 (.region [
 mV 51 0,
 mV 52 7,
 mV 53 10,
 mV 54 6,
 oP 55 (.call 107 [(.t 51),(.t 52),(.t 53),(.t 54)])]))))
 (kL [0,6,7,10] 0 (.region [
 mV 31 10,
 oP 32 (.bin .sub .num (.t 31) (cI 1)),
 mV 10 32])))))))))))))))))⟩
def n89:NF:=⟨65,[],
 .seq (.region [
 mV 11 2,
 mV 12 1,
 oP 13 (.bin .sub .num (.t 11) (.t 12)),
 mV 6 13])
 (kL [0,1,6] 0 (.seq (.region [
 mV 14 6,
 oP 15 (.bin .geq .num (.t 14) (cI 8))])
 (kL [0,1,6,15] 0 (.cond (.t 15)
 (.seq (.region [
 mV 16 6,
 oP 17 (.conv (.toInt .u64) (.t 16)),
 oP 7 (.box false 1 (.c (.c (.int .u64 0)))),
 oW (.store 1 (.t 7) (.t 17))])
 (kL [0,1,6,7] 0 (.seq (.region [
 mV 18 6,
 oP 19 (.call 108 [(.t 18)]),
 mV 8 19])
 (kL [0,1,6,7,8] 0 (.seq (.region [
 mV 20 1,
 mV 21 6,
 oP 22 (.bin .quo .num (.t 21) (cI 4)),
 oP 23 (.bin .mul .num (.t 22) (cI 2)),
 oP 24 (.bin .add .num (.t 20) (.t 23)),
 oP 25 (.bin .sub .num (.t 24) (cI 1)),
 mV 9 25])
 (kL [0,1,6,7,8,9] 0 (.block 0 (.loop (kL [0,1,6,7,8,9] 0 (.seq (.seq (.region [
 mV 26 9,
 mV 27 1,
 mV 28 6,
 oP 29 (.bin .quo .num (.t 28) (cI 4)),
 oP 30 (.bin .mul .num (.t 29) (cI 2)),
 oP 31 (.bin .add .num (.t 27) (.t 30)),
 oP 32 (.bin .add .num (.t 31) (cI 1)),
 oP 33 (.bin .leq .num (.t 26) (.t 32))])
 (kL [0,1,6,7,8,9,33] 0 (.cond (.t 33)
 (.skip)
 (.exit 0))))
 (kL [0,1,6,7,8,9] 0 (.seq (.block 1 (.seq (.region [
 oP 36 (.call 109 [(.t 7)]),
 mV 37 8,
 oP 38 (.bin .sub .num (.t 37) (.c (.c (.int .u64 1)))),
 oP 39 (.bin .and .num (.t 36) (.t 38)),
 oP 40 (.conv (.toInt .i64) (.t 39)),
 mV 10 40])
 (kL [0,1,6,7,8,9,10] 0 (.seq (.seq (.region [
 mV 41 10,
 mV 42 6,
 oP 43 (.bin .geq .num (.t 41) (.t 42))])
 (kL [0,1,6,7,8,9,10,43] 0 (.cond (.t 43)
 (.region [
 mV 44 10,
 mV 45 6,
 oP 46 (.bin .sub .num (.t 44) (.t 45)),
 mV 10 46])
 (.skip))))
 (kL [0,1,6,7,8,9,10] 0 (.draw 0 [
 ⟨0,none,(mV 47 0),[]⟩,
 ⟨1,none,(mV 48 9),[]⟩,
 ⟨2,none,(mV 49 0),[]⟩,
 ⟨3,none,(mV 50 1),[]⟩,
 ⟨4,none,(mV 51 10),[]⟩,
 ⟨5,none,(oP 52 (.bin .add .num (.t 50) (.t 51))),[]⟩,
 ⟨6,none,(mV 53 0),[]⟩,
 ⟨7,none,(mV 54 1),[]⟩,
 ⟨8,none,(mV 55 10),[]⟩,
 ⟨9,none,(oP 56 (.bin .add .num (.t 54) (.t 55))),[]⟩,
 ⟨10,none,(oP 57 (iA 1 53 56)),[]⟩,
 ⟨11,none,(oP 58 (lD 57)),[]⟩,
 ⟨12,none,(mV 59 0),[]⟩,
 ⟨13,none,(mV 60 9),[]⟩,
 ⟨14,none,(oP 61 (iA 1 59 60)),[]⟩,
 ⟨15,none,(oP 62 (lD 61)),[]⟩,
 ⟨16,none,(oP 63 (iA 1 47 48)),[]⟩,
 ⟨17,none,(oW (.store 1 (.t 63) (.t 58))),[]⟩,
 ⟨18,none,(oP 64 (iA 1 49 52)),[]⟩,
 ⟨19,none,(oW (.store 1 (.t 64) (.t 62))),[]⟩]))))))
 (kL [0,1,6,7,8,9] 0 (.region [
 mV 34 9,
 oP 35 (.bin .add .num (.t 34) (cI 1)),
 mV 9 35]))))))))))))))
 (.skip)))))⟩
def n90:NF:=⟨57,[6,7],
 .seq (.region [
 oP 6 (.mov (cI 0)),
 oP 7 (.mov (cI 0))])
 (kL [0,1,2] 0 (.seq (.region [
 mV 13 2,
 mV 14 1,
 oP 15 (.bin .sub .num (.t 13) (.t 14)),
 mV 8 15])
 (kL [0,1,8] 0 (.seq (.region [
 oP 9 (.box false 1 (cI 0))])
 (kL [0,1,8,9] 0 (.seq (.region [
 mV 16 1,
 mV 17 8,
 oP 18 (.bin .quo .num (.t 17) (cI 4)),
 oP 19 (.bin .mul .num (.t 18) (cI 1)),
 oP 20 (.bin .add .num (.t 16) (.t 19)),
 mV 10 20])
 (kL [0,1,8,9,10] 0 (.seq (.region [
 mV 21 1,
 mV 22 8,
 oP 23 (.bin .quo .num (.t 22) (cI 4)),
 oP 24 (.bin .mul .num (.t 23) (cI 2)),
 oP 25 (.bin .add .num (.t 21) (.t 24)),
 mV 11 25])
 (kL [0,1,8,9,10,11] 0 (.seq (.region [
 mV 26 1,
 mV 27 8,
 oP 28 (.bin .quo .num (.t 27) (cI 4)),
 oP 29 (.bin .mul .num (.t 28) (cI 3)),
 oP 30 (.bin .add .num (.t 26) (.t 29)),
 mV 12 30])
 (kL [0,8,9,10,11,12] 0 (.seq (.seq (.region [
 mV 31 8,
 oP 32 (.bin .geq .num (.t 31) (cI 8))])
 (kL [0,8,9,10,11,12,32] 0 (.cond (.t 32)
 (.seq (.seq (.region [
 mV 33 8,
 oP 34 (.bin .geq .num (.t 33) (cI 50))])
 (kL [0,9,10,11,12,34] 0 (.cond (.t 34)
 (.seq (.region [
 mV 35 0,
 mV 36 10,
 oP 37 (.call 110 [(.t 35),(.t 36),(.t 9)]),
 mV 10 37])
 (kL [0,9,10,11,12] 0 (.seq (.region [
 mV 38 0,
 mV 39 11,
 oP 40 (.call 110 [(.t 38),(.t 39),(.t 9)]),
 mV 11 40])
 (kL [0,9,10,11,12] 0 (.region [
 mV 41 0,
 mV 42 12,
 oP 43 (.call 110 [(.t 41),(.t 42),(.t 9)]),
 mV 12 43])))))
 (.skip))))
 (kL [0,9,10,11,12] 0 (.region [
 mV 44 0,
 mV 45 10,
 mV 46 11,
 mV 47 12,
 oP 48 (.call 111 [(.t 44),(.t 45),(.t 46),(.t 47),(.t 9)]),
 mV 11 48])))
 (.skip))))
 (kL [9,11] 0 (.seq (.region [
 oP 49 (lD 9)])
 (kL [11,49] 0 (.block 0 (.seq (.region [
 oP 52 (.bin .eql .num (.t 49) (cI 0)),
 mV 51 52])
 (kL [11,49,51] 0 (.cond (.t 51)
 (.seq (.region [
 mV 53 11,
 mV 6 53,
 oP 7 (.mov (cI 1))])
 (.ret))
 (.seq (.region [
 oP 55 (.bin .eql .num (.t 49) (cI 12)),
 mV 54 55])
 (kL [11,54] 0 (.cond (.t 54)
 (.seq (.region [
 mV 56 11,
 mV 6 56,
 oP 7 (.mov (cI 2))])
 (.ret))
 (.seq (.region [
 mV 50 11,
 mV 6 50,
 oP 7 (.mov (cI 0))])
 (.ret))))))))))))))))))))))))⟩
def n91:NF:=⟨32,[],
 .seq (.region [
 mV 8 1,
 mV 6 8])
 (kL [0,2,6] 0 (.seq (.region [
 mV 9 2,
 oP 10 (.bin .sub .num (.t 9) (cI 1)),
 mV 7 10])
 (kL [0,6,7] 0 (.block 0 (.loop (kL [0,6,7] 0 (.seq (.seq (.region [
 mV 11 6,
 mV 12 7,
 oP 13 (.bin .lss .num (.t 11) (.t 12))])
 (kL [0,6,7,13] 0 (.cond (.t 13)
 (.skip)
 (.exit 0))))
 (kL [0,6,7] 0 (.block 1 (.seq (.draw 0 [
 ⟨0,none,(mV 14 0),[]⟩,
 ⟨1,none,(mV 15 6),[]⟩,
 ⟨2,none,(mV 16 0),[]⟩,
 ⟨3,none,(mV 17 7),[]⟩,
 ⟨4,none,(mV 18 0),[]⟩,
 ⟨5,none,(mV 19 7),[]⟩,
 ⟨6,none,(oP 20 (iA 1 18 19)),[]⟩,
 ⟨7,none,(oP 21 (lD 20)),[]⟩,
 ⟨8,none,(mV 22 0),[]⟩,
 ⟨9,none,(mV 23 6),[]⟩,
 ⟨10,none,(oP 24 (iA 1 22 23)),[]⟩,
 ⟨11,none,(oP 25 (lD 24)),[]⟩,
 ⟨12,none,(oP 26 (iA 1 14 15)),[]⟩,
 ⟨13,none,(oW (.store 1 (.t 26) (.t 21))),[]⟩,
 ⟨14,none,(oP 27 (iA 1 16 17)),[]⟩,
 ⟨15,none,(oW (.store 1 (.t 27) (.t 25))),[]⟩])
 (kL [0,6,7] 0 (.seq (.region [
 mV 28 6,
 oP 29 (.bin .add .num (.t 28) (cI 1)),
 mV 6 29])
 (kL [0,6,7] 0 (.region [
 mV 30 7,
 oP 31 (.bin .sub .num (.t 30) (cI 1)),
 mV 7 31]))))))))))))))⟩
def n92:NF:=⟨133,[6],
 .seq (.region [
 oP 6 (.mov (cB false))])
 (kL [0,1,2] 0 (.seq (.region [
 mV 11 1,
 oP 12 (.bin .add .num (.t 11) (cI 1)),
 mV 7 12])
 (kL [0,1,2,7] 0 (.seq (.seq (.region [
 oP 8 (.mov (cI 0))])
 (kL [0,1,2,7,8] 0 (.block 0 (.loop (kL [0,1,2,7,8] 0 (.seq (.seq (.region [
 mV 13 8,
 oP 14 (.bin .lss .num (.t 13) (cI 5))])
 (kL [0,1,2,7,8,14] 0 (.cond (.t 14)
 (.skip)
 (.exit 0))))
 (kL [0,1,2,7,8] 0 (.seq (.block 1 (.seq (.block 2 (.loop (kL [0,1,2,7,8] 0 (.seq (.seq (.draw 0 [
 ⟨0,none,(mV 17 7),[]⟩,
 ⟨1,none,(mV 18 2),[]⟩,
 ⟨2,none,(oP 19 (.bin .lss .num (.t 17) (.t 18))),[]⟩,
 ⟨3,none,(mV 20 19),[]⟩,
 ⟨4,none,(mG 21 0 20 true),[]⟩,
 ⟨5,none,(mG 22 7 20 true),[]⟩,
 ⟨6,none,(oG 23 (iA 1 21 22) 20 true),[]⟩,
 ⟨7,none,(oG 24 (lD 23) 20 true),[]⟩,
 ⟨8,none,(mG 25 0 20 true),[]⟩,
 ⟨9,none,(mG 26 7 20 true),[]⟩,
 ⟨10,none,(oG 27 (.bin .sub .num (.t 26) (cI 1)) 20 true),[]⟩,
 ⟨11,none,(oG 28 (iA 1 25 27) 20 true),[]⟩,
 ⟨12,none,(oG 29 (lD 28) 20 true),[]⟩,
 ⟨13,none,(oG 30 (.call 93 [(.t 24),(.t 29)]) 20 true),[]⟩,
 ⟨14,none,(oG 31 (.un .not (.t 30)) 20 true),[]⟩,
 ⟨15,none,(oP 32 (.pick (.t 20) (.t 31) (cB false))),[]⟩])
 (kL [0,1,2,7,8,32] 0 (.cond (.t 32)
 (.skip)
 (.exit 2))))
 (kL [0,1,2,7,8] 0 (.block 3 (.region [
 mV 33 7,
 oP 34 (.bin .add .num (.t 33) (cI 1)),
 mV 7 34])))))))
 (kL [0,1,2,7,8] 0 (.seq (.seq (.region [
 mV 35 7,
 mV 36 2,
 oP 37 (.bin .eql .num (.t 35) (.t 36))])
 (kL [0,1,2,7,8,37] 0 (.cond (.t 37)
 (.seq (.region [
 oP 6 (.mov (cB true))])
 (.ret))
 (.skip))))
 (kL [0,1,2,7,8] 0 (.seq (.seq (.region [
 mV 38 2,
 mV 39 1,
 oP 40 (.bin .sub .num (.t 38) (.t 39)),
 oP 41 (.bin .lss .num (.t 40) (cI 50))])
 (kL [0,1,2,7,8,41] 0 (.cond (.t 41)
 (.seq (.region [
 oP 6 (.mov (cB false))])
 (.ret))
 (.skip))))
 (kL [0,1,2,7,8] 0 (.seq (.draw 0 [
 ⟨0,none,(mV 42 0),[]⟩,
 ⟨1,none,(mV 43 7),[]⟩,
 ⟨2,none,(mV 44 0),[]⟩,
 ⟨3,none,(mV 45 7),[]⟩,
 ⟨4,none,(oP 46 (.bin .sub .num (.t 45) (cI 1))),[]⟩,
 ⟨5,none,(mV 47 0),[]⟩,
 ⟨6,none,(mV 48 7),[]⟩,
 ⟨7,none,(oP 49 (.bin .sub .num (.t 48) (cI 1))),[]⟩,
 ⟨8,none,(oP 50 (iA 1 47 49)),[]⟩,
 ⟨9,none,(oP 51 (lD 50)),[]⟩,
 ⟨10,none,(mV 52 0),[]⟩,
 ⟨11,none,(mV 53 7),[]⟩,
 ⟨12,none,(oP 54 (iA 1 52 53)),[]⟩,
 ⟨13,none,(oP 55 (lD 54)),[]⟩,
 ⟨14,none,(oP 56 (iA 1 42 43)),[]⟩,
 ⟨15,none,(oW (.store 1 (.t 56) (.t 51))),[]⟩,
 ⟨16,none,(oP 57 (iA 1 44 46)),[]⟩,
 ⟨17,none,(oW (.store 1 (.t 57) (.t 55))),[]⟩])
 (kL [0,1,2,7,8] 0 (.seq (.seq (.region [
 mV 58 7,
 mV 59 1,
 oP 60 (.bin .sub .num (.t 58) (.t 59)),
 oP 61 (.bin .geq .num (.t 60) (cI 2))])
 (kL [0,1,2,7,8,61] 0 (.cond (.t 61)
 (.seq (.region [
 mV 62 7,
 oP 63 (.bin .sub .num (.t 62) (cI 1)),
 mV 9 63])
 (kL [0,1,2,7,8,9] 0 (.block 4 (.loop (kL [0,1,2,7,8,9] 0 (.seq (.seq (.region [
 mV 64 9,
 oP 65 (.bin .geq .num (.t 64) (cI 1))])
 (kL [0,1,2,7,8,9,65] 0 (.cond (.t 65)
 (.skip)
 (.exit 4))))
 (kL [0,1,2,7,8,9] 0 (.seq (.block 5 (.seq (.seq (.draw 0 [
 ⟨0,none,(mV 68 0),[]⟩,
 ⟨1,none,(mV 69 9),[]⟩,
 ⟨2,none,(oP 70 (iA 1 68 69)),[]⟩,
 ⟨3,none,(oP 71 (lD 70)),[]⟩,
 ⟨4,none,(mV 72 0),[]⟩,
 ⟨5,none,(mV 73 9),[]⟩,
 ⟨6,none,(oP 74 (.bin .sub .num (.t 73) (cI 1))),[]⟩,
 ⟨7,none,(oP 75 (iA 1 72 74)),[]⟩,
 ⟨8,none,(oP 76 (lD 75)),[]⟩,
 ⟨9,none,(oP 77 (.call 93 [(.t 71),(.t 76)])),[]⟩,
 ⟨10,none,(oP 78 (.un .not (.t 77))),[]⟩])
 (kL [0,1,2,7,8,9,78] 0 (.cond (.t 78)
 (.exit 4)
 (.skip))))
 (kL [0,1,2,7,8,9] 0 (.draw 0 [
 ⟨0,none,(mV 79 0),[]⟩,
 ⟨1,none,(mV 80 9),[]⟩,
 ⟨2,none,(mV 81 0),[]⟩,
 ⟨3,none,(mV 82 9),[]⟩,
 ⟨4,none,(oP 83 (.bin .sub .num (.t 82) (cI 1))),[]⟩,
 ⟨5,none,(mV 84 0),[]⟩,
 ⟨6,none,(mV 85 9),[]⟩,
 ⟨7,none,(oP 86 (.bin .sub .num (.t 85) (cI 1))),[]⟩,
 ⟨8,none,(oP 87 (iA 1 84 86)),[]⟩,
 ⟨9,none,(oP 88 (lD 87)),[]⟩,
 ⟨10,none,(mV 89 0),[]⟩,
 ⟨11,none,(mV 90 9),[]⟩,
 ⟨12,none,(oP 91 (iA 1 89 90)),[]⟩,
 ⟨13,none,(oP 92 (lD 91)),[]⟩,
 ⟨14,none,(oP 93 (iA 1 79 80)),[]⟩,
 ⟨15,none,(oW (.store 1 (.t 93) (.t 88))),[]⟩,
 ⟨16,none,(oP 94 (iA 1 81 83)),[]⟩,
 ⟨17,none,(oW (.store 1 (.t 94) (.t 92))),[]⟩]))))
 (kL [0,1,2,7,8,9] 0 (.region [
 mV 66 9,
 oP 67 (.bin .sub .num (.t 66) (cI 1)),
 mV 9 67]))))))))))
 (.skip))))
 (kL [0,1,2,7,8] 0 (.seq (.region [
 mV 95 2,
 mV 96 7,
 oP 97 (.bin .sub .num (.t 95) (.t 96)),
 oP 98 (.bin .geq .num (.t 97) (cI 2))])
 (kL [0,1,2,7,8,98] 0 (.cond (.t 98)
 (.seq (.region [
 mV 99 7,
 oP 100 (.bin .add .num (.t 99) (cI 1)),
 mV 10 100])
 (kL [0,1,2,7,8,10] 0 (.block 6 (.loop (kL [0,1,2,7,8,10] 0 (.seq (.seq (.region [
 mV 101 10,
 mV 102 2,
 oP 103 (.bin .lss .num (.t 101) (.t 102))])
 (kL [0,1,2,7,8,10,103] 0 (.cond (.t 103)
 (.skip)
 (.exit 6))))
 (kL [0,1,2,7,8,10] 0 (.seq (.block 7 (.seq (.seq (.draw 0 [
 ⟨0,none,(mV 106 0),[]⟩,
 ⟨1,none,(mV 107 10),[]⟩,
 ⟨2,none,(oP 108 (iA 1 106 107)),[]⟩,
 ⟨3,none,(oP 109 (lD 108)),[]⟩,
 ⟨4,none,(mV 110 0),[]⟩,
 ⟨5,none,(mV 111 10),[]⟩,
 ⟨6,none,(oP 112 (.bin .sub .num (.t 111) (cI 1))),[]⟩,
 ⟨7,none,(oP 113 (iA 1 110 112)),[]⟩,
 ⟨8,none,(oP 114 (lD 113)),[]⟩,
 ⟨9,none,(oP 115 (.call 93 [(.t 109),(.t 114)])),[]⟩,
 ⟨10,none,(oP 116 (.un .not (.t 115))),[]⟩])
 (kL [0,1,2,7,8,10,116] 0 (.cond (.t 116)
 (.exit 6)
 (.skip))))
 (kL [0,1,2,7,8,10] 0 (.draw 0 [
 ⟨0,none,(mV 117 0),[]⟩,
 ⟨1,none,(mV 118 10),[]⟩,
 ⟨2,none,(mV 119 0),[]⟩,
 ⟨3,none,(mV 120 10),[]⟩,
 ⟨4,none,(oP 121 (.bin .sub .num (.t 120) (cI 1))),[]⟩,
 ⟨5,none,(mV 122 0),[]⟩,
 ⟨6,none,(mV 123 10),[]⟩,
 ⟨7,none,(oP 124 (.bin .sub .num (.t 123) (cI 1))),[]⟩,
 ⟨8,none,(oP 125 (iA 1 122 124)),[]⟩,
 ⟨9,none,(oP 126 (lD 125)),[]⟩,
 ⟨10,none,(mV 127 0),[]⟩,
 ⟨11,none,(mV 128 10),[]⟩,
 ⟨12,none,(oP 129 (iA 1 127 128)),[]⟩,
 ⟨13,none,(oP 130 (lD 129)),[]⟩,
 ⟨14,none,(oP 131 (iA 1 117 118)),[]⟩,
 ⟨15,none,(oW (.store 1 (.t 131) (.t 126))),[]⟩,
 ⟨16,none,(oP 132 (iA 1 119 121)),[]⟩,
 ⟨17,none,(oW (.store 1 (.t 132) (.t 130))),[]⟩]))))
 (kL [0,1,2,7,8,10] 0 (.region [
 mV 104 10,
 oP 105 (.bin .add .num (.t 104) (cI 1)),
 mV 10 105]))))))))))
 (.skip)))))))))))))))
 (kL [0,1,2,7,8] 0 (.region [
 mV 15 8,
 oP 16 (.bin .add .num (.t 15) (cI 1)),
 mV 8 16]))))))))))
 (kL [] 0 (.seq (.region [
 oP 6 (.mov (cB false))])
 (.ret)))))))⟩
def n93:NF:=⟨17,[4],
 .seq (.region [
 oP 4 (.mov (cB false))])
 (kL [0,1] 0 (.seq (.region [
 mV 5 0,
 oP 6 (.call 47 [(.t 5)]),
 mV 7 6,
 mG 8 1 7 true,
 oG 9 (.call 47 [(.t 8)]) 7 true,
 oG 10 (.un .not (.t 9)) 7 true,
 oP 11 (.pick (.t 7) (.t 10) (cB false)),
 mV 12 11,
 mG 13 0 12 false,
 mG 14 1 12 false,
 oG 15 (.bin .lss .num (.t 13) (.t 14)) 12 false,
 oP 16 (.pick (.t 12) (cB true) (.t 15)),
 mV 4 16])
 (.ret)))⟩
def n94:NF:=⟨84,[8],
 .seq (.region [
 oP 8 (.mov (cI 0))])
 (kL [0,1,2,3] 0 (.seq (.draw 0 [
 ⟨0,none,(mV 11 0),[]⟩,
 ⟨1,none,(mV 12 1),[]⟩,
 ⟨2,none,(mV 13 0),[]⟩,
 ⟨3,none,(mV 14 3),[]⟩,
 ⟨4,none,(mV 15 0),[]⟩,
 ⟨5,none,(mV 16 3),[]⟩,
 ⟨6,none,(oP 17 (iA 1 15 16)),[]⟩,
 ⟨7,none,(oP 18 (lD 17)),[]⟩,
 ⟨8,none,(mV 19 0),[]⟩,
 ⟨9,none,(mV 20 1),[]⟩,
 ⟨10,none,(oP 21 (iA 1 19 20)),[]⟩,
 ⟨11,none,(oP 22 (lD 21)),[]⟩,
 ⟨12,none,(oP 23 (iA 1 11 12)),[]⟩,
 ⟨13,none,(oW (.store 1 (.t 23) (.t 18))),[]⟩,
 ⟨14,none,(oP 24 (iA 1 13 14)),[]⟩,
 ⟨15,none,(oW (.store 1 (.t 24) (.t 22))),[]⟩])
 (kL [0,1,2] 0 (.seq (.region [
 mV 25 1,
 oP 26 (.bin .add .num (.t 25) (cI 1)),
 mV 27 2,
 oP 28 (.bin .sub .num (.t 27) (cI 1)),
 mV 9 26,
 mV 10 28])
 (kL [0,1,9,10] 0 (.seq (.block 0 (.loop (kL [0,1,9,10] 0 (.block 1 (.seq (.block 2 (.loop (kL [0,1,9,10] 0 (.seq (.seq (.draw 0 [
 ⟨0,none,(mV 29 9),[]⟩,
 ⟨1,none,(mV 30 10),[]⟩,
 ⟨2,none,(oP 31 (.bin .leq .num (.t 29) (.t 30))),[]⟩,
 ⟨3,none,(mV 32 31),[]⟩,
 ⟨4,none,(mG 33 0 32 true),[]⟩,
 ⟨5,none,(mG 34 1 32 true),[]⟩,
 ⟨6,none,(oG 35 (iA 1 33 34) 32 true),[]⟩,
 ⟨7,none,(oG 36 (lD 35) 32 true),[]⟩,
 ⟨8,none,(mG 37 0 32 true),[]⟩,
 ⟨9,none,(mG 38 9 32 true),[]⟩,
 ⟨10,none,(oG 39 (iA 1 37 38) 32 true),[]⟩,
 ⟨11,none,(oG 40 (lD 39) 32 true),[]⟩,
 ⟨12,none,(oG 41 (.call 93 [(.t 36),(.t 40)]) 32 true),[]⟩,
 ⟨13,none,(oG 42 (.un .not (.t 41)) 32 true),[]⟩,
 ⟨14,none,(oP 43 (.pick (.t 32) (.t 42) (cB false))),[]⟩])
 (kL [0,1,9,10,43] 0 (.cond (.t 43)
 (.skip)
 (.exit 2))))
 (kL [0,1,9,10] 0 (.block 3 (.region [
 mV 44 9,
 oP 45 (.bin .add .num (.t 44) (cI 1)),
 mV 9 45])))))))
 (kL [0,1,9,10] 0 (.seq (.block 4 (.loop (kL [0,1,9,10] 0 (.seq (.seq (.draw 0 [
 ⟨0,none,(mV 46 9),[]⟩,
 ⟨1,none,(mV 47 10),[]⟩,
 ⟨2,none,(oP 48 (.bin .leq .num (.t 46) (.t 47))),[]⟩,
 ⟨3,none,(mV 49 48),[]⟩,
 ⟨4,none,(mG 50 0 49 true),[]⟩,
 ⟨5,none,(mG 51 1 49 true),[]⟩,
 ⟨6,none,(oG 52 (iA 1 50 51) 49 true),[]⟩,
 ⟨7,none,(oG 53 (lD 52) 49 true),[]⟩,
 ⟨8,none,(mG 54 0 49 true),[]⟩,
 ⟨9,none,(mG 55 10 49 true),[]⟩,
 ⟨10,none,(oG 56 (iA 1 54 55) 49 true),[]⟩,
 ⟨11,none,(oG 57 (lD 56) 49 true),[]⟩,
 ⟨12,none,(oG 58 (.call 93 [(.t 53),(.t 57)]) 49 true),[]⟩,
 ⟨13,none,(oP 59 (.pick (.t 49) (.t 58) (cB false))),[]⟩])
 (kL [0,1,9,10,59] 0 (.cond (.t 59)
 (.skip)
 (.exit 4))))
 (kL [0,1,9,10] 0 (.block 5 (.region [
 mV 60 10,
 oP 61 (.bin .sub .num (.t 60) (cI 1)),
 mV 10 61])))))))
 (kL [0,1,9,10] 0 (.seq (.seq (.region [
 mV 62 9,
 mV 63 10,
 oP 64 (.bin .gtr .num (.t 62) (.t 63))])
 (kL [0,1,9,10,64] 0 (.cond (.t 64)
 (.exit 0)
 (.skip))))
 (kL [0,1,9,10] 0 (.seq (.draw 0 [
 ⟨0,none,(mV 65 0),[]⟩,
 ⟨1,none,(mV 66 9),[]⟩,
 ⟨2,none,(mV 67 0),[]⟩,
 ⟨3,none,(mV 68 10),[]⟩,
 ⟨4,none,(mV 69 0),[]⟩,
 ⟨5,none,(mV 70 10),[]⟩,
 ⟨6,none,(oP 71 (iA 1 69 70)),[]⟩,
 ⟨7,none,(oP 72 (lD 71)),[]⟩,
 ⟨8,none,(mV 73 0),[]⟩,
 ⟨9,none,(mV 74 9),[]⟩,
 ⟨10,none,(oP 75 (iA 1 73 74)),[]⟩,
 ⟨11,none,(oP 76 (lD 75)),[]⟩,
 ⟨12,none,(oP 77 (iA 1 65 66)),[]⟩,
 ⟨13,none,(oW (.store 1 (.t 77) (.t 72))),[]⟩,
 ⟨14,none,(oP 78 (iA 1 67 68)),[]⟩,
 ⟨15,none,(oW (.store 1 (.t 78) (.t 76))),[]⟩])
 (kL [0,1,9,10] 0 (.seq (.region [
 mV 79 9,
 oP 80 (.bin .add .num (.t 79) (cI 1)),
 mV 9 80])
 (kL [0,1,9,10] 0 (.region [
 mV 81 10,
 oP 82 (.bin .sub .num (.t 81) (cI 1)),
 mV 10 82])))))))))))))))
 (kL [9] 0 (.seq (.region [
 mV 83 9,
 mV 8 83])
 (.ret)))))))))⟩
def n95:NF:=⟨168,[8,9],
 .seq (.region [
 oP 8 (.mov (cI 0)),
 oP 9 (.mov (cB false))])
 (kL [0,1,2,3] 0 (.seq (.draw 0 [
 ⟨0,none,(mV 12 0),[]⟩,
 ⟨1,none,(mV 13 1),[]⟩,
 ⟨2,none,(mV 14 0),[]⟩,
 ⟨3,none,(mV 15 3),[]⟩,
 ⟨4,none,(mV 16 0),[]⟩,
 ⟨5,none,(mV 17 3),[]⟩,
 ⟨6,none,(oP 18 (iA 1 16 17)),[]⟩,
 ⟨7,none,(oP 19 (lD 18)),[]⟩,
 ⟨8,none,(mV 20 0),[]⟩,
 ⟨9,none,(mV 21 1),[]⟩,
 ⟨10,none,(oP 22 (iA 1 20 21)),[]⟩,
 ⟨11,none,(oP 23 (lD 22)),[]⟩,
 ⟨12,none,(oP 24 (iA 1 12 13)),[]⟩,
 ⟨13,none,(oW (.store 1 (.t 24) (.t 19))),[]⟩,
 ⟨14,none,(oP 25 (iA 1 14 15)),[]⟩,
 ⟨15,none,(oW (.store 1 (.t 25) (.t 23))),[]⟩])
 (kL [0,1,2] 0 (.seq (.region [
 mV 26 1,
 oP 27 (.bin .add .num (.t 26) (cI 1)),
 mV 28 2,
 oP 29 (.bin .sub .num (.t 28) (cI 1)),
 mV 10 27,
 mV 11 29])
 (kL [0,1,10,11] 0 (.seq (.block 0 (.loop (kL [0,1,10,11] 0 (.seq (.seq (.draw 0 [
 ⟨0,none,(mV 30 10),[]⟩,
 ⟨1,none,(mV 31 11),[]⟩,
 ⟨2,none,(oP 32 (.bin .leq .num (.t 30) (.t 31))),[]⟩,
 ⟨3,none,(mV 33 32),[]⟩,
 ⟨4,none,(mG 34 0 33 true),[]⟩,
 ⟨5,none,(mG 35 10 33 true),[]⟩,
 ⟨6,none,(oG 36 (iA 1 34 35) 33 true),[]⟩,
 ⟨7,none,(oG 37 (lD 36) 33 true),[]⟩,
 ⟨8,none,(mG 38 0 33 true),[]⟩,
 ⟨9,none,(mG 39 1 33 true),[]⟩,
 ⟨10,none,(oG 40 (iA 1 38 39) 33 true),[]⟩,
 ⟨11,none,(oG 41 (lD 40) 33 true),[]⟩,
 ⟨12,none,(oG 42 (.call 93 [(.t 37),(.t 41)]) 33 true),[]⟩,
 ⟨13,none,(oP 43 (.pick (.t 33) (.t 42) (cB false))),[]⟩])
 (kL [0,1,10,11,43] 0 (.cond (.t 43)
 (.skip)
 (.exit 0))))
 (kL [0,1,10,11] 0 (.block 1 (.region [
 mV 44 10,
 oP 45 (.bin .add .num (.t 44) (cI 1)),
 mV 10 45])))))))
 (kL [0,1,10,11] 0 (.seq (.block 2 (.loop (kL [0,1,10,11] 0 (.seq (.seq (.draw 0 [
 ⟨0,none,(mV 46 10),[]⟩,
 ⟨1,none,(mV 47 11),[]⟩,
 ⟨2,none,(oP 48 (.bin .leq .num (.t 46) (.t 47))),[]⟩,
 ⟨3,none,(mV 49 48),[]⟩,
 ⟨4,none,(mG 50 0 49 true),[]⟩,
 ⟨5,none,(mG 51 11 49 true),[]⟩,
 ⟨6,none,(oG 52 (iA 1 50 51) 49 true),[]⟩,
 ⟨7,none,(oG 53 (lD 52) 49 true),[]⟩,
 ⟨8,none,(mG 54 0 49 true),[]⟩,
 ⟨9,none,(mG 55 1 49 true),[]⟩,
 ⟨10,none,(oG 56 (iA 1 54 55) 49 true),[]⟩,
 ⟨11,none,(oG 57 (lD 56) 49 true),[]⟩,
 ⟨12,none,(oG 58 (.call 93 [(.t 53),(.t 57)]) 49 true),[]⟩,
 ⟨13,none,(oG 59 (.un .not (.t 58)) 49 true),[]⟩,
 ⟨14,none,(oP 60 (.pick (.t 49) (.t 59) (cB false))),[]⟩])
 (kL [0,1,10,11,60] 0 (.cond (.t 60)
 (.skip)
 (.exit 2))))
 (kL [0,1,10,11] 0 (.block 3 (.region [
 mV 61 11,
 oP 62 (.bin .sub .num (.t 61) (cI 1)),
 mV 11 62])))))))
 (kL [0,1,10,11] 0 (.seq (.seq (.region [
 mV 63 10,
 mV 64 11,
 oP 65 (.bin .gtr .num (.t 63) (.t 64))])
 (kL [0,1,10,11,65] 0 (.cond (.t 65)
 (.seq (.draw 0 [
 ⟨0,none,(mV 66 0),[]⟩,
 ⟨1,none,(mV 67 11),[]⟩,
 ⟨2,none,(mV 68 0),[]⟩,
 ⟨3,none,(mV 69 1),[]⟩,
 ⟨4,none,(mV 70 0),[]⟩,
 ⟨5,none,(mV 71 1),[]⟩,
 ⟨6,none,(oP 72 (iA 1 70 71)),[]⟩,
 ⟨7,none,(oP 73 (lD 72)),[]⟩,
 ⟨8,none,(mV 74 0),[]⟩,
 ⟨9,none,(mV 75 11),[]⟩,
 ⟨10,none,(oP 76 (iA 1 74 75)),[]⟩,
 ⟨11,none,(oP 77 (lD 76)),[]⟩,
 ⟨12,none,(oP 78 (iA 1 66 67)),[]⟩,
 ⟨13,none,(oW (.store 1 (.t 78) (.t 73))),[]⟩,
 ⟨14,none,(oP 79 (iA 1 68 69)),[]⟩,
 ⟨15,none,(oW (.store 1 (.t 79) (.t 77))),[]⟩])
 (kL [11] 0 (.seq (.region [
 mV 80 11,
 mV 8 80,
 oP 9 (.mov (cB true))])
 (.ret))))
 (.skip))))
 (kL [0,1,10,11] 0 (.seq (.draw 0 [
 ⟨0,none,(mV 81 0),[]⟩,
 ⟨1,none,(mV 82 10),[]⟩,
 ⟨2,none,(mV 83 0),[]⟩,
 ⟨3,none,(mV 84 11),[]⟩,
 ⟨4,none,(mV 85 0),[]⟩,
 ⟨5,none,(mV 86 11),[]⟩,
 ⟨6,none,(oP 87 (iA 1 85 86)),[]⟩,
 ⟨7,none,(oP 88 (lD 87)),[]⟩,
 ⟨8,none,(mV 89 0),[]⟩,
 ⟨9,none,(mV 90 10),[]⟩,
 ⟨10,none,(oP 91 (iA 1 89 90)),[]⟩,
 ⟨11,none,(oP 92 (lD 91)),[]⟩,
 ⟨12,none,(oP 93 (iA 1 81 82)),[]⟩,
 ⟨13,none,(oW (.store 1 (.t 93) (.t 88))),[]⟩,
 ⟨14,none,(oP 94 (iA 1 83 84)),[]⟩,
 ⟨15,none,(oW (.store 1 (.t 94) (.t 92))),[]⟩])
 (kL [0,1,10,11] 0 (.seq (.region [
 mV 95 10,
 oP 96 (.bin .add .num (.t 95) (cI 1)),
 mV 10 96])
 (kL [0,1,10,11] 0 (.seq (.region [
 mV 97 11,
 oP 98 (.bin .sub .num (.t 97) (cI 1)),
 mV 11 98])
 (kL [0,1,10,11] 0 (.seq (.block 4 (.loop (kL [0,1,10,11] 0 (.block 5 (.seq (.block 6 (.loop (kL [0,1,10,11] 0 (.seq (.seq (.draw 0 [
 ⟨0,none,(mV 99 10),[]⟩,
 ⟨1,none,(mV 100 11),[]⟩,
 ⟨2,none,(oP 101 (.bin .leq .num (.t 99) (.t 100))),[]⟩,
 ⟨3,none,(mV 102 101),[]⟩,
 ⟨4,none,(mG 103 0 102 true),[]⟩,
 ⟨5,none,(mG 104 10 102 true),[]⟩,
 ⟨6,none,(oG 105 (iA 1 103 104) 102 true),[]⟩,
 ⟨7,none,(oG 106 (lD 105) 102 true),[]⟩,
 ⟨8,none,(mG 107 0 102 true),[]⟩,
 ⟨9,none,(mG 108 1 102 true),[]⟩,
 ⟨10,none,(oG 109 (iA 1 107 108) 102 true),[]⟩,
 ⟨11,none,(oG 110 (lD 109) 102 true),[]⟩,
 ⟨12,none,(oG 111 (.call 93 [(.t 106),(.t 110)]) 102 true),[]⟩,
 ⟨13,none,(oP 112 (.pick (.t 102) (.t 111) (cB false))),[]⟩])
 (kL [0,1,10,11,112] 0 (.cond (.t 112)
 (.skip)
 (.exit 6))))
 (kL [0,1,10,11] 0 (.block 7 (.region [
 mV 113 10,
 oP 114 (.bin .add .num (.t 113) (cI 1)),
 mV 10 114])))))))
 (kL [0,1,10,11] 0 (.seq (.block 8 (.loop (kL [0,1,10,11] 0 (.seq (.seq (.draw 0 [
 ⟨0,none,(mV 115 10),[]⟩,
 ⟨1,none,(mV 116 11),[]⟩,
 ⟨2,none,(oP 117 (.bin .leq .num (.t 115) (.t 116))),[]⟩,
 ⟨3,none,(mV 118 117),[]⟩,
 ⟨4,none,(mG 119 0 118 true),[]⟩,
 ⟨5,none,(mG 120 11 118 true),[]⟩,
 ⟨6,none,(oG 121 (iA 1 119 120) 118 true),[]⟩,
 ⟨7,none,(oG 122 (lD 121) 118 true),[]⟩,
 ⟨8,none,(mG 123 0 118 true),[]⟩,
 ⟨9,none,(mG 124 1 118 true),[]⟩,
 ⟨10,none,(oG 125 (iA 1 123 124) 118 true),[]⟩,
 ⟨11,none,(oG 126 (lD 125) 118 true),[]⟩,
 ⟨12,none,(oG 127 (.call 93 [(.t 122),(.t 126)]) 118 true),[]⟩,
 ⟨13,none,(oG 128 (.un .not (.t 127)) 118 true),[]⟩,
 ⟨14,none,(oP 129 (.pick (.t 118) (.t 128) (cB false))),[]⟩])
 (kL [0,1,10,11,129] 0 (.cond (.t 129)
 (.skip)
 (.exit 8))))
 (kL [0,1,10,11] 0 (.block 9 (.region [
 mV 130 11,
 oP 131 (.bin .sub .num (.t 130) (cI 1)),
 mV 11 131])))))))
 (kL [0,1,10,11] 0 (.seq (.seq (.region [
 mV 132 10,
 mV 133 11,
 oP 134 (.bin .gtr .num (.t 132) (.t 133))])
 (kL [0,1,10,11,134] 0 (.cond (.t 134)
 (.exit 4)
 (.skip))))
 (kL [0,1,10,11] 0 (.seq (.draw 0 [
 ⟨0,none,(mV 135 0),[]⟩,
 ⟨1,none,(mV 136 10),[]⟩,
 ⟨2,none,(mV 137 0),[]⟩,
 ⟨3,none,(mV 138 11),[]⟩,
 ⟨4,none,(mV 139 0),[]⟩,
 ⟨5,none,(mV 140 11),[]⟩,
 ⟨6,none,(oP 141 (iA 1 139 140)),[]⟩,
 ⟨7,none,(oP 142 (lD 141)),[]⟩,
 ⟨8,none,(mV 143 0),[]⟩,
 ⟨9,none,(mV 144 10),[]⟩,
 ⟨10,none,(oP 145 (iA 1 143 144)),[]⟩,
 ⟨11,none,(oP 146 (lD 145)),[]⟩,
 ⟨12,none,(oP 147 (iA 1 135 136)),[]⟩,
 ⟨13,none,(oW (.store 1 (.t 147) (.t 142))),[]⟩,
 ⟨14,none,(oP 148 (iA 1 137 138)),[]⟩,
 ⟨15,none,(oW (.store 1 (.t 148) (.t 146))),[]⟩])
 (kL [0,1,10,11] 0 (.seq (.region [
 mV 149 10,
 oP 150 (.bin .add .num (.t 149) (cI 1)),
 mV 10 150])
 (kL [0,1,10,11] 0 (.region [
 mV 151 11,
 oP 152 (.bin .sub .num (.t 151) (cI 1)),
 mV 11 152])))))))))))))))
 (kL [0,1,11] 0 (.seq (.draw 0 [
 ⟨0,none,(mV 153 0),[]⟩,
 ⟨1,none,(mV 154 11),[]⟩,
 ⟨2,none,(mV 155 0),[]⟩,
 ⟨3,none,(mV 156 1),[]⟩,
 ⟨4,none,(mV 157 0),[]⟩,
 ⟨5,none,(mV 158 1),[]⟩,
 ⟨6,none,(oP 159 (iA 1 157 158)),[]⟩,
 ⟨7,none,(oP 160 (lD 159)),[]⟩,
 ⟨8,none,(mV 161 0),[]⟩,
 ⟨9,none,(mV 162 11),[]⟩,
 ⟨10,none,(oP 163 (iA 1 161 162)),[]⟩,
 ⟨11,none,(oP 164 (lD 163)),[]⟩,
 ⟨12,none,(oP 165 (iA 1 153 154)),[]⟩,
 ⟨13,none,(oW (.store 1 (.t 165) (.t 160))),[]⟩,
 ⟨14,none,(oP 166 (iA 1 155 156)),[]⟩,
 ⟨15,none,(oW (.store 1 (.t 166) (.t 164))),[]⟩])
 (kL [11] 0 (.seq (.region [
 mV 167 11,
 mV 8 167,
 oP 9 (.mov (cB false))])
 (.ret)))))))))))))))))))))))⟩
def n96:NF:=⟨19,[2],
 .seq (.region [
 oP 2 (.mov (cI 0))])
 (kL [0,2] 0 (.seq (.seq (.region [
 mV 3 0,
 oP 4 (.bin .geq .num (.t 3) (.c (.c (.int .u32 65536))))])
 (kL [0,2,4] 0 (.cond (.t 4)
 (.seq (.region [
 mV 5 0,
 oP 6 (.bin .shr .num (.t 5) (.c (.c (.int .u64 16)))),
 mV 0 6])
 (kL [0] 0 (.region [
 oP 2 (.mov (cI 16))])))
 (.skip))))
 (kL [0,2] 0 (.seq (.seq (.region [
 mV 7 0,
 oP 8 (.bin .geq .num (.t 7) (.c (.c (.int .u32 256))))])
 (kL [0,2,8] 0 (.cond (.t 8)
 (.seq (.region [
 mV 9 0,
 oP 10 (.bin .shr .num (.t 9) (.c (.c (.int .u64 8)))),
 mV 0 10])
 (kL [0,2] 0 (.region [
 mV 11 2,
 oP 12 (.bin .add .num (.t 11) (cI 8)),
 mV 2 12])))
 (.skip))))
 (kL [0,2] 0 (.seq (.region [
 mV 13 2,
 mV 14 0,
 oP 15 (.conv (.toInt .u8) (.t 14)),
 oP 16 (.indexS (.c (.c (.str (bs [0,1,2,2,3,3,3,3,4,4,4,4,4,4,4,4,5,5,5,5,5,5,5,5,5,5,5,5,5,5,5,5,6,6,6,6,6,6,6,6,6,6,6,6,6,6,6,6,6,6,6,6,6,6,6,6,6,6,6,6,6,6,6,6,7,7,7,7,7,7,7,7,7,7,7,7,7,7,7,7,7,7,7,7,7,7,7,7,7,7,7,7,7,7,7,7,7,7,7,7,7,7,7,7,7,7,7,7,7,7,7,7,7,7,7,7,7,7,7,7,7,7,7,7,7,7,7,7,8,8,8,8,8,8,8,8,8,8,8,8,8,8,8,8,8,8,8,8,8,8,8,8,8,8,8,8,8,8,8,8,8,8,8,8,8,8,8,8,8,8,8,8,8,8,8,8,8,8,8,8,8,8,8,8,8,8,8,8,8,8,8,8,8,8,8,8,8,8,8,8,8,8,8,8,8,8,8,8,8,8,8,8,8,8,8,8,8,8,8,8,8,8,8,8,8,8,8,8,8,8,8,8,8,8,8,8,8,8,8,8,8,8,8,8,8,8,8,8,8,8,8,8,8,8,8,8])))) (.t 15)),
 oP 17 (.conv (.toInt .i64) (.t 16)),
 oP 18 (.bin .add .num (.t 13) (.t 17)),
 mV 2 18])
 (.ret)))))))⟩
def n97:NF:=⟨25,[2],
 .seq (.region [
 oP 2 (.mov (cI 0))])
 (kL [0,2] 0 (.seq (.seq (.region [
 mV 3 0,
 oP 4 (.bin .geq .num (.t 3) (.c (.c (.int .u64 4294967296))))])
 (kL [0,2,4] 0 (.cond (.t 4)
 (.seq (.region [
 mV 5 0,
 oP 6 (.bin .shr .num (.t 5) (.c (.c (.int .u64 32)))),
 mV 0 6])
 (kL [0] 0 (.region [
 oP 2 (.mov (cI 32))])))
 (.skip))))
 (kL [0,2] 0 (.seq (.seq (.region [
 mV 7 0,
 oP 8 (.bin .geq .num (.t 7) (.c (.c (.int .u64 65536))))])
 (kL [0,2,8] 0 (.cond (.t 8)
 (.seq (.region [
 mV 9 0,
 oP 10 (.bin .shr .num (.t 9) (.c (.c (.int .u64 16)))),
 mV 0 10])
 (kL [0,2] 0 (.region [
 mV 11 2,
 oP 12 (.bin .add .num (.t 11) (cI 16)),
 mV 2 12])))
 (.skip))))
 (kL [0,2] 0 (.seq (.seq (.region [
 mV 13 0,
 oP 14 (.bin .geq .num (.t 13) (.c (.c (.int .u64 256))))])
 (kL [0,2,14] 0 (.cond (.t 14)
 (.seq (.region [
 mV 15 0,
 oP 16 (.bin .shr .num (.t 15) (.c (.c (.int .u64 8)))),
 mV 0 16])
 (kL [0,2] 0 (.region [
 mV 17 2,
 oP 18 (.bin .add .num (.t 17) (cI 8)),
 mV 2 18])))
 (.skip))))
 (kL [0,2] 0 (.seq (.region [
 mV 19 2,
 mV 20 0,
 oP 21 (.conv (.toInt .u8) (.t 20)),
 oP 22 (.indexS (.c (.c (.str (bs [0,1,2,2,3,3,3,3,4,4,4,4,4,4,4,4,5,5,5,5,5,5,5,5,5,5,5,5,5,5,5,5,6,6,6,6,6,6,6,6,6,6,6,6,6,6,6,6,6,6,6,6,6,6,6,6,6,6,6,6,6,6,6,6,7,7,7,7,7,7,7,7,7,7,7,7,7,7,7,7,7,7,7,7,7,7,7,7,7,7,7,7,7,7,7,7,7,7,7,7,7,7,7,7,7,7,7,7,7,7,7,7,7,7,7,7,7,7,7,7,7,7,7,7,7,7,7,7,8,8,8,8,8,8,8,8,8,8,8,8,8,8,8,8,8,8,8,8,8,8,8,8,8,8,8,8,8,8,8,8,8,8,8,8,8,8,8,8,8,8,8,8,8,8,8,8,8,8,8,8,8,8,8,8,8,8,8,8,8,8,8,8,8,8,8,8,8,8,8,8,8,8,8,8,8,8,8,8,8,8,8,8,8,8,8,8,8,8,8,8,8,8,8,8,8,8,8,8,8,8,8,8,8,8,8,8,8,8,8,8,8,8,8,8,8,8,8,8,8,8,8,8,8,8,8,8])))) (.t 21)),
 oP 23 (.conv (.toInt .i64) (.t 22)),
 oP 24 (.bin .add .num (.t 19) (.t 23)),
 mV 2 24])
 (.ret)))))))))⟩
def n98:NF:=⟨19,[4],
 .seq (.region [
 oP 4 (.mov (cI 0))])
 (kL [0,1] 0 (.seq (.seq (.region [
 mV 6 0,
 oP 7 (.len .sl (.t 6)),
 oP 8 (.mov (cI 0))])
 (kL [0,1,7,8] 0 (.block 0 (.loop (kL [0,1,7,8] 0 (.seq (.region [
 oP 9 (.bin .lss .num (.t 8) (.t 7))])
 (kL [0,1,7,8,9] 0 (.seq (.cond (.t 9)
 (.skip)
 (.exit 0))
 (kL [0,1,7,8] 0 (.seq (.block 1 (.seq (.region [
 mV 10 8,
 mV 5 10])
 (kL [0,1,5,7,8] 0 (.seq (.region [
 mV 11 1,
 mV 12 0,
 mV 13 5,
 oP 14 (iA 3 12 13),
 oP 15 (.load (some 3) (.t 14)),
 oP 16 (.dyn (.t 11) [(.t 15)])])
 (kL [0,1,5,7,8,16] 0 (.cond (.t 16)
 (.seq (.region [
 mV 17 5,
 mV 4 17])
 (.ret))
 (.skip)))))))
 (kL [0,1,7,8] 0 (.region [
 oP 18 (.bin .add .num (.t 8) (cI 1)),
 mV 8 18]))))))))))))
 (kL [] 0 (.seq (.region [
 oP 4 (.mov (cI (-1)))])
 (.ret)))))⟩
def n85:NF:=⟨148,[],
 .seq (.region [
 oP 10 (.mov (cB true))])
 (kL [0,1,2,3,4,10] 0 (.seq (.region [
 oP 11 (.mov (cB true))])
 (kL [0,1,2,3,4,10,11] 0 (.block 0 (.loop (kL [0,1,2,3,4,10,11] 0 (.block 1 (.seq (.region [
 mV 21 2,
 mV 22 1,
 oP 23 (.bin .sub .num (.t 21) (.t 22)),
 mV 12 23])
 (kL [0,1,2,3,4,10,11,12] 0 (.seq (.seq (.region [
 mV 24 12,
 oP 25 (.bin .leq .num (.t 24) (cI 12))])
 (kL [0,1,2,3,4,10,11,12,25] 0 (.cond (.t 25)
 (.seq (.region [
 mV 26 0,
 mV 27 1,
 mV 28 2,
 mV 29 4,
 oP 30 (.call 99 [(.t 26),(.t 27),(.t 28),(.t 29)])])
 (.ret))
 (.skip))))
 (kL [0,1,2,3,4,10,11,12] 0 (.seq (.seq (.region [
 mV 31 3,
 oP 32 (.bin .eql .num (.t 31) (cI 0))])
 (kL [0,1,2,3,4,10,11,12,32] 0 (.cond (.t 32)
 (.seq (.region [
 mV 33 0,
 mV 34 1,
 mV 35 2,
 mV 36 4,
 oP 37 (.call 100 [(.t 33),(.t 34),(.t 35),(.t 36)])])
 (.ret))
 (.skip))))
 (kL [0,1,2,3,4,10,11,12] 0 (.seq (.seq (.region [
 mV 38 10,
 oP 39 (.un .not (.t 38))])
 (kL [0,1,2,3,4,10,11,12,39] 0 (.cond (.t 39)
 (.seq (.region [
 mV 40 0,
 mV 41 1,
 mV 42 2,
 mV 43 4,
 oP 44 (.call 101 [(.t 40),(.t 41),(.t 42),(.t 43)])])
 (kL [0,1,2,3,4,10,11,12] 0 (.region [
 mV 45 3,
 oP 46 (.bin .sub .num (.t 45) (cI 1)),
 mV 3 46])))
 (.skip))))
 (kL [0,1,2,3,4,10,11,12] 0 (.seq (.region [
 mV 48 0,
 mV 49 1,
 mV 50 2,
 mV 51 4,
 oP 52 (.call 102 [(.t 48),(.t 49),(.t 50),(.t 51)]),
 mV 47 52,
 oP 53 (.ext (.t 47) 0),
 oP 54 (.ext (.t 47) 1),
 mV 13 53,
 mV 14 54])
 (kL [0,1,2,3,4,10,11,12,13,14] 0 (.seq (.seq (.region [
 mV 55 14,
 oP 56 (.bin .eql .num (.t 55) (cI 2))])
 (kL [0,1,2,3,4,10,11,12,13,14,56] 0 (.cond (.t 56)
 (.seq (.region [
 mV 57 0,
 mV 58 1,
 mV 59 2,
 mV 60 4,
 oP 61 (.call 103 [(.t 57),(.t 58),(.t 59),(.t 60)])])
 (kL [0,1,2,3,4,10,11,12,13] 0 (.seq (.region [
 mV 62 2,
 oP 63 (.bin .sub .num (.t 62) (cI 1)),
 mV 64 13,
 mV 65 1,
 oP 66 (.bin .sub .num (.t 64) (.t 65)),
 oP 67 (.bin .sub .num (.t 63) (.t 66)),
 mV 13 67])
 (kL [0,1,2,3,4,10,11,12,13] 0 (.region [
 oP 14 (.mov (cI 1))])))))
 (.skip))))
 (kL [0,1,2,3,4,10,11,12,13,14] 0 (.seq (.seq (.region [
 mV 68 10,
 mV 69 68,
 mG 70 11 69 true,
 oP 71 (.pick (.t 69) (.t 70) (cB false)),
 mV 72 71,
 mG 73 14 72 true,
 oG 74 (.bin .eql .num (.t 73) (cI 1)) 72 true,
 oP 75 (.pick (.t 72) (.t 74) (cB false))])
 (kL [0,1,2,3,4,10,11,12,13,75] 0 (.cond (.t 75)
 (.seq (.region [
 mV 76 0,
 mV 77 1,
 mV 78 2,
 mV 79 4,
 oP 80 (.call 104 [(.t 76),(.t 77),(.t 78),(.t 79)])])
 (kL [0,1,2,3,4,10,11,12,13,80] 0 (.cond (.t 80)
 (.ret)
 (.skip))))
 (.skip))))
 (kL [0,1,2,3,4,10,11,12,13] 0 (.seq (.seq (.draw 0 [
 ⟨0,none,(mV 81 1),[]⟩,
 ⟨1,none,(oP 82 (.bin .gtr .num (.t 81) (cI 0))),[]⟩,
 ⟨2,none,(mV 83 82),[]⟩,
 ⟨3,none,(mG 84 4 83 true),[]⟩,
 ⟨4,none,(mG 85 0 83 true),[]⟩,
 ⟨5,none,(mG 86 1 83 true),[]⟩,
 ⟨6,none,(oG 87 (.bin .sub .num (.t 86) (cI 1)) 83 true),[]⟩,
 ⟨7,none,(oG 88 (iA 3 85 87) 83 true),[]⟩,
 ⟨8,none,(oG 89 (.load (some 3) (.t 88)) 83 true),[]⟩,
 ⟨9,none,(mG 90 0 83 true),[]⟩,
 ⟨10,none,(mG 91 13 83 true),[]⟩,
 ⟨11,none,(oG 92 (iA 3 90 91) 83 true),[]⟩,
 ⟨12,none,(oG 93 (.load (some 3) (.t 92)) 83 true),[]⟩,
 ⟨13,none,(oG 94 (.dyn (.t 84) [(.t 89),(.t 93)]) 83 true),[]⟩,
 ⟨14,none,(oG 95 (.bin .lss .num (.t 94) (cI 0)) 83 true),[]⟩,
 ⟨15,none,(oG 96 (.un .not (.t 95)) 83 true),[]⟩,
 ⟨16,none,(oP 97 (.pick (.t 83) (.t 96) (cB false))),[]⟩])
 (kL [0,1,2,3,4,10,11,12,13,97] 0 (.cond (.t 97)
 (.seq (.region [
 mV 98 0,
 mV 99 1,
 mV 100 2,
 mV 101 13,
 mV 102 4,
 oP 103 (.call 105 [(.t 98),(.t 99),(.t 100),(.t 101),(.t 102)]),
 mV 15 103])
 (kL [0,2,3,4,10,11,15] 0 (.seq (.region [
 mV 104 15,
 mV 1 104])
 (.exit 1))))
 (.skip))))
 (kL [0,1,2,3,4,12,13] 0 (.seq (.region [
 mV 106 0,
 mV 107 1,
 mV 108 2,
 mV 109 13,
 mV 110 4,
 oP 111 (.call 106 [(.t 106),(.t 107),(.t 108),(.t 109),(.t 110)]),
 mV 105 111,
 oP 112 (.ext (.t 105) 0),
 oP 113 (.ext (.t 105) 1),
 mV 16 112,
 mV 17 113])
 (kL [0,1,2,3,4,12,16,17] 0 (.seq (.region [
 mV 114 17,
 mV 11 114])
 (kL [0,1,2,3,4,11,12,16] 0 (.seq (.region [
 mV 115 16,
 mV 116 1,
 oP 117 (.bin .sub .num (.t 115) (.t 116)),
 mV 118 2,
 mV 119 16,
 oP 120 (.bin .sub .num (.t 118) (.t 119)),
 mV 18 117,
 mV 19 120])
 (kL [0,1,2,3,4,11,12,16,18,19] 0 (.seq (.region [
 mV 121 12,
 oP 122 (.bin .quo .num (.t 121) (cI 8)),
 mV 20 122])
 (kL [0,1,2,3,4,11,16,18,19,20] 0 (.seq (.region [
 mV 123 18,
 mV 124 19,
 oP 125 (.bin .lss .num (.t 123) (.t 124))])
 (kL [0,1,2,3,4,11,16,18,19,20,125] 0 (.cond (.t 125)
 (.seq (.region [
 mV 126 18,
 mV 127 20,
 oP 128 (.bin .geq .num (.t 126) (.t 127)),
 mV 10 128])
 (kL [0,1,2,3,4,10,11,16] 0 (.seq (.region [
 mV 129 0,
 mV 130 1,
 mV 131 16,
 mV 132 3,
 mV 133 4,
 oP 134 (.call 85 [(.t 129),(.t 130),(.t 131),(.t 132),(.t 133)])])
 (kL [0,2,3,4,10,11,16] 0 (.region [
 mV 135 16,
 oP 136 (.bin .add .num (.t 135) (cI 1)),
 mV 1 136])))))
 (.seq (.region [
 mV 137 19,
 mV 138 20,
 oP 139 (.bin .geq .num (.t 137) (.t 138)),
 mV 10 139])
 (kL [0,1,2,3,4,10,11,16] 0 (.seq (.region [
 mV 140 0,
 mV 141 16,
 oP 142 (.bin .add .num (.t 141) (cI 1)),
 mV 143 2,
 mV 144 3,
 mV 145 4,
 oP 146 (.call 85 [(.t 140),(.t 142),(.t 143),(.t 144),(.t 145)])])
 (kL [0,1,3,4,10,11,16] 0 (.region [
 mV 147 16,
 mV 2 147])))))))))))))))))))))))))))))))))))))))⟩
def n86:NF:=⟨18,[2],
 .seq (.region [
 oP 2 (.mov (cI 0))])
 (kL [0] 0 (.seq (.region [
 oP 3 (.mov (cI 0))])
 (kL [0,3] 0 (.seq (.seq (.region [
 mV 6 0,
 oP 7 (.len .sl (.t 6)),
 oP 8 (.mov (cI 0))])
 (kL [3,6,7,8] 0 (.block 0 (.loop (kL [3,6,7,8] 0 (.seq (.region [
 oP 9 (.bin .lss .num (.t 8) (.t 7))])
 (kL [3,6,7,8,9] 0 (.seq (.cond (.t 9)
 (.skip)
 (.exit 0))
 (kL [3,6,7,8] 0 (.seq (.block 1 (.seq (.region [
 oP 10 (iA 1 6 8),
 oP 11 (lD 10),
 mV 5 11])
 (kL [3,5,6,7,8] 0 (.seq (.region [
 mV 12 5,
 mV 13 3,
 oP 14 (.bin .neq .num (.t 12) (.t 13))])
 (kL [3,5,6,7,8,14] 0 (.cond (.t 14)
 (.seq (.region [
 mV 15 5,
 mV 2 15])
 (.ret))
 (.skip)))))))
 (kL [3,6,7,8] 0 (.region [
 oP 16 (.bin .add .num (.t 8) (cI 1)),
 mV 8 16]))))))))))))
 (kL [3] 0 (.seq (.region [
 mV 17 3,
 mV 2 17])
 (.ret)))))))⟩
def n46:NF:=⟨20,[4],
 .seq (.region [
 oP 4 (.mov (cI 0))])
 (kL [0,1] 0 (.seq (.region [
 mV 7 0,
 oP 8 (.call 47 [(.t 7)]),
 mV 5 8])
 (kL [0,1,5] 0 (.seq (.region [
 mV 9 1,
 oP 10 (.call 47 [(.t 9)]),
 mV 6 10])
 (kL [0,1,5,6] 0 (.seq (.seq (.region [
 mV 11 5])
 (kL [0,1,6,11] 0 (.cond (.t 11)
 (.seq (.seq (.region [
 mV 12 6])
 (kL [12] 0 (.cond (.t 12)
 (.seq (.region [
 oP 4 (.mov (cI 0))])
 (.ret))
 (.skip))))
 (kL [] 0 (.seq (.region [
 oP 4 (.mov (cI (-1)))])
 (.ret))))
 (.skip))))
 (kL [0,1,6] 0 (.seq (.seq (.region [
 mV 13 6])
 (kL [0,1,13] 0 (.cond (.t 13)
 (.seq (.region [
 oP 4 (.mov (cI 1))])
 (.ret))
 (.skip))))
 (kL [0,1] 0 (.seq (.seq (.region [
 mV 14 0,
 mV 15 1,
 oP 16 (.bin .lss .num (.t 14) (.t 15))])
 (kL [0,1,16] 0 (.cond (.t 16)
 (.seq (.region [
 oP 4 (.mov (cI (-1)))])
 (.ret))
 (.skip))))
 (kL [0,1] 0 (.seq (.seq (.region [
 mV 17 0,
 mV 18 1,
 oP 19 (.bin .gtr .num (.t 17) (.t 18))])
 (kL [19] 0 (.cond (.t 19)
 (.seq (.region [
 oP 4 (.mov (cI 1))])
 (.ret))
 (.skip))))
 (kL [] 0 (.seq (.region [
 oP 4 (.mov (cI 0))])
 (.ret)))))))))))))))⟩
def n338:NF:=⟨9,[4],
 .seq (.region [
 oP 4 (.mov (cB false))])
 (kL [0,1] 0 (.seq (.region [
 mV 5 0,
 mV 6 1,
 oP 7 (.call 328 [(.t 5),(.t 6)]),
 oP 8 (.bin .geq .num (.t 7) (cI 0)),
 mV 4 8])
 (.ret)))⟩
def n426:NF:=⟨8,[3],
 .seq (.region [
 oP 3 (.mov (cB false))])
 (kL [0,1] 0 (.seq (.region [
 oP 4 (lD 1),
 mV 5 0,
 oP 6 (.call 273 [(.t 4),(.t 5)]),
 oP 7 (.un .not (.t 6)),
 mV 3 7])
 (.ret)))⟩
def n427:NF:=⟨11,[2],
 .seq (.region [
 oP 2 (.mov (.c (.c .nils)))])
 (kL [0] 0 (.seq (.seq (.region [
 mV 3 0,
 oP 4 (.call 308 [(.t 3)]),
 oP 5 (.un .not (.t 4))])
 (kL [0,5] 0 (.cond (.t 5)
 (.seq (.region [
 oP 2 (.mov (.c (.c .nils)))])
 (.ret))
 (.skip))))
 (kL [0] 0 (.seq (.region [
 mV 6 0,
 oP 7 (.call 203 [(.t 6)]),
 mV 0 7])
 (kL [0] 0 (.seq (.region [
 mV 8 0,
 oP 9 (.call 205 [(.t 8)])])
 (kL [0] 0 (.seq (.region [
 mV 10 0,
 mV 2 10])
 (.ret)))))))))⟩
def n428b:Code:=
 .seq (.region [
 oP 2 (.box true 6 (.t 0)),
 oP 4 (.box false 6 (.c (.agg [(.int .i64 0),(.int .i64 0),(.int .i64 0),(.int .i64 0),.nils,.nils]))),
 oP 5 (.mov (cI 0)),
 oP 6 (.mov (cI 0))])
 (kL [1,2,4] 1 (.seq (.region [
 oP 10 (.load (some 6) (.t 2)),
 mV 11 1,
 oP 12 (.call 431 [(.t 10),(.t 11)]),
 mV 9 12,
 oP 13 (.ext (.t 9) 0),
 oP 14 (.ext (.t 9) 1),
 oW (.store 6 (.t 2) (.t 13)),
 mV 7 14])
 (kL [1,2,4,7] 1 (.seq (.seq (.region [
 mV 15 7,
 oP 16 (.bin .neq .num (.t 15) (cI 0))])
 (kL [1,2,4,7,16] 1 (.cond (.t 16)
 (.seq (.region [
 oP 17 (.load (some 6) (.t 2)),
 mV 18 7,
 oW (.store 6 (.t 4) (.t 17)),
 oP 5 (.mov (cI 0)),
 mV 6 18])
 (.ret))
 (.skip))))
 (kL [1,2,4] 1 (.seq (.region [
 oP 19 (.faddr 4 (.t 2)),
 oP 20 (lD 19),
 mV 21 1,
 oP 22 (.call 327 [(.t 20),(.t 21)]),
 mV 8 22])
 (kL [2,4,8] 1 (.seq (.seq (.region [
 mV 23 8,
 oP 24 (.bin .lss .num (.t 23) (cI 0)),
 mV 25 24,
 mG 26 8 25 false,
 oG 27 (.faddr 4 (.t 2)) 25 false,
 oG 28 (lD 27) 25 false,
 oG 29 (.len .sl (.t 28)) 25 false,
 oG 30 (.bin .sub .num (.t 29) (cI 1)) 25 false,
 oG 31 (.bin .eql .num (.t 26) (.t 30)) 25 false,
 oP 32 (.pick (.t 25) (cB true) (.t 31))])
 (kL [2,4,8,32] 1 (.cond (.t 32)
 (.seq (.region [
 oP 33 (.build [(.int .i64 0),(.int .i64 0),(.int .i64 0),(.int .i64 0),.nils,.nils] []),
 oW (.store 6 (.t 4) (.t 33)),
 oP 5 (.mov (cI 0)),
 oP 6 (.mov (cI 6))])
 (.ret))
 (.skip))))
 (kL [2,4,8] 1 (.seq (.draw 0 [
 ⟨0,none,(oP 34 (.load (some 6) (.t 2))),[]⟩,
 ⟨1,none,(oP 35 (.faddr 4 (.t 2))),[]⟩,
 ⟨2,none,(oP 36 (lD 35)),[]⟩,
 ⟨3,none,(mV 37 8),[]⟩,
 ⟨4,none,(oP 38 (.bin .add .num (.t 37) (cI 1))),[]⟩,
 ⟨5,none,(oP 39 (iA 1 36 38)),[]⟩,
 ⟨6,none,(oP 40 (lD 39)),[]⟩,
 ⟨7,none,(oW (.store 6 (.t 4) (.t 34))),[(2,(oP 36 (lD 35))),(5,(oP 39 (iA 1 36 38))),(6,(oP 40 (lD 39)))]⟩,
 ⟨8,none,(mV 5 40),[]⟩,
 ⟨9,none,(oP 6 (.mov (cI 0))),[]⟩])
 (.ret)))))))))))
def n428:NF:=⟨41,[4,5,6],.fin n428b [⟨some 4,.load (some 6) (.t 4),none⟩]⟩
def n429:NF:=⟨30,[],
 .seq (.region [
 oP 5 (.box true 6 (.t 1)),
 oP 7 (.box true 6 (.t 3))])
 (kL [0,2,5,7] 2 (.seq (.region [
 oP 11 (.load (some 6) (.t 5)),
 oP 12 (.call 275 [(.t 11)]),
 mV 10 12,
 oP 13 (.ext (.t 10) 0),
 oP 14 (.ext (.t 10) 1),
 mV 8 13,
 mV 9 14])
 (kL [0,2,7,8,9] 2 (.seq (.region [
 mV 15 9,
 oP 16 (.bin .neq .num (.t 15) (cI 0)),
 mV 17 16,
 mG 18 0 17 false,
 oG 19 (.nilck (.t 18)) 17 false,
 oG 20 (.faddr 11 (.t 19)) 17 false,
 oG 21 (lD 20) 17 false,
 mG 22 2 17 false,
 mG 23 8 17 false,
 oG 24 (.call 276 [(.t 21),(.t 22),(.t 23)]) 17 false,
 oG 25 (.un .not (.t 24)) 17 false,
 oP 26 (.pick (.t 17) (cB true) (.t 25))])
 (kL [0,7,26] 2 (.cond (.t 26)
 (.region [
 mV 27 0,
 oP 28 (.load (some 6) (.t 7)),
 oP 29 (.call 379 [(.t 27),(.t 28),(cI 1)])])
 (.skip)))))))⟩
def n430b:Code:=
 .seq (.region [
 oP 2 (.box true 6 (.t 0)),
 oP 4 (.box false 6 (.c (.agg [(.int .i64 0),(.int .i64 0),(.int .i64 0),(.int .i64 0),.nils,.nils]))),
 oP 5 (.mov (cI 0))])
 (kL [1,2,4] 1 (.seq (.region [
 oP 8 (.load (some 6) (.t 2)),
 mV 9 1,
 oP 10 (.call 431 [(.t 8),(.t 9)]),
 mV 7 10,
 oP 11 (.ext (.t 7) 0),
 oP 12 (.ext (.t 7) 1),
 oW (.store 6 (.t 2) (.t 11)),
 mV 6 12])
 (kL [1,2,4,6] 1 (.seq (.seq (.region [
 mV 13 6,
 oP 14 (.bin .neq .num (.t 13) (cI 0)),
 mV 15 14,
 oG 16 (.faddr 4 (.t 2)) 15 false,
 oG 17 (lD 16) 15 false,
 mG 18 1 15 false,
 oG 19 (.call 305 [(.t 17),(.t 18)]) 15 false,
 oP 20 (.pick (.t 15) (cB true) (.t 19))])
 (kL [1,2,4,6,20] 1 (.cond (.t 20)
 (.seq (.region [
 oP 21 (.load (some 6) (.t 2)),
 mV 22 6,
 oW (.store 6 (.t 4) (.t 21)),
 mV 5 22])
 (.ret))
 (.skip))))
 (kL [1,2,4] 1 (.seq (.seq (.region [
 oP 23 (.faddr 4 (.t 2)),
 oP 24 (lD 23),
 oP 25 (.len .sl (.t 24)),
 oP 26 (.bin .geq .num (.t 25) (cI 16))])
 (kL [1,2,4,26] 1 (.cond (.t 26)
 (.seq (.region [
 oP 27 (.build [(.int .i64 0),(.int .i64 0),(.int .i64 0),(.int .i64 0),.nils,.nils] []),
 oW (.store 6 (.t 4) (.t 27)),
 oP 5 (.mov (cI 5))])
 (.ret))
 (.skip))))
 (kL [1,2,4] 1 (.seq (.region [
 oP 28 (.faddr 4 (.t 2)),
 oP 29 (lD 28),
 mV 30 1,
 oP 31 (.bslice true 1 1 [(.int .i64 0)] [(0,(1,(.t 30)))]),
 oP 32 (.app 1 8 (.t 29) (.t 31)),
 oP 33 (.faddr 4 (.t 2)),
 oW (.store 1 (.t 33) (.t 32))])
 (kL [2,4] 1 (.seq (.region [
 oP 34 (.load (some 6) (.t 2)),
 oW (.store 6 (.t 4) (.t 34)),
 oP 5 (.mov (cI 0))])
 (.ret)))))))))))
def n430:NF:=⟨35,[4,5],.fin n430b [⟨some 4,.load (some 6) (.t 4),none⟩]⟩
def n107:NF:=⟨76,[],
 .seq (.region [
 mV 10 1,
 mV 8 10])
 (kL [0,2,3,8] 0 (.block 0 (.loop (kL [0,2,3,8] 0 (.block 1 (.seq (.region [
 mV 11 8,
 oP 12 (.bin .mul .num (cI 2) (.t 11)),
 oP 13 (.bin .add .num (.t 12) (cI 1)),
 mV 9 13])
 (kL [0,2,3,8,9] 0 (.seq (.seq (.region [
 mV 14 9,
 mV 15 2,
 oP 16 (.bin .geq .num (.t 14) (.t 15))])
 (kL [0,2,3,8,9,16] 0 (.cond (.t 16)
 (.exit 0)
 (.skip))))
 (kL [0,2,3,8,9] 0 (.seq (.seq (.draw 0 [
 ⟨0,none,(mV 17 9),[]⟩,
 ⟨1,none,(oP 18 (.bin .add .num (.t 17) (cI 1))),[]⟩,
 ⟨2,none,(mV 19 2),[]⟩,
 ⟨3,none,(oP 20 (.bin .lss .num (.t 18) (.t 19))),[]⟩,
 ⟨4,none,(mV 21 20),[]⟩,
 ⟨5,none,(mG 22 0 21 true),[]⟩,
 ⟨6,none,(mG 23 3 21 true),[]⟩,
 ⟨7,none,(mG 24 9 21 true),[]⟩,
 ⟨8,none,(oG 25 (.bin .add .num (.t 23) (.t 24)) 21 true),[]⟩,
 ⟨9,none,(oG 26 (iA 1 22 25) 21 true),[]⟩,
 ⟨10,none,(oG 27 (lD 26) 21 true),[]⟩,
 ⟨11,none,(mG 28 0 21 true),[]⟩,
 ⟨12,none,(mG 29 3 21 true),[]⟩,
 ⟨13,none,(mG 30 9 21 true),[]⟩,
 ⟨14,none,(oG 31 (.bin .add .num (.t 29) (.t 30)) 21 true),[]⟩,
 ⟨15,none,(oG 32 (.bin .add .num (.t 31) (cI 1)) 21 true),[]⟩,
 ⟨16,none,(oG 33 (iA 1 28 32) 21 true),[]⟩,
 ⟨17,none,(oG 34 (lD 33) 21 true),[]⟩,
 ⟨18,none,(oG 35 (.call 93 [(.t 27),(.t 34)]) 21 true),[]⟩,
 ⟨19,none,(oP 36 (.pick (.t 21) (.t 35) (cB false))),[]⟩])
 (kL [0,2,3,8,9,36] 0 (.cond (.t 36)
 (.region [
 mV 37 9,
 oP 38 (.bin .add .num (.t 37) (cI 1)),
 mV 9 38])
 (.skip))))
 (kL [0,2,3,8,9] 0 (.seq (.seq (.draw 0 [
 ⟨0,none,(mV 39 0),[]⟩,
 ⟨1,none,(mV 40 3),[]⟩,
 ⟨2,none,(mV 41 8),[]⟩,
 ⟨3,none,(oP 42 (.bin .add .num (.t 40) (.t 41))),[]⟩,
 ⟨4,none,(oP 43 (iA 1 39 42)),[]⟩,
 ⟨5,none,(oP 44 (lD 43)),[]⟩,
 ⟨6,none,(mV 45 0),[]⟩,
 ⟨7,none,(mV 46 3),[]⟩,
 ⟨8,none,(mV 47 9),[]⟩,
 ⟨9,none,(oP 48 (.bin .add .num (.t 46) (.t 47))),[]⟩,
 ⟨10,none,(oP 49 (iA 1 45 48)),[]⟩,
 ⟨11,none,(oP 50 (lD 49)),[]⟩,
 ⟨12,none,(oP 51 (.call 93 [(.t 44),(.t 50)])),[]⟩,
 ⟨13,none,(oP 52 (.un .not (.t 51))),[]⟩])
 (kL [0,2,3,8,9,52] 0 (.cond (.t 52)
 (.ret)
 (.skip))))
 (kL [0,2,3,8,9] 0 (.seq (.draw 0 [
 ⟨0,none,(mV 53 0),[]⟩,
 ⟨1,none,(mV 54 3),[]⟩,
 ⟨2,none,(mV 55 8),[]⟩,
 ⟨3,none,(oP 56 (.bin .add .num (.t 54) (.t 55))),[]⟩,
 ⟨4,none,(mV 57 0),[]⟩,
 ⟨5,none,(mV 58 3),[]⟩,
 ⟨6,none,(mV 59 9),[]⟩,
 ⟨7,none,(oP 60 (.bin .add .num (.t 58) (.t 59))),[]⟩,
 ⟨8,none,(mV 61 0),[]⟩,
 ⟨9,none,(mV 62 3),[]⟩,
 ⟨10,none,(mV 63 9),[]⟩,
 ⟨11,none,(oP 64 (.bin .add .num (.t 62) (.t 63))),[]⟩,
 ⟨12,none,(oP 65 (iA 1 61 64)),[]⟩,
 ⟨13,none,(oP 66 (lD 65)),[]⟩,
 ⟨14,none,(mV 67 0),[]⟩,
 ⟨15,none,(mV 68 3),[]⟩,
 ⟨16,none,(mV 69 8),[]⟩,
 ⟨17,none,(oP 70 (.bin .add .num (.t 68) (.t 69))),[]⟩,
 ⟨18,none,(oP 71 (iA 1 67 70)),[]⟩,
 ⟨19,none,(oP 72 (lD 71)),[]⟩,
 ⟨20,none,(oP 73 (iA 1 53 56)),[]⟩,
 ⟨21,none,(oW (.store 1 (.t 73) (.t 66))),[]⟩,
 ⟨22,none,(oP 74 (iA 1 57 60)),[]⟩,
 ⟨23,none,(oW (.store 1 (.t 74) (.t 72))),[]⟩])
 (kL [0,2,3,9] 0 (.region [
 mV 75 9,
 mV 8 75]))))))))))))))))⟩
def n108:NF:=⟨7,[2],
 .seq (.region [
 oP 2 (.mov (.c (.c (.int .u64 0))))])
 (kL [0] 0 (.seq (.region [
 mV 3 0,
 oP 4 (.conv (.toInt .u64) (.t 3)),
 oP 5 (.call 82 [(.t 4)]),
 oP 6 (.bin .shl .num (.c (.c (.int .u64 1))) (.t 5)),
 mV 2 6])
 (.ret)))⟩
def n109:NF:=⟨33,[2],
 .seq (.region [
 oP 2 (.mov (.c (.c (.int .u64 0))))])
 (kL [0] 0 (.seq (.draw 0 [
 ⟨0,none,(mV 3 0),[]⟩,
 ⟨1,none,(oP 4 (.nilck (.t 3))),[]⟩,
 ⟨2,none,(oP 5 (lD 4)),[]⟩,
 ⟨3,none,(mV 6 0),[]⟩,
 ⟨4,none,(oP 7 (.nilck (.t 6))),[]⟩,
 ⟨5,none,(oP 8 (lD 7)),[]⟩,
 ⟨6,none,(oP 9 (.bin .shl .num (.t 8) (.c (.c (.int .u64 13))))),[]⟩,
 ⟨7,none,(oP 10 (.bin .xor .num (.t 5) (.t 9))),[]⟩,
 ⟨8,none,(oP 11 (.nilck (.t 3))),[]⟩,
 ⟨9,none,(oW (.store 1 (.t 11) (.t 10))),[]⟩])
 (kL [0] 0 (.seq (.draw 0 [
 ⟨0,none,(mV 12 0),[]⟩,
 ⟨1,none,(oP 13 (.nilck (.t 12))),[]⟩,
 ⟨2,none,(oP 14 (lD 13)),[]⟩,
 ⟨3,none,(mV 15 0),[]⟩,
 ⟨4,none,(oP 16 (.nilck (.t 15))),[]⟩,
 ⟨5,none,(oP 17 (lD 16)),[]⟩,
 ⟨6,none,(oP 18 (.bin .shr .num (.t 17) (.c (.c (.int .u64 7))))),[]⟩,
 ⟨7,none,(oP 19 (.bin .xor .num (.t 14) (.t 18))),[]⟩,
 ⟨8,none,(oP 20 (.nilck (.t 12))),[]⟩,
 ⟨9,none,(oW (.store 1 (.t 20) (.t 19))),[]⟩])
 (kL [0] 0 (.seq (.draw 0 [
 ⟨0,none,(mV 21 0),[]⟩,
 ⟨1,none,(oP 22 (.nilck (.t 21))),[]⟩,
 ⟨2,none,(oP 23 (lD 22)),[]⟩,
 ⟨3,none,(mV 24 0),[]⟩,
 ⟨4,none,(oP 25 (.nilck (.t 24))),[]⟩,
 ⟨5,none,(oP 26 (lD 25)),[]⟩,
 ⟨6,none,(oP 27 (.bin .shl .num (.t 26) (.c (.c (.int .u64 17))))),[]⟩,
 ⟨7,none,(oP 28 (.bin .xor .num (.t 23) (.t 27))),[]⟩,
 ⟨8,none,(oP 29 (.nilck (.t 21))),[]⟩,
 ⟨9,none,(oW (.store 1 (.t 29) (.t 28))),[]⟩])
 (kL [0] 0 (.seq (.region [
 mV 30 0,
 oP 31 (.nilck (.t 30)),
 oP 32 (lD 31),
 mV 2 32])
 (.ret)))))))))⟩
def n110:NF:=⟨15,[6],
 .seq (.region [
 oP 6 (.mov (cI 0))])
 (kL [0,1,2] 0 (.seq (.region [
 mV 7 0,
 mV 8 1,
 oP 9 (.bin .sub .num (.t 8) (cI 1)),
 mV 10 1,
 mV 11 1,
 oP 12 (.bin .add .num (.t 11) (cI 1)),
 mV 13 2,
 oP 14 (.call 111 [(.t 7),(.t 9),(.t 10),(.t 12),(.t 13)]),
 mV 6 14])
 (.ret)))⟩
def n111:NF:=⟨36,[10],
 .seq (.region [
 oP 10 (.mov (cI 0))])
 (kL [0,1,2,3,4] 0 (.seq (.region [
 mV 12 0,
 mV 13 1,
 mV 14 2,
 mV 15 4,
 oP 16 (.call 115 [(.t 12),(.t 13),(.t 14),(.t 15)]),
 mV 11 16,
 oP 17 (.ext (.t 11) 0),
 oP 18 (.ext (.t 11) 1),
 mV 1 17,
 mV 2 18])
 (kL [0,1,2,3,4] 0 (.seq (.region [
 mV 20 0,
 mV 21 2,
 mV 22 3,
 mV 23 4,
 oP 24 (.call 115 [(.t 20),(.t 21),(.t 22),(.t 23)]),
 mV 19 24,
 oP 25 (.ext (.t 19) 0),
 oP 26 (.ext (.t 19) 1),
 mV 2 25,
 mV 3 26])
 (kL [0,1,2,4] 0 (.seq (.region [
 mV 28 0,
 mV 29 1,
 mV 30 2,
 mV 31 4,
 oP 32 (.call 115 [(.t 28),(.t 29),(.t 30),(.t 31)]),
 mV 27 32,
 oP 33 (.ext (.t 27) 0),
 oP 34 (.ext (.t 27) 1),
 mV 1 33,
 mV 2 34])
 (kL [2] 0 (.seq (.region [
 mV 35 2,
 mV 10 35])
 (.ret)))))))))⟩
def n47:NF:=⟨6,[2],
 .seq (.region [
 oP 2 (.mov (cB false))])
 (kL [0] 0 (.seq (.region [
 mV 3 0,
 mV 4 0,
 oP 5 (.bin .neq .num (.t 3) (.t 4)),
 mV 2 5])
 (.ret)))⟩
def n99:NF:=⟨53,[],
 .seq (.region [
 mV 10 1,
 oP 11 (.bin .add .num (.t 10) (cI 1)),
 mV 8 11])
 (kL [0,1,2,3,8] 0 (.block 0 (.loop (kL [0,1,2,3,8] 0 (.seq (.seq (.region [
 mV 12 8,
 mV 13 2,
 oP 14 (.bin .lss .num (.t 12) (.t 13))])
 (kL [0,1,2,3,8,14] 0 (.cond (.t 14)
 (.skip)
 (.exit 0))))
 (kL [0,1,2,3,8] 0 (.seq (.block 1 (.seq (.region [
 mV 17 8,
 mV 9 17])
 (kL [0,1,2,3,8,9] 0 (.block 2 (.loop (kL [0,1,2,3,8,9] 0 (.seq (.seq (.draw 0 [
 ⟨0,none,(mV 18 9),[]⟩,
 ⟨1,none,(mV 19 1),[]⟩,
 ⟨2,none,(oP 20 (.bin .gtr .num (.t 18) (.t 19))),[]⟩,
 ⟨3,none,(mV 21 20),[]⟩,
 ⟨4,none,(mG 22 3 21 true),[]⟩,
 ⟨5,none,(mG 23 0 21 true),[]⟩,
 ⟨6,none,(mG 24 9 21 true),[]⟩,
 ⟨7,none,(oG 25 (iA 3 23 24) 21 true),[]⟩,
 ⟨8,none,(oG 26 (.load (some 3) (.t 25)) 21 true),[]⟩,
 ⟨9,none,(mG 27 0 21 true),[]⟩,
 ⟨10,none,(mG 28 9 21 true),[]⟩,
 ⟨11,none,(oG 29 (.bin .sub .num (.t 28) (cI 1)) 21 true),[]⟩,
 ⟨12,none,(oG 30 (iA 3 27 29) 21 true),[]⟩,
 ⟨13,none,(oG 31 (.load (some 3) (.t 30)) 21 true),[]⟩,
 ⟨14,none,(oG 32 (.dyn (.t 22) [(.t 26),(.t 31)]) 21 true),[]⟩,
 ⟨15,none,(oG 33 (.bin .lss .num (.t 32) (cI 0)) 21 true),[]⟩,
 ⟨16,none,(oP 34 (.pick (.t 21) (.t 33) (cB false))),[]⟩])
 (kL [0,1,2,3,8,9,34] 0 (.cond (.t 34)
 (.skip)
 (.exit 2))))
 (kL [0,1,2,3,8,9] 0 (.seq (.block 3 (.draw 0 [
 ⟨0,none,(mV 37 0),[]⟩,
 ⟨1,none,(mV 38 9),[]⟩,
 ⟨2,none,(mV 39 0),[]⟩,
 ⟨3,none,(mV 40 9),[]⟩,
 ⟨4,none,(oP 41 (.bin .sub .num (.t 40) (cI 1))),[]⟩,
 ⟨5,none,(mV 42 0),[]⟩,
 ⟨6,none,(mV 43 9),[]⟩,
 ⟨7,none,(oP 44 (.bin .sub .num (.t 43) (cI 1))),[]⟩,
 ⟨8,none,(oP 45 (iA 3 42 44)),[]⟩,
 ⟨9,none,(oP 46 (.load (some 3) (.t 45))),[]⟩,
 ⟨10,none,(mV 47 0),[]⟩,
 ⟨11,none,(mV 48 9),[]⟩,
 ⟨12,none,(oP 49 (iA 3 47 48)),[]⟩,
 ⟨13,none,(oP 50 (.load (some 3) (.t 49))),[]⟩,
 ⟨14,none,(oP 51 (iA 3 37 38)),[]⟩,
 ⟨15,none,(oW (.store 3 (.t 51) (.t 46))),[]⟩,
 ⟨16,none,(oP 52 (iA 3 39 41)),[]⟩,
 ⟨17,none,(oW (.store 3 (.t 52) (.t 50))),[]⟩]))
 (kL [0,1,2,3,8,9] 0 (.region [
 mV 35 9,
 oP 36 (.bin .sub .num (.t 35) (cI 1)),
 mV 9 36])))))))))))
 (kL [0,1,2,3,8] 0 (.region [
 mV 15 8,
 oP 16 (.bin .add .num (.t 15) (cI 1)),
 mV 8 16])))))))))⟩
def n100:NF:=⟨60,[],
 .seq (.region [
 mV 13 1,
 mV 8 13])
 (kL [0,1,2,3,8] 0 (.seq (.region [
 oP 9 (.mov (cI 0))])
 (kL [0,1,2,3,8,9] 0 (.seq (.region [
 mV 14 2,
 mV 15 1,
 oP 16 (.bin .sub .num (.t 14) (.t 15)),
 mV 10 16])
 (kL [0,3,8,9,10] 0 (.seq (.seq (.region [
 mV 17 10,
 oP 18 (.bin .sub .num (.t 17) (cI 1)),
 oP 19 (.bin .quo .num (.t 18) (cI 2)),
 mV 11 19])
 (kL [0,3,8,9,10,11] 0 (.block 0 (.loop (kL [0,3,8,9,10,11] 0 (.seq (.seq (.region [
 mV 20 11,
 oP 21 (.bin .geq .num (.t 20) (cI 0))])
 (kL [0,3,8,9,10,11,21] 0 (.cond (.t 21)
 (.skip)
 (.exit 0))))
 (kL [0,3,8,9,10,11] 0 (.seq (.block 1 (.region [
 mV 24 0,
 mV 25 11,
 mV 26 10,
 mV 27 8,
 mV 28 3,
 oP 29 (.call 112 [(.t 24),(.t 25),(.t 26),(.t 27),(.t 28)])]))
 (kL [0,3,8,9,10,11] 0 (.region [
 mV 22 11,
 oP 23 (.bin .sub .num (.t 22) (cI 1)),
 mV 11 23]))))))))))
 (kL [0,3,8,9,10] 0 (.seq (.region [
 mV 30 10,
 oP 31 (.bin .sub .num (.t 30) (cI 1)),
 mV 12 31])
 (kL [0,3,8,9,12] 0 (.block 2 (.loop (kL [0,3,8,9,12] 0 (.seq (.seq (.region [
 mV 32 12,
 oP 33 (.bin .geq .num (.t 32) (cI 0))])
 (kL [0,3,8,9,12,33] 0 (.cond (.t 33)
 (.skip)
 (.exit 2))))
 (kL [0,3,8,9,12] 0 (.seq (.block 3 (.seq (.draw 0 [
 ⟨0,none,(mV 36 0),[]⟩,
 ⟨1,none,(mV 37 8),[]⟩,
 ⟨2,none,(mV 38 0),[]⟩,
 ⟨3,none,(mV 39 8),[]⟩,
 ⟨4,none,(mV 40 12),[]⟩,
 ⟨5,none,(oP 41 (.bin .add .num (.t 39) (.t 40))),[]⟩,
 ⟨6,none,(mV 42 0),[]⟩,
 ⟨7,none,(mV 43 8),[]⟩,
 ⟨8,none,(mV 44 12),[]⟩,
 ⟨9,none,(oP 45 (.bin .add .num (.t 43) (.t 44))),[]⟩,
 ⟨10,none,(oP 46 (iA 3 42 45)),[]⟩,
 ⟨11,none,(oP 47 (.load (some 3) (.t 46))),[]⟩,
 ⟨12,none,(mV 48 0),[]⟩,
 ⟨13,none,(mV 49 8),[]⟩,
 ⟨14,none,(oP 50 (iA 3 48 49)),[]⟩,
 ⟨15,none,(oP 51 (.load (some 3) (.t 50))),[]⟩,
 ⟨16,none,(oP 52 (iA 3 36 37)),[]⟩,
 ⟨17,none,(oW (.store 3 (.t 52) (.t 47))),[]⟩,
 ⟨18,none,(oP 53 (iA 3 38 41)),[]⟩,
 ⟨19,none,(oW (.store 3 (.t 53) (.t 51))),[]⟩])
 (kL [0,3,8,9,12] 0 (.region [
 mV 54 0,
 mV 55 9,
 mV 56 12,
 mV 57 8,
 mV 58 3,
 oP 59 (.call 112 [(.t 54),(.t 55),(.t 56),(.t 57),(.t 58)])]))))
 (kL [0,3,8,9,12] 0 (.region [
 mV 34 12,
 oP 35 (.bin .sub .num (.t 34) (cI 1)),
 mV 12 35])))))))))))))))))⟩
def n101:NF:=⟨67,[],
 .seq (.region [
 mV 13 2,
 mV 14 1,
 oP 15 (.bin .sub .num (.t 13) (.t 14)),
 mV 8 15])
 (kL [0,1,8] 0 (.seq (.region [
 mV 16 8,
 oP 17 (.bin .geq .num (.t 16) (cI 8))])
 (kL [0,1,8,17] 0 (.cond (.t 17)
 (.seq (.region [
 mV 18 8,
 oP 19 (.conv (.toInt .u64) (.t 18)),
 oP 9 (.box false 1 (.c (.c (.int .u64 0)))),
 oW (.store 1 (.t 9) (.t 19))])
 (kL [0,1,8,9] 0 (.seq (.region [
 mV 20 8,
 oP 21 (.call 108 [(.t 20)]),
 mV 10 21])
 (kL [0,1,8,9,10] 0 (.seq (.region [
 mV 22 1,
 mV 23 8,
 oP 24 (.bin .quo .num (.t 23) (cI 4)),
 oP 25 (.bin .mul .num (.t 24) (cI 2)),
 oP 26 (.bin .add .num (.t 22) (.t 25)),
 oP 27 (.bin .sub .num (.t 26) (cI 1)),
 mV 11 27])
 (kL [0,1,8,9,10,11] 0 (.block 0 (.loop (kL [0,1,8,9,10,11] 0 (.seq (.seq (.region [
 mV 28 11,
 mV 29 1,
 mV 30 8,
 oP 31 (.bin .quo .num (.t 30) (cI 4)),
 oP 32 (.bin .mul .num (.t 31) (cI 2)),
 oP 33 (.bin .add .num (.t 29) (.t 32)),
 oP 34 (.bin .add .num (.t 33) (cI 1)),
 oP 35 (.bin .leq .num (.t 28) (.t 34))])
 (kL [0,1,8,9,10,11,35] 0 (.cond (.t 35)
 (.skip)
 (.exit 0))))
 (kL [0,1,8,9,10,11] 0 (.seq (.block 1 (.seq (.region [
 oP 38 (.call 109 [(.t 9)]),
 mV 39 10,
 oP 40 (.bin .sub .num (.t 39) (.c (.c (.int .u64 1)))),
 oP 41 (.bin .and .num (.t 38) (.t 40)),
 oP 42 (.conv (.toInt .i64) (.t 41)),
 mV 12 42])
 (kL [0,1,8,9,10,11,12] 0 (.seq (.seq (.region [
 mV 43 12,
 mV 44 8,
 oP 45 (.bin .geq .num (.t 43) (.t 44))])
 (kL [0,1,8,9,10,11,12,45] 0 (.cond (.t 45)
 (.region [
 mV 46 12,
 mV 47 8,
 oP 48 (.bin .sub .num (.t 46) (.t 47)),
 mV 12 48])
 (.skip))))
 (kL [0,1,8,9,10,11,12] 0 (.draw 0 [
 ⟨0,none,(mV 49 0),[]⟩,
 ⟨1,none,(mV 50 11),[]⟩,
 ⟨2,none,(mV 51 0),[]⟩,
 ⟨3,none,(mV 52 1),[]⟩,
 ⟨4,none,(mV 53 12),[]⟩,
 ⟨5,none,(oP 54 (.bin .add .num (.t 52) (.t 53))),[]⟩,
 ⟨6,none,(mV 55 0),[]⟩,
 ⟨7,none,(mV 56 1),[]⟩,
 ⟨8,none,(mV 57 12),[]⟩,
 ⟨9,none,(oP 58 (.bin .add .num (.t 56) (.t 57))),[]⟩,
 ⟨10,none,(oP 59 (iA 3 55 58)),[]⟩,
 ⟨11,none,(oP 60 (.load (some 3) (.t 59))),[]⟩,
 ⟨12,none,(mV 61 0),[]⟩,
 ⟨13,none,(mV 62 11),[]⟩,
 ⟨14,none,(oP 63 (iA 3 61 62)),[]⟩,
 ⟨15,none,(oP 64 (.load (some 3) (.t 63))),[]⟩,
 ⟨16,none,(oP 65 (iA 3 49 50)),[]⟩,
 ⟨17,none,(oW (.store 3 (.t 65) (.t 60))),[]⟩,
 ⟨18,none,(oP 66 (iA 3 51 54)),[]⟩,
 ⟨19,none,(oW (.store 3 (.t 66) (.t 64))),[]⟩]))))))
 (kL [0,1,8,9,10,11] 0 (.region [
 mV 36 11,
 oP 37 (.bin .add .num (.t 36) (cI 1)),
 mV 11 37]))))))))))))))
 (.skip)))))⟩
def n102:NF:=⟨63,[8,9],
 .seq (.region [
 oP 8 (.mov (cI 0)),
 oP 9 (.mov (cI 0))])
 (kL [0,1,2,3] 0 (.seq (.region [
 mV 15 2,
 mV 16 1,
 oP 17 (.bin .sub .num (.t 15) (.t 16)),
 mV 10 17])
 (kL [0,1,3,10] 0 (.seq (.region [
 oP 11 (.box false 1 (cI 0))])
 (kL [0,1,3,10,11] 0 (.seq (.region [
 mV 18 1,
 mV 19 10,
 oP 20 (.bin .quo .num (.t 19) (cI 4)),
 oP 21 (.bin .mul .num (.t 20) (cI 1)),
 oP 22 (.bin .add .num (.t 18) (.t 21)),
 mV 12 22])
 (kL [0,1,3,10,11,12] 0 (.seq (.region [
 mV 23 1,
 mV 24 10,
 oP 25 (.bin .quo .num (.t 24) (cI 4)),
 oP 26 (.bin .mul .num (.t 25) (cI 2)),
 oP 27 (.bin .add .num (.t 23) (.t 26)),
 mV 13 27])
 (kL [0,1,3,10,11,12,13] 0 (.seq (.region [
 mV 28 1,
 mV 29 10,
 oP 30 (.bin .quo .num (.t 29) (cI 4)),
 oP 31 (.bin .mul .num (.t 30) (cI 3)),
 oP 32 (.bin .add .num (.t 28) (.t 31)),
 mV 14 32])
 (kL [0,3,10,11,12,13,14] 0 (.seq (.seq (.region [
 mV 33 10,
 oP 34 (.bin .geq .num (.t 33) (cI 8))])
 (kL [0,3,10,11,12,13,14,34] 0 (.cond (.t 34)
 (.seq (.seq (.region [
 mV 35 10,
 oP 36 (.bin .geq .num (.t 35) (cI 50))])
 (kL [0,3,11,12,13,14,36] 0 (.cond (.t 36)
 (.seq (.region [
 mV 37 0,
 mV 38 12,
 mV 39 3,
 oP 40 (.call 113 [(.t 37),(.t 38),(.t 11),(.t 39)]),
 mV 12 40])
 (kL [0,3,11,12,13,14] 0 (.seq (.region [
 mV 41 0,
 mV 42 13,
 mV 43 3,
 oP 44 (.call 113 [(.t 41),(.t 42),(.t 11),(.t 43)]),
 mV 13 44])
 (kL [0,3,11,12,13,14] 0 (.region [
 mV 45 0,
 mV 46 14,
 mV 47 3,
 oP 48 (.call 113 [(.t 45),(.t 46),(.t 11),(.t 47)]),
 mV 14 48])))))
 (.skip))))
 (kL [0,3,11,12,13,14] 0 (.region [
 mV 49 0,
 mV 50 12,
 mV 51 13,
 mV 52 14,
 mV 53 3,
 oP 54 (.call 114 [(.t 49),(.t 50),(.t 51),(.t 52),(.t 11),(.t 53)]),
 mV 13 54])))
 (.skip))))
 (kL [11,13] 0 (.seq (.region [
 oP 55 (lD 11)])
 (kL [13,55] 0 (.block 0 (.seq (.region [
 oP 58 (.bin .eql .num (.t 55) (cI 0)),
 mV 57 58])
 (kL [13,55,57] 0 (.cond (.t 57)
 (.seq (.region [
 mV 59 13,
 mV 8 59,
 oP 9 (.mov (cI 1))])
 (.ret))
 (.seq (.region [
 oP 61 (.bin .eql .num (.t 55) (cI 12)),
 mV 60 61])
 (kL [13,60] 0 (.cond (.t 60)
 (.seq (.region [
 mV 62 13,
 mV 8 62,
 oP 9 (.mov (cI 2))])
 (.ret))
 (.seq (.region [
 mV 56 13,
 mV 8 56,
 oP 9 (.mov (cI 0))])
 (.ret))))))))))))))))))))))))⟩
def n103:NF:=⟨34,[],
 .seq (.region [
 mV 10 1,
 mV 8 10])
 (kL [0,2,8] 0 (.seq (.region [
 mV 11 2,
 oP 12 (.bin .sub .num (.t 11) (cI 1)),
 mV 9 12])
 (kL [0,8,9] 0 (.block 0 (.loop (kL [0,8,9] 0 (.seq (.seq (.region [
 mV 13 8,
 mV 14 9,
 oP 15 (.bin .lss .num (.t 13) (.t 14))])
 (kL [0,8,9,15] 0 (.cond (.t 15)
 (.skip)
 (.exit 0))))
 (kL [0,8,9] 0 (.block 1 (.seq (.draw 0 [
 ⟨0,none,(mV 16 0),[]⟩,
 ⟨1,none,(mV 17 8),[]⟩,
 ⟨2,none,(mV 18 0),[]⟩,
 ⟨3,none,(mV 19 9),[]⟩,
 ⟨4,none,(mV 20 0),[]⟩,
 ⟨5,none,(mV 21 9),[]⟩,
 ⟨6,none,(oP 22 (iA 3 20 21)),[]⟩,
 ⟨7,none,(oP 23 (.load (some 3) (.t 22))),[]⟩,
 ⟨8,none,(mV 24 0),[]⟩,
 ⟨9,none,(mV 25 8),[]⟩,
 ⟨10,none,(oP 26 (iA 3 24 25)),[]⟩,
 ⟨11,none,(oP 27 (.load (some 3) (.t 26))),[]⟩,
 ⟨12,none,(oP 28 (iA 3 16 17)),[]⟩,
 ⟨13,none,(oW (.store 3 (.t 28) (.t 23))),[]⟩,
 ⟨14,none,(oP 29 (iA 3 18 19)),[]⟩,
 ⟨15,none,(oW (.store 3 (.t 29) (.t 27))),[]⟩])
 (kL [0,8,9] 0 (.seq (.region [
 mV 30 8,
 oP 31 (.bin .add .num (.t 30) (cI 1)),
 mV 8 31])
 (kL [0,8,9] 0 (.region [
 mV 32 9,
 oP 33 (.bin .sub .num (.t 32) (cI 1)),
 mV 9 33]))))))))))))))⟩
def n104:NF:=⟨141,[8],
 .seq (.region [
 oP 8 (.mov (cB false))])
 (kL [0,1,2,3] 0 (.seq (.region [
 mV 13 1,
 oP 14 (.bin .add .num (.t 13) (cI 1)),
 mV 9 14])
 (kL [0,1,2,3,9] 0 (.seq (.seq (.region [
 oP 10 (.mov (cI 0))])
 (kL [0,1,2,3,9,10] 0 (.block 0 (.loop (kL [0,1,2,3,9,10] 0 (.seq (.seq (.region [
 mV 15 10,
 oP 16 (.bin .lss .num (.t 15) (cI 5))])
 (kL [0,1,2,3,9,10,16] 0 (.cond (.t 16)
 (.skip)
 (.exit 0))))
 (kL [0,1,2,3,9,10] 0 (.seq (.block 1 (.seq (.block 2 (.loop (kL [0,1,2,3,9,10] 0 (.seq (.seq (.draw 0 [
 ⟨0,none,(mV 19 9),[]⟩,
 ⟨1,none,(mV 20 2),[]⟩,
 ⟨2,none,(oP 21 (.bin .lss .num (.t 19) (.t 20))),[]⟩,
 ⟨3,none,(mV 22 21),[]⟩,
 ⟨4,none,(mG 23 3 22 true),[]⟩,
 ⟨5,none,(mG 24 0 22 true),[]⟩,
 ⟨6,none,(mG 25 9 22 true),[]⟩,
 ⟨7,none,(oG 26 (iA 3 24 25) 22 true),[]⟩,
 ⟨8,none,(oG 27 (.load (some 3) (.t 26)) 22 true),[]⟩,
 ⟨9,none,(mG 28 0 22 true),[]⟩,
 ⟨10,none,(mG 29 9 22 true),[]⟩,
 ⟨11,none,(oG 30 (.bin .sub .num (.t 29) (cI 1)) 22 true),[]⟩,
 ⟨12,none,(oG 31 (iA 3 28 30) 22 true),[]⟩,
 ⟨13,none,(oG 32 (.load (some 3) (.t 31)) 22 true),[]⟩,
 ⟨14,none,(oG 33 (.dyn (.t 23) [(.t 27),(.t 32)]) 22 true),[]⟩,
 ⟨15,none,(oG 34 (.bin .lss .num (.t 33) (cI 0)) 22 true),[]⟩,
 ⟨16,none,(oG 35 (.un .not (.t 34)) 22 true),[]⟩,
 ⟨17,none,(oP 36 (.pick (.t 22) (.t 35) (cB false))),[]⟩])
 (kL [0,1,2,3,9,10,36] 0 (.cond (.t 36)
 (.skip)
 (.exit 2))))
 (kL [0,1,2,3,9,10] 0 (.block 3 (.region [
 mV 37 9,
 oP 38 (.bin .add .num (.t 37) (cI 1)),
 mV 9 38])))))))
 (kL [0,1,2,3,9,10] 0 (.seq (.seq (.region [
 mV 39 9,
 mV 40 2,
 oP 41 (.bin .eql .num (.t 39) (.t 40))])
 (kL [0,1,2,3,9,10,41] 0 (.cond (.t 41)
 (.seq (.region [
 oP 8 (.mov (cB true))])
 (.ret))
 (.skip))))
 (kL [0,1,2,3,9,10] 0 (.seq (.seq (.region [
 mV 42 2,
 mV 43 1,
 oP 44 (.bin .sub .num (.t 42) (.t 43)),
 oP 45 (.bin .lss .num (.t 44) (cI 50))])
 (kL [0,1,2,3,9,10,45] 0 (.cond (.t 45)
 (.seq (.region [
 oP 8 (.mov (cB false))])
 (.ret))
 (.skip))))
 (kL [0,1,2,3,9,10] 0 (.seq (.draw 0 [
 ⟨0,none,(mV 46 0),[]⟩,
 ⟨1,none,(mV 47 9),[]⟩,
 ⟨2,none,(mV 48 0),[]⟩,
 ⟨3,none,(mV 49 9),[]⟩,
 ⟨4,none,(oP 50 (.bin .sub .num (.t 49) (cI 1))),[]⟩,
 ⟨5,none,(mV 51 0),[]⟩,
 ⟨6,none,(mV 52 9),[]⟩,
 ⟨7,none,(oP 53 (.bin .sub .num (.t 52) (cI 1))),[]⟩,
 ⟨8,none,(oP 54 (iA 3 51 53)),[]⟩,
 ⟨9,none,(oP 55 (.load (some 3) (.t 54))),[]⟩,
 ⟨10,none,(mV 56 0),[]⟩,
 ⟨11,none,(mV 57 9),[]⟩,
 ⟨12,none,(oP 58 (iA 3 56 57)),[]⟩,
 ⟨13,none,(oP 59 (.load (some 3) (.t 58))),[]⟩,
 ⟨14,none,(oP 60 (iA 3 46 47)),[]⟩,
 ⟨15,none,(oW (.store 3 (.t 60) (.t 55))),[]⟩,
 ⟨16,none,(oP 61 (iA 3 48 50)),[]⟩,
 ⟨17,none,(oW (.store 3 (.t 61) (.t 59))),[]⟩])
 (kL [0,1,2,3,9,10] 0 (.seq (.seq (.region [
 mV 62 9,
 mV 63 1,
 oP 64 (.bin .sub .num (.t 62) (.t 63)),
 oP 65 (.bin .geq .num (.t 64) (cI 2))])
 (kL [0,1,2,3,9,10,65] 0 (.cond (.t 65)
 (.seq (.region [
 mV 66 9,
 oP 67 (.bin .sub .num (.t 66) (cI 1)),
 mV 11 67])
 (kL [0,1,2,3,9,10,11] 0 (.block 4 (.loop (kL [0,1,2,3,9,10,11] 0 (.seq (.seq (.region [
 mV 68 11,
 oP 69 (.bin .geq .num (.t 68) (cI 1))])
 (kL [0,1,2,3,9,10,11,69] 0 (.cond (.t 69)
 (.skip)
 (.exit 4))))
 (kL [0,1,2,3,9,10,11] 0 (.seq (.block 5 (.seq (.seq (.draw 0 [
 ⟨0,none,(mV 72 3),[]⟩,
 ⟨1,none,(mV 73 0),[]⟩,
 ⟨2,none,(mV 74 11),[]⟩,
 ⟨3,none,(oP 75 (iA 3 73 74)),[]⟩,
 ⟨4,none,(oP 76 (.load (some 3) (.t 75))),[]⟩,
 ⟨5,none,(mV 77 0),[]⟩,
 ⟨6,none,(mV 78 11),[]⟩,
 ⟨7,none,(oP 79 (.bin .sub .num (.t 78) (cI 1))),[]⟩,
 ⟨8,none,(oP 80 (iA 3 77 79)),[]⟩,
 ⟨9,none,(oP 81 (.load (some 3) (.t 80))),[]⟩,
 ⟨10,none,(oP 82 (.dyn (.t 72) [(.t 76),(.t 81)])),[]⟩,
 ⟨11,none,(oP 83 (.bin .lss .num (.t 82) (cI 0))),[]⟩,
 ⟨12,none,(oP 84 (.un .not (.t 83))),[]⟩])
 (kL [0,1,2,3,9,10,11,84] 0 (.cond (.t 84)
 (.exit 4)
 (.skip))))
 (kL [0,1,2,3,9,10,11] 0 (.draw 0 [
 ⟨0,none,(mV 85 0),[]⟩,
 ⟨1,none,(mV 86 11),[]⟩,
 ⟨2,none,(mV 87 0),[]⟩,
 ⟨3,none,(mV 88 11),[]⟩,
 ⟨4,none,(oP 89 (.bin .sub .num (.t 88) (cI 1))),[]⟩,
 ⟨5,none,(mV 90 0),[]⟩,
 ⟨6,none,(mV 91 11),[]⟩,
 ⟨7,none,(oP 92 (.bin .sub .num (.t 91) (cI 1))),[]⟩,
 ⟨8,none,(oP 93 (iA 3 90 92)),[]⟩,
 ⟨9,none,(oP 94 (.load (some 3) (.t 93))),[]⟩,
 ⟨10,none,(mV 95 0),[]⟩,
 ⟨11,none,(mV 96 11),[]⟩,
 ⟨12,none,(oP 97 (iA 3 95 96)),[]⟩,
 ⟨13,none,(oP 98 (.load (some 3) (.t 97))),[]⟩,
 ⟨14,none,(oP 99 (iA 3 85 86)),[]⟩,
 ⟨15,none,(oW (.store 3 (.t 99) (.t 94))),[]⟩,
 ⟨16,none,(oP 100 (iA 3 87 89)),[]⟩,
 ⟨17,none,(oW (.store 3 (.t 100) (.t 98))),[]⟩]))))
 (kL [0,1,2,3,9,10,11] 0 (.region [
 mV 70 11,
 oP 71 (.bin .sub .num (.t 70) (cI 1)),
 mV 11 71]))))))))))
 (.skip))))
 (kL [0,1,2,3,9,10] 0 (.seq (.region [
 mV 101 2,
 mV 102 9,
 oP 103 (.bin .sub .num (.t 101) (.t 102)),
 oP 104 (.bin .geq .num (.t 103) (cI 2))])
 (kL [0,1,2,3,9,10,104] 0 (.cond (.t 104)
 (.seq (.region [
 mV 105 9,
 oP 106 (.bin .add .num (.t 105) (cI 1)),
 mV 12 106])
 (kL [0,1,2,3,9,10,12] 0 (.block 6 (.loop (kL [0,1,2,3,9,10,12] 0 (.seq (.seq (.region [
 mV 107 12,
 mV 108 2,
 oP 109 (.bin .lss .num (.t 107) (.t 108))])
 (kL [0,1,2,3,9,10,12,109] 0 (.cond (.t 109)
 (.skip)
 (.exit 6))))
 (kL [0,1,2,3,9,10,12] 0 (.seq (.block 7 (.seq (.seq (.draw 0 [
 ⟨0,none,(mV 112 3),[]⟩,
 ⟨1,none,(mV 113 0),[]⟩,
 ⟨2,none,(mV 114 12),[]⟩,
 ⟨3,none,(oP 115 (iA 3 113 114)),[]⟩,
 ⟨4,none,(oP 116 (.load (some 3) (.t 115))),[]⟩,
 ⟨5,none,(mV 117 0),[]⟩,
 ⟨6,none,(mV 118 12),[]⟩,
 ⟨7,none,(oP 119 (.bin .sub .num (.t 118) (cI 1))),[]⟩,
 ⟨8,none,(oP 120 (iA 3 117 119)),[]⟩,
 ⟨9,none,(oP 121 (.load (some 3) (.t 120))),[]⟩,
 ⟨10,none,(oP 122 (.dyn (.t 112) [(.t 116),(.t 121)])),[]⟩,
 ⟨11,none,(oP 123 (.bin .lss .num (.t 122) (cI 0))),[]⟩,
 ⟨12,none,(oP 124 (.un .not (.t 123))),[]⟩])
 (kL [0,1,2,3,9,10,12,124] 0 (.cond (.t 124)
 (.exit 6)
 (.skip))))
 (kL [0,1,2,3,9,10,12] 0 (.draw 0 [
 ⟨0,none,(mV 125 0),[]⟩,
 ⟨1,none,(mV 126 12),[]⟩,
 ⟨2,none,(mV 127 0),[]⟩,
 ⟨3,none,(mV 128 12),[]⟩,
 ⟨4,none,(oP 129 (.bin .sub .num (.t 128) (cI 1))),[]⟩,
 ⟨5,none,(mV 130 0),[]⟩,
 ⟨6,none,(mV 131 12),[]⟩,
 ⟨7,none,(oP 132 (.bin .sub .num (.t 131) (cI 1))),[]⟩,
 ⟨8,none,(oP 133 (iA 3 130 132)),[]⟩,
 ⟨9,none,(oP 134 (.load (some 3) (.t 133))),[]⟩,
 ⟨10,none,(mV 135 0),[]⟩,
 ⟨11,none,(mV 136 12),[]⟩,
 ⟨12,none,(oP 137 (iA 3 135 136)),[]⟩,
 ⟨13,none,(oP 138 (.load (some 3) (.t 137))),[]⟩,
 ⟨14,none,(oP 139 (iA 3 125 126)),[]⟩,
 ⟨15,none,(oW (.store 3 (.t 139) (.t 134))),[]⟩,
 ⟨16,none,(oP 140 (iA 3 127 129)),[]⟩,
 ⟨17,none,(oW (.store 3 (.t 140) (.t 138))),[]⟩]))))
 (kL [0,1,2,3,9,10,12] 0 (.region [
 mV 110 12,
 oP 111 (.bin .add .num (.t 110) (cI 1)),
 mV 12 111]))))))))))
 (.skip)))))))))))))))
 (kL [0,1,2,3,9,10] 0 (.region [
 mV 17 10,
 oP 18 (.bin .add .num (.t 17) (cI 1)),
 mV 10 18]))))))))))
 (kL [] 0 (.seq (.region [
 oP 8 (.mov (cB false))])
 (.ret)))))))⟩
def n105:NF:=⟨90,[10],
 .seq (.region [
 oP 10 (.mov (cI 0))])
 (kL [0,1,2,3,4] 0 (.seq (.draw 0 [
 ⟨0,none,(mV 13 0),[]⟩,
 ⟨1,none,(mV 14 1),[]⟩,
 ⟨2,none,(mV 15 0),[]⟩,
 ⟨3,none,(mV 16 3),[]⟩,
 ⟨4,none,(mV 17 0),[]⟩,
 ⟨5,none,(mV 18 3),[]⟩,
 ⟨6,none,(oP 19 (iA 3 17 18)),[]⟩,
 ⟨7,none,(oP 20 (.load (some 3) (.t 19))),[]⟩,
 ⟨8,none,(mV 21 0),[]⟩,
 ⟨9,none,(mV 22 1),[]⟩,
 ⟨10,none,(oP 23 (iA 3 21 22)),[]⟩,
 ⟨11,none,(oP 24 (.load (some 3) (.t 23))),[]⟩,
 ⟨12,none,(oP 25 (iA 3 13 14)),[]⟩,
 ⟨13,none,(oW (.store 3 (.t 25) (.t 20))),[]⟩,
 ⟨14,none,(oP 26 (iA 3 15 16)),[]⟩,
 ⟨15,none,(oW (.store 3 (.t 26) (.t 24))),[]⟩])
 (kL [0,1,2,4] 0 (.seq (.region [
 mV 27 1,
 oP 28 (.bin .add .num (.t 27) (cI 1)),
 mV 29 2,
 oP 30 (.bin .sub .num (.t 29) (cI 1)),
 mV 11 28,
 mV 12 30])
 (kL [0,1,4,11,12] 0 (.seq (.block 0 (.loop (kL [0,1,4,11,12] 0 (.block 1 (.seq (.block 2 (.loop (kL [0,1,4,11,12] 0 (.seq (.seq (.draw 0 [
 ⟨0,none,(mV 31 11),[]⟩,
 ⟨1,none,(mV 32 12),[]⟩,
 ⟨2,none,(oP 33 (.bin .leq .num (.t 31) (.t 32))),[]⟩,
 ⟨3,none,(mV 34 33),[]⟩,
 ⟨4,none,(mG 35 4 34 true),[]⟩,
 ⟨5,none,(mG 36 0 34 true),[]⟩,
 ⟨6,none,(mG 37 1 34 true),[]⟩,
 ⟨7,none,(oG 38 (iA 3 36 37) 34 true),[]⟩,
 ⟨8,none,(oG 39 (.load (some 3) (.t 38)) 34 true),[]⟩,
 ⟨9,none,(mG 40 0 34 true),[]⟩,
 ⟨10,none,(mG 41 11 34 true),[]⟩,
 ⟨11,none,(oG 42 (iA 3 40 41) 34 true),[]⟩,
 ⟨12,none,(oG 43 (.load (some 3) (.t 42)) 34 true),[]⟩,
 ⟨13,none,(oG 44 (.dyn (.t 35) [(.t 39),(.t 43)]) 34 true),[]⟩,
 ⟨14,none,(oG 45 (.bin .lss .num (.t 44) (cI 0)) 34 true),[]⟩,
 ⟨15,none,(oG 46 (.un .not (.t 45)) 34 true),[]⟩,
 ⟨16,none,(oP 47 (.pick (.t 34) (.t 46) (cB false))),[]⟩])
 (kL [0,1,4,11,12,47] 0 (.cond (.t 47)
 (.skip)
 (.exit 2))))
 (kL [0,1,4,11,12] 0 (.block 3 (.region [
 mV 48 11,
 oP 49 (.bin .add .num (.t 48) (cI 1)),
 mV 11 49])))))))
 (kL [0,1,4,11,12] 0 (.seq (.block 4 (.loop (kL [0,1,4,11,12] 0 (.seq (.seq (.draw 0 [
 ⟨0,none,(mV 50 11),[]⟩,
 ⟨1,none,(mV 51 12),[]⟩,
 ⟨2,none,(oP 52 (.bin .leq .num (.t 50) (.t 51))),[]⟩,
 ⟨3,none,(mV 53 52),[]⟩,
 ⟨4,none,(mG 54 4 53 true),[]⟩,
 ⟨5,none,(mG 55 0 53 true),[]⟩,
 ⟨6,none,(mG 56 1 53 true),[]⟩,
 ⟨7,none,(oG 57 (iA 3 55 56) 53 true),[]⟩,
 ⟨8,none,(oG 58 (.load (some 3) (.t 57)) 53 true),[]⟩,
 ⟨9,none,(mG 59 0 53 true),[]⟩,
 ⟨10,none,(mG 60 12 53 true),[]⟩,
 ⟨11,none,(oG 61 (iA 3 59 60) 53 true),[]⟩,
 ⟨12,none,(oG 62 (.load (some 3) (.t 61)) 53 true),[]⟩,
 ⟨13,none,(oG 63 (.dyn (.t 54) [(.t 58),(.t 62)]) 53 true),[]⟩,
 ⟨14,none,(oG 64 (.bin .lss .num (.t 63) (cI 0)) 53 true),[]⟩,
 ⟨15,none,(oP 65 (.pick (.t 53) (.t 64) (cB false))),[]⟩])
 (kL [0,1,4,11,12,65] 0 (.cond (.t 65)
 (.skip)
 (.exit 4))))
 (kL [0,1,4,11,12] 0 (.block 5 (.region [
 mV 66 12,
 oP 67 (.bin .sub .num (.t 66) (cI 1)),
 mV 12 67])))))))
 (kL [0,1,4,11,12] 0 (.seq (.seq (.region [
 mV 68 11,
 mV 69 12,
 oP 70 (.bin .gtr .num (.t 68) (.t 69))])
 (kL [0,1,4,11,12,70] 0 (.cond (.t 70)
 (.exit 0)
 (.skip))))
 (kL [0,1,4,11,12] 0 (.seq (.draw 0 [
 ⟨0,none,(mV 71 0),[]⟩,
 ⟨1,none,(mV 72 11),[]⟩,
 ⟨2,none,(mV 73 0),[]⟩,
 ⟨3,none,(mV 74 12),[]⟩,
 ⟨4,none,(mV 75 0),[]⟩,
 ⟨5,none,(mV 76 12),[]⟩,
 ⟨6,none,(oP 77 (iA 3 75 76)),[]⟩,
 ⟨7,none,(oP 78 (.load (some 3) (.t 77))),[]⟩,
 ⟨8,none,(mV 79 0),[]⟩,
 ⟨9,none,(mV 80 11),[]⟩,
 ⟨10,none,(oP 81 (iA 3 79 80)),[]⟩,
 ⟨11,none,(oP 82 (.load (some 3) (.t 81))),[]⟩,
 ⟨12,none,(oP 83 (iA 3 71 72)),[]⟩,
 ⟨13,none,(oW (.store 3 (.t 83) (.t 78))),[]⟩,
 ⟨14,none,(oP 84 (iA 3 73 74)),[]⟩,
 ⟨15,none,(oW (.store 3 (.t 84) (.t 82))),[]⟩])
 (kL [0,1,4,11,12] 0 (.seq (.region [
 mV 85 11,
 oP 86 (.bin .add .num (.t 85) (cI 1)),
 mV 11 86])
 (kL [0,1,4,11,12] 0 (.region [
 mV 87 12,
 oP 88 (.bin .sub .num (.t 87) (cI 1)),
 mV 12 88])))))))))))))))
 (kL [11] 0 (.seq (.region [
 mV 89 11,
 mV 10 89])
 (.ret)))))))))⟩
def n106:NF:=⟨178,[10,11],
 .seq (.region [
 oP 10 (.mov (cI 0)),
 oP 11 (.mov (cB false))])
 (kL [0,1,2,3,4] 0 (.seq (.draw 0 [
 ⟨0,none,(mV 14 0),[]⟩,
 ⟨1,none,(mV 15 1),[]⟩,
 ⟨2,none,(mV 16 0),[]⟩,
 ⟨3,none,(mV 17 3),[]⟩,
 ⟨4,none,(mV 18 0),[]⟩,
 ⟨5,none,(mV 19 3),[]⟩,
 ⟨6,none,(oP 20 (iA 3 18 19)),[]⟩,
 ⟨7,none,(oP 21 (.load (some 3) (.t 20))),[]⟩,
 ⟨8,none,(mV 22 0),[]⟩,
 ⟨9,none,(mV 23 1),[]⟩,
 ⟨10,none,(oP 24 (iA 3 22 23)),[]⟩,
 ⟨11,none,(oP 25 (.load (some 3) (.t 24))),[]⟩,
 ⟨12,none,(oP 26 (iA 3 14 15)),[]⟩,
 ⟨13,none,(oW (.store 3 (.t 26) (.t 21))),[]⟩,
 ⟨14,none,(oP 27 (iA 3 16 17)),[]⟩,
 ⟨15,none,(oW (.store 3 (.t 27) (.t 25))),[]⟩])
 (kL [0,1,2,4] 0 (.seq (.region [
 mV 28 1,
 oP 29 (.bin .add .num (.t 28) (cI 1)),
 mV 30 2,
 oP 31 (.bin .sub .num (.t 30) (cI 1)),
 mV 12 29,
 mV 13 31])
 (kL [0,1,4,12,13] 0 (.seq (.block 0 (.loop (kL [0,1,4,12,13] 0 (.seq (.seq (.draw 0 [
 ⟨0,none,(mV 32 12),[]⟩,
 ⟨1,none,(mV 33 13),[]⟩,
 ⟨2,none,(oP 34 (.bin .leq .num (.t 32) (.t 33))),[]⟩,
 ⟨3,none,(mV 35 34),[]⟩,
 ⟨4,none,(mG 36 4 35 true),[]⟩,
 ⟨5,none,(mG 37 0 35 true),[]⟩,
 ⟨6,none,(mG 38 12 35 true),[]⟩,
 ⟨7,none,(oG 39 (iA 3 37 38) 35 true),[]⟩,
 ⟨8,none,(oG 40 (.load (some 3) (.t 39)) 35 true),[]⟩,
 ⟨9,none,(mG 41 0 35 true),[]⟩,
 ⟨10,none,(mG 42 1 35 true),[]⟩,
 ⟨11,none,(oG 43 (iA 3 41 42) 35 true),[]⟩,
 ⟨12,none,(oG 44 (.load (some 3) (.t 43)) 35 true),[]⟩,
 ⟨13,none,(oG 45 (.dyn (.t 36) [(.t 40),(.t 44)]) 35 true),[]⟩,
 ⟨14,none,(oG 46 (.bin .lss .num (.t 45) (cI 0)) 35 true),[]⟩,
 ⟨15,none,(oP 47 (.pick (.t 35) (.t 46) (cB false))),[]⟩])
 (kL [0,1,4,12,13,47] 0 (.cond (.t 47)
 (.skip)
 (.exit 0))))
 (kL [0,1,4,12,13] 0 (.block 1 (.region [
 mV 48 12,
 oP 49 (.bin .add .num (.t 48) (cI 1)),
 mV 12 49])))))))
 (kL [0,1,4,12,13] 0 (.seq (.block 2 (.loop (kL [0,1,4,12,13] 0 (.seq (.seq (.draw 0 [
 ⟨0,none,(mV 50 12),[]⟩,
 ⟨1,none,(mV 51 13),[]⟩,
 ⟨2,none,(oP 52 (.bin .leq .num (.t 50) (.t 51))),[]⟩,
 ⟨3,none,(mV 53 52),[]⟩,
 ⟨4,none,(mG 54 4 53 true),[]⟩,
 ⟨5,none,(mG 55 0 53 true),[]⟩,
 ⟨6,none,(mG 56 13 53 true),[]⟩,
 ⟨7,none,(oG 57 (iA 3 55 56) 53 true),[]⟩,
 ⟨8,none,(oG 58 (.load (some 3) (.t 57)) 53 true),[]⟩,
 ⟨9,none,(mG 59 0 53 true),[]⟩,
 ⟨10,none,(mG 60 1 53 true),[]⟩,
 ⟨11,none,(oG 61 (iA 3 59 60) 53 true),[]⟩,
 ⟨12,none,(oG 62 (.load (some 3) (.t 61)) 53 true),[]⟩,
 ⟨13,none,(oG 63 (.dyn (.t 54) [(.t 58),(.t 62)]) 53 true),[]⟩,
 ⟨14,none,(oG 64 (.bin .lss .num (.t 63) (cI 0)) 53 true),[]⟩,
 ⟨15,none,(oG 65 (.un .not (.t 64)) 53 true),[]⟩,
 ⟨16,none,(oP 66 (.pick (.t 53) (.t 65) (cB false))),[]⟩])
 (kL [0,1,4,12,13,66] 0 (.cond (.t 66)
 (.skip)
 (.exit 2))))
 (kL [0,1,4,12,13] 0 (.block 3 (.region [
 mV 67 13,
 oP 68 (.bin .sub .num (.t 67) (cI 1)),
 mV 13 68])))))))
 (kL [0,1,4,12,13] 0 (.seq (.seq (.region [
 mV 69 12,
 mV 70 13,
 oP 71 (.bin .gtr .num (.t 69) (.t 70))])
 (kL [0,1,4,12,13,71] 0 (.cond (.t 71)
 (.seq (.draw 0 [
 ⟨0,none,(mV 72 0),[]⟩,
 ⟨1,none,(mV 73 13),[]⟩,
 ⟨2,none,(mV 74 0),[]⟩,
 ⟨3,none,(mV 75 1),[]⟩,
 ⟨4,none,(mV 76 0),[]⟩,
 ⟨5,none,(mV 77 1),[]⟩,
 ⟨6,none,(oP 78 (iA 3 76 77)),[]⟩,
 ⟨7,none,(oP 79 (.load (some 3) (.t 78))),[]⟩,
 ⟨8,none,(mV 80 0),[]⟩,
 ⟨9,none,(mV 81 13),[]⟩,
 ⟨10,none,(oP 82 (iA 3 80 81)),[]⟩,
 ⟨11,none,(oP 83 (.load (some 3) (.t 82))),[]⟩,
 ⟨12,none,(oP 84 (iA 3 72 73)),[]⟩,
 ⟨13,none,(oW (.store 3 (.t 84) (.t 79))),[]⟩,
 ⟨14,none,(oP 85 (iA 3 74 75)),[]⟩,
 ⟨15,none,(oW (.store 3 (.t 85) (.t 83))),[]⟩])
 (kL [13] 0 (.seq (.region [
 mV 86 13,
 mV 10 86,
 oP 11 (.mov (cB true))])
 (.ret))))
 (.skip))))
 (kL [0,1,4,12,13] 0 (.seq (.draw 0 [
 ⟨0,none,(mV 87 0),[]⟩,
 ⟨1,none,(mV 88 12),[]⟩,
 ⟨2,none,(mV 89 0),[]⟩,
 ⟨3,none,(mV 90 13),[]⟩,
 ⟨4,none,(mV 91 0),[]⟩,
 ⟨5,none,(mV 92 13),[]⟩,
 ⟨6,none,(oP 93 (iA 3 91 92)),[]⟩,
 ⟨7,none,(oP 94 (.load (some 3) (.t 93))),[]⟩,
 ⟨8,none,(mV 95 0),[]⟩,
 ⟨9,none,(mV 96 12),[]⟩,
 ⟨10,none,(oP 97 (iA 3 95 96)),[]⟩,
 ⟨11,none,(oP 98 (.load (some 3) (.t 97))),[]⟩,
 ⟨12,none,(oP 99 (iA 3 87 88)),[]⟩,
 ⟨13,none,(oW (.store 3 (.t 99) (.t 94))),[]⟩,
 ⟨14,none,(oP 100 (iA 3 89 90)),[]⟩,
 ⟨15,none,(oW (.store 3 (.t 100) (.t 98))),[]⟩])
 (kL [0,1,4,12,13] 0 (.seq (.region [
 mV 101 12,
 oP 102 (.bin .add .num (.t 101) (cI 1)),
 mV 12 102])
 (kL [0,1,4,12,13] 0 (.seq (.region [
 mV 103 13,
 oP 104 (.bin .sub .num (.t 103) (cI 1)),
 mV 13 104])
 (kL [0,1,4,12,13] 0 (.seq (.block 4 (.loop (kL [0,1,4,12,13] 0 (.block 5 (.seq (.block 6 (.loop (kL [0,1,4,12,13] 0 (.seq (.seq (.draw 0 [
 ⟨0,none,(mV 105 12),[]⟩,
 ⟨1,none,(mV 106 13),[]⟩,
 ⟨2,none,(oP 107 (.bin .leq .num (.t 105) (.t 106))),[]⟩,
 ⟨3,none,(mV 108 107),[]⟩,
 ⟨4,none,(mG 109 4 108 true),[]⟩,
 ⟨5,none,(mG 110 0 108 true),[]⟩,
 ⟨6,none,(mG 111 12 108 true),[]⟩,
 ⟨7,none,(oG 112 (iA 3 110 111) 108 true),[]⟩,
 ⟨8,none,(oG 113 (.load (some 3) (.t 112)) 108 true),[]⟩,
 ⟨9,none,(mG 114 0 108 true),[]⟩,
 ⟨10,none,(mG 115 1 108 true),[]⟩,
 ⟨11,none,(oG 116 (iA 3 114 115) 108 true),[]⟩,
 ⟨12,none,(oG 117 (.load (some 3) (.t 116)) 108 true),[]⟩,
 ⟨13,none,(oG 118 (.dyn (.t 109) [(.t 113),(.t 117)]) 108 true),[]⟩,
 ⟨14,none,(oG 119 (.bin .lss .num (.t 118) (cI 0)) 108 true),[]⟩,
 ⟨15,none,(oP 120 (.pick (.t 108) (.t 119) (cB false))),[]⟩])
 (kL [0,1,4,12,13,120] 0 (.cond (.t 120)
 (.skip)
 (.exit 6))))
 (kL [0,1,4,12,13] 0 (.block 7 (.region [
 mV 121 12,
 oP 122 (.bin .add .num (.t 121) (cI 1)),
 mV 12 122])))))))
 (kL [0,1,4,12,13] 0 (.seq (.block 8 (.loop (kL [0,1,4,12,13] 0 (.seq (.seq (.draw 0 [
 ⟨0,none,(mV 123 12),[]⟩,
 ⟨1,none,(mV 124 13),[]⟩,
 ⟨2,none,(oP 125 (.bin .leq .num (.t 123) (.t 124))),[]⟩,
 ⟨3,none,(mV 126 125),[]⟩,
 ⟨4,none,(mG 127 4 126 true),[]⟩,
 ⟨5,none,(mG 128 0 126 true),[]⟩,
 ⟨6,none,(mG 129 13 126 true),[]⟩,
 ⟨7,none,(oG 130 (iA 3 128 129) 126 true),[]⟩,
 ⟨8,none,(oG 131 (.load (some 3) (.t 130)) 126 true),[]⟩,
 ⟨9,none,(mG 132 0 126 true),[]⟩,
 ⟨10,none,(mG 133 1 126 true),[]⟩,
 ⟨11,none,(oG 134 (iA 3 132 133) 126 true),[]⟩,
 ⟨12,none,(oG 135 (.load (some 3) (.t 134)) 126 true),[]⟩,
 ⟨13,none,(oG 136 (.dyn (.t 127) [(.t 131),(.t 135)]) 126 true),[]⟩,
 ⟨14,none,(oG 137 (.bin .lss .num (.t 136) (cI 0)) 126 true),[]⟩,
 ⟨15,none,(oG 138 (.un .not (.t 137)) 126 true),[]⟩,
 ⟨16,none,(oP 139 (.pick (.t 126) (.t 138) (cB false))),[]⟩])
 (kL [0,1,4,12,13,139] 0 (.cond (.t 139)
 (.skip)
 (.exit 8))))
 (kL [0,1,4,12,13] 0 (.block 9 (.region [
 mV 140 13,
 oP 141 (.bin .sub .num (.t 140) (cI 1)),
 mV 13 141])))))))
 (kL [0,1,4,12,13] 0 (.seq (.seq (.region [
 mV 142 12,
 mV 143 13,
 oP 144 (.bin .gtr .num (.t 142) (.t 143))])
 (kL [0,1,4,12,13,144] 0 (.cond (.t 144)
 (.exit 4)
 (.skip))))
 (kL [0,1,4,12,13] 0 (.seq (.draw 0 [
 ⟨0,none,(mV 145 0),[]⟩,
 ⟨1,none,(mV 146 12),[]⟩,
 ⟨2,none,(mV 147 0),[]⟩,
 ⟨3,none,(mV 148 13),[]⟩,
 ⟨4,none,(mV 149 0),[]⟩,
 ⟨5,none,(mV 150 13),[]⟩,
 ⟨6,none,(oP 151 (iA 3 149 150)),[]⟩,
 ⟨7,none,(oP 152 (.load (some 3) (.t 151))),[]⟩,
 ⟨8,none,(mV 153 0),[]⟩,
 ⟨9,none,(mV 154 12),[]⟩,
 ⟨10,none,(oP 155 (iA 3 153 154)),[]⟩,
 ⟨11,none,(oP 156 (.load (some 3) (.t 155))),[]⟩,
 ⟨12,none,(oP 157 (iA 3 145 146)),[]⟩,
 ⟨13,none,(oW (.store 3 (.t 157) (.t 152))),[]⟩,
 ⟨14,none,(oP 158 (iA 3 147 148)),[]⟩,
 ⟨15,none,(oW (.store 3 (.t 158) (.t 156))),[]⟩])
 (kL [0,1,4,12,13] 0 (.seq (.region [
 mV 159 12,
 oP 160 (.bin .add .num (.t 159) (cI 1)),
 mV 12 160])
 (kL [0,1,4,12,13] 0 (.region [
 mV 161 13,
 oP 162 (.bin .sub .num (.t 161) (cI 1)),
 mV 13 162])))))))))))))))
 (kL [0,1,13] 0 (.seq (.draw 0 [
 ⟨0,none,(mV 163 0),[]⟩,
 ⟨1,none,(mV 164 13),[]⟩,
 ⟨2,none,(mV 165 0),[]⟩,
 ⟨3,none,(mV 166 1),[]⟩,
 ⟨4,none,(mV 167 0),[]⟩,
 ⟨5,none,(mV 168 1),[]⟩,
 ⟨6,none,(oP 169 (iA 3 167 168)),[]⟩,
 ⟨7,none,(oP 170 (.load (some 3) (.t 169))),[]⟩,
 ⟨8,none,(mV 171 0),[]⟩,
 ⟨9,none,(mV 172 13),[]⟩,
 ⟨10,none,(oP 173 (iA 3 171 172)),[]⟩,
 ⟨11,none,(oP 174 (.load (some 3) (.t 173))),[]⟩,
 ⟨12,none,(oP 175 (iA 3 163 164)),[]⟩,
 ⟨13,none,(oW (.store 3 (.t 175) (.t 170))),[]⟩,
 ⟨14,none,(oP 176 (iA 3 165 166)),[]⟩,
 ⟨15,none,(oW (.store 3 (.t 176) (.t 174))),[]⟩])
 (kL [13] 0 (.seq (.region [
 mV 177 13,
 mV 10 177,
 oP 11 (.mov (cB false))])
 (.ret)))))))))))))))))))))))⟩
def n205:NF:=⟨28,[],
 .seq (.region [
 mV 4 0,
 oP 5 (.len .sl (.t 4)),
 oP 6 (.bin .sub .num (.t 5) (cI 1)),
 oP 2 (.mov (cI 0)),
 mV 3 6])
 (kL [0,2,3] 0 (.block 0 (.loop (kL [0,2,3] 0 (.seq (.seq (.region [
 mV 7 2,
 mV 8 3,
 oP 9 (.bin .lss .num (.t 7) (.t 8))])
 (kL [0,2,3,9] 0 (.cond (.t 9)
 (.skip)
 (.exit 0))))
 (kL [0,2,3] 0 (.seq (.block 1 (.draw 0 [
 ⟨0,none,(mV 14 0),[]⟩,
 ⟨1,none,(mV 15 2),[]⟩,
 ⟨2,none,(mV 16 0),[]⟩,
 ⟨3,none,(mV 17 3),[]⟩,
 ⟨4,none,(mV 18 0),[]⟩,
 ⟨5,none,(mV 19 3),[]⟩,
 ⟨6,none,(oP 20 (iA 1 18 19)),[]⟩,
 ⟨7,none,(oP 21 (lD 20)),[]⟩,
 ⟨8,none,(mV 22 0),[]⟩,
 ⟨9,none,(mV 23 2),[]⟩,
 ⟨10,none,(oP 24 (iA 1 22 23)),[]⟩,
 ⟨11,none,(oP 25 (lD 24)),[]⟩,
 ⟨12,none,(oP 26 (iA 1 14 15)),[]⟩,
 ⟨13,none,(oW (.store 1 (.t 26) (.t 21))),[]⟩,
 ⟨14,none,(oP 27 (iA 1 16 17)),[]⟩,
 ⟨15,none,(oW (.store 1 (.t 27) (.t 25))),[]⟩]))
 (kL [0,2,3] 0 (.region [
 mV 10 2,
 oP 11 (.bin .add .num (.t 10) (cI 1)),
 mV 12 3,
 oP 13 (.bin .sub .num (.t 12) (cI 1)),
 mV 2 11,
 mV 3 13])))))))))⟩
def n431b:Code:=
 .seq (.region [
 oP 2 (.box true 6 (.t 0)),
 oP 4 (.box false 6 (.c (.agg [(.int .i64 0),(.int .i64 0),(.int .i64 0),(.int .i64 0),.nils,.nils]))),
 oP 5 (.mov (cI 0))])
 (kL [1,2,4] 1 (.seq (.block 0 (.seq (.region [
 oP 7 (.load (some 6) (.t 2)),
 oP 8 (.call 289 [(.t 7)]),
 oP 9 (.un .not (.t 8)),
 mV 10 9,
 mG 11 1 10 false,
 oG 12 (.call 306 [(.t 11)]) 10 false,
 oG 13 (.un .not (.t 12)) 10 false,
 oP 14 (.pick (.t 10) (cB true) (.t 13)),
 mV 6 14])
 (kL [2,4,6] 1 (.cond (.t 6)
 (.seq (.region [
 oP 15 (.build [(.int .i64 0),(.int .i64 0),(.int .i64 0),(.int .i64 0),.nils,.nils] []),
 oW (.store 6 (.t 4) (.t 15)),
 oP 5 (.mov (cI 1))])
 (.ret))
 (.seq (.region [
 oP 17 (.faddr 3 (.t 2)),
 oP 18 (lD 17),
 oP 19 (.bin .eql .num (.t 18) (cI 0)),
 mV 16 19])
 (kL [2,4,16] 1 (.cond (.t 16)
 (.seq (.region [
 oP 20 (.build [(.int .i64 0),(.int .i64 0),(.int .i64 0),(.int .i64 0),.nils,.nils] []),
 oW (.store 6 (.t 4) (.t 20)),
 oP 5 (.mov (cI 11))])
 (.ret))
 (.skip))))))))
 (kL [2,4] 1 (.seq (.region [
 oP 21 (.load (some 6) (.t 2)),
 oP 22 (.call 432 [(.t 21)]),
 oW (.store 6 (.t 2) (.t 22))])
 (kL [2,4] 1 (.seq (.region [
 oP 23 (.faddr 3 (.t 2)),
 oP 24 (lD 23),
 oP 25 (.bin .sub .num (.t 24) (cI 1)),
 oP 26 (.faddr 3 (.t 2)),
 oW (.store 1 (.t 26) (.t 25))])
 (kL [2,4] 1 (.seq (.region [
 oP 27 (.load (some 6) (.t 2)),
 oW (.store 6 (.t 4) (.t 27)),
 oP 5 (.mov (cI 0))])
 (.ret)))))))))
def n431:NF:=⟨28,[4,5],.fin n431b [⟨some 4,.load (some 6) (.t 4),none⟩]⟩
def n115:NF:=⟨28,[8,9],
 .seq (.region [
 oP 8 (.mov (cI 0)),
 oP 9 (.mov (cI 0))])
 (kL [0,1,2,3] 0 (.seq (.seq (.draw 0 [
 ⟨0,none,(mV 10 0),[]⟩,
 ⟨1,none,(mV 11 2),[]⟩,
 ⟨2,none,(oP 12 (iA 1 10 11)),[]⟩,
 ⟨3,none,(oP 13 (lD 12)),[]⟩,
 ⟨4,none,(mV 14 0),[]⟩,
 ⟨5,none,(mV 15 1),[]⟩,
 ⟨6,none,(oP 16 (iA 1 14 15)),[]⟩,
 ⟨7,none,(oP 17 (lD 16)),[]⟩,
 ⟨8,none,(oP 18 (.call 93 [(.t 13),(.t 17)])),[]⟩])
 (kL [1,2,3,18] 0 (.cond (.t 18)
 (.seq (.region [
 mV 19 3,
 oP 20 (.nilck (.t 19)),
 oP 21 (lD 20),
 oP 22 (.bin .add .num (.t 21) (cI 1)),
 oP 23 (.nilck (.t 19)),
 oW (.store 1 (.t 23) (.t 22))])
 (kL [1,2] 0 (.seq (.region [
 mV 24 2,
 mV 25 1,
 mV 8 24,
 mV 9 25])
 (.ret))))
 (.skip))))
 (kL [1,2] 0 (.seq (.region [
 mV 26 1,
 mV 27 2,
 mV 8 26,
 mV 9 27])
 (.ret)))))⟩
def n112:NF:=⟨82,[],
 .seq (.region [
 mV 12 1,
 mV 10 12])
 (kL [0,2,3,4,10] 0 (.block 0 (.loop (kL [0,2,3,4,10] 0 (.block 1 (.seq (.region [
 mV 13 10,
 oP 14 (.bin .mul .num (cI 2) (.t 13)),
 oP 15 (.bin .add .num (.t 14) (cI 1)),
 mV 11 15])
 (kL [0,2,3,4,10,11] 0 (.seq (.seq (.region [
 mV 16 11,
 mV 17 2,
 oP 18 (.bin .geq .num (.t 16) (.t 17))])
 (kL [0,2,3,4,10,11,18] 0 (.cond (.t 18)
 (.exit 0)
 (.skip))))
 (kL [0,2,3,4,10,11] 0 (.seq (.seq (.draw 0 [
 ⟨0,none,(mV 19 11),[]⟩,
 ⟨1,none,(oP 20 (.bin .add .num (.t 19) (cI 1))),[]⟩,
 ⟨2,none,(mV 21 2),[]⟩,
 ⟨3,none,(oP 22 (.bin .lss .num (.t 20) (.t 21))),[]⟩,
 ⟨4,none,(mV 23 22),[]⟩,
 ⟨5,none,(mG 24 4 23 true),[]⟩,
 ⟨6,none,(mG 25 0 23 true),[]⟩,
 ⟨7,none,(mG 26 3 23 true),[]⟩,
 ⟨8,none,(mG 27 11 23 true),[]⟩,
 ⟨9,none,(oG 28 (.bin .add .num (.t 26) (.t 27)) 23 true),[]⟩,
 ⟨10,none,(oG 29 (iA 3 25 28) 23 true),[]⟩,
 ⟨11,none,(oG 30 (.load (some 3) (.t 29)) 23 true),[]⟩,
 ⟨12,none,(mG 31 0 23 true),[]⟩,
 ⟨13,none,(mG 32 3 23 true),[]⟩,
 ⟨14,none,(mG 33 11 23 true),[]⟩,
 ⟨15,none,(oG 34 (.bin .add .num (.t 32) (.t 33)) 23 true),[]⟩,
 ⟨16,none,(oG 35 (.bin .add .num (.t 34) (cI 1)) 23 true),[]⟩,
 ⟨17,none,(oG 36 (iA 3 31 35) 23 true),[]⟩,
 ⟨18,none,(oG 37 (.load (some 3) (.t 36)) 23 true),[]⟩,
 ⟨19,none,(oG 38 (.dyn (.t 24) [(.t 30),(.t 37)]) 23 true),[]⟩,
 ⟨20,none,(oG 39 (.bin .lss .num (.t 38) (cI 0)) 23 true),[]⟩,
 ⟨21,none,(oP 40 (.pick (.t 23) (.t 39) (cB false))),[]⟩])
 (kL [0,2,3,4,10,11,40] 0 (.cond (.t 40)
 (.region [
 mV 41 11,
 oP 42 (.bin .add .num (.t 41) (cI 1)),
 mV 11 42])
 (.skip))))
 (kL [0,2,3,4,10,11] 0 (.seq (.seq (.draw 0 [
 ⟨0,none,(mV 43 4),[]⟩,
 ⟨1,none,(mV 44 0),[]⟩,
 ⟨2,none,(mV 45 3),[]⟩,
 ⟨3,none,(mV 46 10),[]⟩,
 ⟨4,none,(oP 47 (.bin .add .num (.t 45) (.t 46))),[]⟩,
 ⟨5,none,(oP 48 (iA 3 44 47)),[]⟩,
 ⟨6,none,(oP 49 (.load (some 3) (.t 48))),[]⟩,
 ⟨7,none,(mV 50 0),[]⟩,
 ⟨8,none,(mV 51 3),[]⟩,
 ⟨9,none,(mV 52 11),[]⟩,
 ⟨10,none,(oP 53 (.bin .add .num (.t 51) (.t 52))),[]⟩,
 ⟨11,none,(oP 54 (iA 3 50 53)),[]⟩,
 ⟨12,none,(oP 55 (.load (some 3) (.t 54))),[]⟩,
 ⟨13,none,(oP 56 (.dyn (.t 43) [(.t 49),(.t 55)])),[]⟩,
 ⟨14,none,(oP 57 (.bin .lss .num (.t 56) (cI 0))),[]⟩,
 ⟨15,none,(oP 58 (.un .not (.t 57))),[]⟩])
 (kL [0,2,3,4,10,11,58] 0 (.cond (.t 58)
 (.ret)
 (.skip))))
 (kL [0,2,3,4,10,11] 0 (.seq (.draw 0 [
 ⟨0,none,(mV 59 0),[]⟩,
 ⟨1,none,(mV 60 3),[]⟩,
 ⟨2,none,(mV 61 10),[]⟩,
 ⟨3,none,(oP 62 (.bin .add .num (.t 60) (.t 61))),[]⟩,
 ⟨4,none,(mV 63 0),[]⟩,
 ⟨5,none,(mV 64 3),[]⟩,
 ⟨6,none,(mV 65 11),[]⟩,
 ⟨7,none,(oP 66 (.bin .add .num (.t 64) (.t 65))),[]⟩,
 ⟨8,none,(mV 67 0),[]⟩,
 ⟨9,none,(mV 68 3),[]⟩,
 ⟨10,none,(mV 69 11),[]⟩,
 ⟨11,none,(oP 70 (.bin .add .num (.t 68) (.t 69))),[]⟩,
 ⟨12,none,(oP 71 (iA 3 67 70)),[]⟩,
 ⟨13,none,(oP 72 (.load (some 3) (.t 71))),[]⟩,
 ⟨14,none,(mV 73 0),[]⟩,
 ⟨15,none,(mV 74 3),[]⟩,
 ⟨16,none,(mV 75 10),[]⟩,
 ⟨17,none,(oP 76 (.bin .add .num (.t 74) (.t 75))),[]⟩,
 ⟨18,none,(oP 77 (iA 3 73 76)),[]⟩,
 ⟨19,none,(oP 78 (.load (some 3) (.t 77))),[]⟩,
 ⟨20,none,(oP 79 (iA 3 59 62)),[]⟩,
 ⟨21,none,(oW (.store 3 (.t 79) (.t 72))),[]⟩,
 ⟨22,none,(oP 80 (iA 3 63 66)),[]⟩,
 ⟨23,none,(oW (.store 3 (.t 80) (.t 78))),[]⟩])
 (kL [0,2,3,4,11] 0 (.region [
 mV 81 11,
 mV 10 81]))))))))))))))))⟩
def n113:NF:=⟨18,[8],
 .seq (.region [
 oP 8 (.mov (cI 0))])
 (kL [0,1,2,3] 0 (.seq (.region [
 mV 9 0,
 mV 10 1,
 oP 11 (.bin .sub .num (.t 10) (cI 1)),
 mV 12 1,
 mV 13 1,
 oP 14 (.bin .add .num (.t 13) (cI 1)),
 mV 15 2,
 mV 16 3,
 oP 17 (.call 114 [(.t 9),(.t 11),(.t 12),(.t 14),(.t 15),(.t 16)]),
 mV 8 17])
 (.ret)))⟩
def n114:NF:=⟨41,[12],
 .seq (.region [
 oP 12 (.mov (cI 0))])
 (kL [0,1,2,3,4,5] 0 (.seq (.region [
 mV 14 0,
 mV 15 1,
 mV 16 2,
 mV 17 4,
 mV 18 5,
 oP 19 (.call 116 [(.t 14),(.t 15),(.t 16),(.t 17),(.t 18)]),
 mV 13 19,
 oP 20 (.ext (.t 13) 0),
 oP 21 (.ext (.t 13) 1),
 mV 1 20,
 mV 2 21])
 (kL [0,1,2,3,4,5] 0 (.seq (.region [
 mV 23 0,
 mV 24 2,
 mV 25 3,
 mV 26 4,
 mV 27 5,
 oP 28 (.call 116 [(.t 23),(.t 24),(.t 25),(.t 26),(.t 27)]),
 mV 22 28,
 oP 29 (.ext (.t 22) 0),
 oP 30 (.ext (.t 22) 1),
 mV 2 29,
 mV 3 30])
 (kL [0,1,2,4,5] 0 (.seq (.region [
 mV 32 0,
 mV 33 1,
 mV 34 2,
 mV 35 4,
 mV 36 5,
 oP 37 (.call 116 [(.t 32),(.t 33),(.t 34),(.t 35),(.t 36)]),
 mV 31 37,
 oP 38 (.ext (.t 31) 0),
 oP 39 (.ext (.t 31) 1),
 mV 1 38,
 mV 2 39])
 (kL [2] 0 (.seq (.region [
 mV 40 2,
 mV 12 40])
 (.ret)))))))))⟩
def n432b:Code:=
 .seq (.region [
 oP 1 (.box true 6 (.t 0)),
 oP 2 (.box false 6 (.c (.agg [(.int .i64 0),(.int .i64 0),(.int .i64 0),(.int .i64 0),.nils,.nils])))])
 (kL [1,2] 1 (.seq (.draw 0 [
 ⟨0,none,(oP 3 (.faddr 4 (.t 1))),[]⟩,
 ⟨1,none,(oP 4 (lD 3)),[]⟩,
 ⟨3,none,(oP 6 (.faddr 5 (.t 1))),[]⟩,
 ⟨4,none,(oP 7 (lD 6)),[]⟩,
 ⟨2,none,(oP 5 (.call 203 [(.t 4)])),[(4,(oP 7 (lD 6)))]⟩,
 ⟨6,none,(oP 9 (.faddr 4 (.t 1))),[]⟩,
 ⟨5,none,(oP 8 (.call 293 [(.t 7)])),[]⟩,
 ⟨7,none,(oW (.store 1 (.t 9) (.t 5))),[]⟩,
 ⟨8,none,(oP 10 (.faddr 5 (.t 1))),[]⟩,
 ⟨9,none,(oW (.store 1 (.t 10) (.t 8))),[]⟩])
 (kL [1,2] 1 (.seq (.region [
 oP 11 (.load (some 6) (.t 1)),
 oW (.store 6 (.t 2) (.t 11))])
 (.ret)))))
def n432:NF:=⟨12,[2],.fin n432b [⟨some 2,.load (some 6) (.t 2),none⟩]⟩
def n116:NF:=⟨32,[10,11],
 .seq (.region [
 oP 10 (.mov (cI 0)),
 oP 11 (.mov (cI 0))])
 (kL [0,1,2,3,4] 0 (.seq (.seq (.draw 0 [
 ⟨0,none,(mV 12 4),[]⟩,
 ⟨1,none,(mV 13 0),[]⟩,
 ⟨2,none,(mV 14 2),[]⟩,
 ⟨3,none,(oP 15 (iA 3 13 14)),[]⟩,
 ⟨4,none,(oP 16 (.load (some 3) (.t 15))),[]⟩,
 ⟨5,none,(mV 17 0),[]⟩,
 ⟨6,none,(mV 18 1),[]⟩,
 ⟨7,none,(oP 19 (iA 3 17 18)),[]⟩,
 ⟨8,none,(oP 20 (.load (some 3) (.t 19))),[]⟩,
 ⟨9,none,(oP 21 (.dyn (.t 12) [(.t 16),(.t 20)])),[]⟩,
 ⟨10,none,(oP 22 (.bin .lss .num (.t 21) (cI 0))),[]⟩])
 (kL [1,2,3,22] 0 (.cond (.t 22)
 (.seq (.region [
 mV 23 3,
 oP 24 (.nilck (.t 23)),
 oP 25 (lD 24),
 oP 26 (.bin .add .num (.t 25) (cI 1)),
 oP 27 (.nilck (.t 23)),
 oW (.store 1 (.t 27) (.t 26))])
 (kL [1,2] 0 (.seq (.region [
 mV 28 2,
 mV 29 1,
 mV 10 28,
 mV 11 29])
 (.ret))))
 (.skip))))
 (kL [1,2] 0 (.seq (.region [
 mV 30 1,
 mV 31 2,
 mV 10 30,
 mV 11 31])
 (.ret)))))⟩
def n331:NF:=⟨21,[2],
 .seq (.region [
 oP 1 (.box true 2 (.t 0)),
 oP 2 (.mov (cB false))])
 (kL [1] 1 (.seq (.region [
 oP 3 (.faddr 0 (.t 1)),
 oP 4 (lD 3),
 oP 5 (.bin .geq .num (.t 4) (cI 0)),
 mV 6 5,
 oG 7 (.faddr 0 (.t 1)) 6 true,
 oG 8 (lD 7) 6 true,
 oG 9 (.bin .lss .num (.t 8) (cI 1099511627776)) 6 true,
 oP 10 (.pick (.t 6) (.t 9) (cB false)),
 mV 11 10,
 oG 12 (.faddr 1 (.t 1)) 11 true,
 oG 13 (lD 12) 11 true,
 oG 14 (.bin .geq .num (.t 13) (cI 0)) 11 true,
 oP 15 (.pick (.t 11) (.t 14) (cB false)),
 mV 16 15,
 oG 17 (.faddr 1 (.t 1)) 16 true,
 oG 18 (lD 17) 16 true,
 oG 19 (.bin .leq .num (.t 18) (cI 255)) 16 true,
 oP 20 (.pick (.t 16) (.t 19) (cB false)),
 mV 2 20])
 (.ret)))⟩
def n321:NF:=⟨16,[],
 .seq (.region [
 oP 2 (.box true 2 (.t 0))])
 (kL [1,2] 1 (.seq (.region [
 mV 4 1,
 oP 5 (.call 290 [(.t 4),(.c (.c (.int .u64 6))),(cI 8)])])
 (kL [1,2] 1 (.seq (.region [
 mV 6 1,
 oP 7 (.faddr 0 (.t 2)),
 oP 8 (lD 7),
 oP 9 (.conv (.toInt .u64) (.t 8)),
 oP 10 (.call 290 [(.t 6),(.t 9),(cI 40)])])
 (kL [1,2] 1 (.region [
 mV 11 1,
 oP 12 (.faddr 1 (.t 2)),
 oP 13 (lD 12),
 oP 14 (.conv (.toInt .u64) (.t 13)),
 oP 15 (.call 290 [(.t 11),(.t 14),(cI 8)])]))))))⟩
def n332:NF:=⟨11,[2],
 .seq (.region [
 oP 1 (.box true 1 (.t 0)),
 oP 2 (.mov (cB false))])
 (kL [1] 1 (.seq (.region [
 oP 3 (.faddr 0 (.t 1)),
 oP 4 (lD 3),
 oP 5 (.bin .geq .num (.t 4) (cI (-32768))),
 mV 6 5,
 oG 7 (.faddr 0 (.t 1)) 6 true,
 oG 8 (lD 7) 6 true,
 oG 9 (.bin .leq .num (.t 8) (cI 32767)) 6 true,
 oP 10 (.pick (.t 6) (.t 9) (cB false)),
 mV 2 10])
 (.ret)))⟩
def n322:NF:=⟨11,[],
 .seq (.region [
 oP 2 (.box true 1 (.t 0))])
 (kL [1,2] 1 (.seq (.region [
 mV 4 1,
 oP 5 (.call 290 [(.t 4),(.c (.c (.int .u64 2))),(cI 8)])])
 (kL [1,2] 1 (.region [
 mV 6 1,
 oP 7 (.faddr 0 (.t 2)),
 oP 8 (lD 7),
 oP 9 (.conv (.toInt .u64) (.t 8)),
 oP 10 (.call 290 [(.t 6),(.t 9),(cI 16)])]))))⟩
def n333:NF:=⟨13,[2],
 .seq (.region [
 oP 1 (.box true 1 (.t 0)),
 oP 2 (.mov (cB false))])
 (kL [1] 1 (.seq (.region [
 oP 3 (.faddr 0 (.t 1)),
 oP 4 (lD 3),
 oP 5 (.len .sl (.t 4)),
 oP 6 (.bin .leq .num (.t 5) (cI 16)),
 mV 7 6,
 oG 8 (.faddr 0 (.t 1)) 7 true,
 oG 9 (lD 8) 7 true,
 oG 10 (.call 338 [(.t 9),(.c (.c (.fn 339 [])))]) 7 true,
 oG 11 (.un .not (.t 10)) 7 true,
 oP 12 (.pick (.t 7) (.t 11) (cB false)),
 mV 2 12])
 (.ret)))⟩
def n323:NF:=⟨24,[],
 .seq (.region [
 oP 2 (.box true 1 (.t 0))])
 (kL [1,2] 1 (.seq (.region [
 mV 6 1,
 oP 7 (.faddr 0 (.t 2)),
 oP 8 (lD 7),
 oP 9 (.len .sl (.t 8)),
 oP 10 (.conv (.toInt .u64) (.t 9)),
 oP 11 (.call 290 [(.t 6),(.t 10),(cI 8)])])
 (kL [1,2] 1 (.seq (.region [
 oP 12 (.faddr 0 (.t 2)),
 oP 13 (lD 12),
 oP 14 (.len .sl (.t 13)),
 oP 15 (.mov (cI 0))])
 (kL [1,13,14,15] 0 (.block 0 (.loop (kL [1,13,14,15] 0 (.seq (.region [
 oP 16 (.bin .lss .num (.t 15) (.t 14))])
 (kL [1,13,14,15,16] 0 (.seq (.cond (.t 16)
 (.skip)
 (.exit 0))
 (kL [1,13,14,15] 0 (.seq (.block 1 (.seq (.region [
 oP 17 (iA 1 13 15),
 oP 18 (lD 17),
 mV 5 18])
 (kL [1,5,13,14,15] 0 (.region [
 mV 19 1,
 mV 20 5,
 oP 21 (.conv (.toInt .u64) (.t 20)),
 oP 22 (.call 290 [(.t 19),(.t 21),(cI 8)])]))))
 (kL [1,13,14,15] 0 (.region [
 oP 23 (.bin .add .num (.t 15) (cI 1)),
 mV 15 23])))))))))))))))⟩
def n339:NF:=⟨9,[2],
 .seq (.region [
 oP 2 (.mov (cB false))])
 (kL [0] 0 (.seq (.region [
 mV 3 0,
 oP 4 (.bin .lss .num (.t 3) (cI 0)),
 mV 5 4,
 mG 6 0 5 false,
 oG 7 (.bin .gtr .num (.t 6) (cI 255)) 5 false,
 oP 8 (.pick (.t 5) (cB true) (.t 7)),
 mV 2 8])
 (.ret)))⟩
def N0:Nat→Option NF
 | 13=>some n13
 | 46=>some n46
 | 47=>some n47
 | 53=>some n53
 | 56=>some n56
 | 58=>some n58
 | 60=>some n60
 | 62=>some n62
 | 66=>some n66
 | 73=>some n73
 | 74=>some n74
 | 75=>some n75
 | 76=>some n76
 | 77=>some n77
 | 78=>some n78
 | 79=>some n79
 | 80=>some n80
 | 82=>some n82
 | 83=>some n83
 | 84=>some n84
 | 85=>some n85
 | 86=>some n86
 | 87=>some n87
 | 88=>some n88
 | 89=>some n89
 | 90=>some n90
 | 91=>some n91
 | 92=>some n92
 | 93=>some n93
 | 94=>some n94
 | 95=>some n95
 | 96=>some n96
 | 97=>some n97
 | 98=>some n98
 | 99=>some n99
 | 100=>some n100
 | 101=>some n101
 | 102=>some n102
 | 103=>some n103
 | 104=>some n104
 | 105=>some n105
 | 106=>some n106
 | 107=>some n107
 | 108=>some n108
 | 109=>some n109
 | 110=>some n110
 | 111=>some n111
 | 112=>some n112
 | 113=>some n113
 | 114=>some n114
 | 115=>some n115
 | 116=>some n116
 | 203=>some n203
 | 205=>some n205
 | 259=>some n259
 | 260=>some n260
 | 261=>some n261
 | 262=>some n262
 | 265=>some n265
 | 266=>some n266
 | 267=>some n267
 | 268=>some n268
 | 269=>some n269
 | 270=>some n270
 | 271=>some n271
 | 272=>some n272
 | 273=>some n273
 | 274=>some n274
 | 275=>some n275
 | 276=>some n276
 | 277=>some n277
 | 278=>some n278
 | 279=>some n279
 | 280=>some n280
 | 281=>some n281
 | 288=>some n288
 | 289=>some n289
 | 290=>some n290
 | 291=>some n291
 | 292=>some n292
 | 293=>some n293
 | 294=>some n294
 | 295=>some n295
 | 296=>some n296
 | 297=>some n297
 | 298=>some n298
 | 299=>some n299
 | 300=>some n300
 | 305=>some n305
 | 306=>some n306
 | 307=>some n307
 | 308=>some n308
 | 309=>some n309
 | 310=>some n310
 | 311=>some n311
 | 312=>some n312
 | 313=>some n313
 | 314=>some n314
 | 315=>some n315
 | 316=>some n316
 | 317=>some n317
 | 318=>some n318
 | 319=>some n319
 | 320=>some n320
 | 321=>some n321
 | 322=>some n322
 | 323=>some n323
 | 324=>some n324
 | 327=>some n327
 | 328=>some n328
 | 329=>some n329
 | 330=>some n330
 | 331=>some n331
 | 332=>some n332
 | 333=>some n333
 | 334=>some n334
 | 335=>some n335
 | 336=>some n336
 | 337=>some n337
 | 338=>some n338
 | 339=>some n339
 | 341=>some n341
 | 342=>some n342
 | 343=>some n343
 | 344=>some n344
 | 345=>some n345
 | 347=>some n347
 | 348=>some n348
 | 349=>some n349
 | 350=>some n350
 | 351=>some n351
 | 352=>some n352
 | 353=>some n353
 | 354=>some n354
 | 355=>some n355
 | 356=>some n356
 | 357=>some n357
 | 358=>some n358
 | 359=>some n359
 | 360=>some n360
 | 361=>some n361
 | 362=>some n362
 | 363=>some n363
 | 364=>some n364
 | 365=>some n365
 | 366=>some n366
 | 367=>some n367
 | 368=>some n368
 | 369=>some n369
 | 370=>some n370
 | 371=>some n371
 | 372=>some n372
 | 373=>some n373
 | 374=>some n374
 | 375=>some n375
 | 376=>some n376
 | 377=>some n377
 | 378=>some n378
 | 379=>some n379
 | 380=>some n380
 | 381=>some n381
 | 382=>some n382
 | 383=>some n383
 | 384=>some n384
 | 385=>some n385
 | 386=>some n386
 | 387=>some n387
 | 388=>some n388
 | 389=>some n389
 | 390=>some n390
 | 391=>some n391
 | 392=>some n392
 | 393=>some n393
 | 394=>some n394
 | 395=>some n395
 | 396=>some n396
 | 397=>some n397
 | 398=>some n398
 | 399=>some n399
 | 400=>some n400
 | 401=>some n401
 | 402=>some n402
 | 403=>some n403
 | 404=>some n404
 | 405=>some n405
 | 406=>some n406
 | 407=>some n407
 | 408=>some n408
 | 409=>some n409
 | 410=>some n410
 | 411=>some n411
 | 412=>some n412
 | 413=>some n413
 | 414=>some n414
 | 415=>some n415
 | 416=>some n416
 | 417=>some n417
 | 418=>some n418
 | 419=>some n419
 | 420=>some n420
 | 421=>some n421
 | 422=>some n422
 | 423=>some n423
 | 424=>some n424
 | 425=>some n425
 | 426=>some n426
 | 427=>some n427
 | 428=>some n428
 | 429=>some n429
 | 430=>some n430
 | 431=>some n431
 | 432=>some n432
 | _=>none
abbrev N:Nat→Option NF:=withF N0 349 awakeN
end
end Camp
