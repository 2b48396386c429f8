/- Functions of the program, as the machine runs them. Printed by a program of mine (ncode.py). -/
import Derived.Test.YtjcbeikfobfjmaaGreatEngF
import Derived.Test.YtjcbeikfobfjmaaGreatUseA
set_option linter.unnecessarySimpa false
set_option linter.unusedVariables false
set_option linter.unusedSimpArgs false
set_option linter.unusedSectionVars false
namespace Camp
open Go
section
def bs (l:List UInt8):ByteArray:=⟨⟨l⟩⟩
def n442:NF:=⟨156,[8],
 .seq (.region [
 oP 8 (.mov (cB false))])
 (kL [0,1,2,3] 0 (.seq (.region [
 mV 20 0,
 mV 21 1,
 oP 22 (.call 259 [(cI 3),(cI 2),(cI 5),(.t 20),(.t 21),(cI 5),(cI 1)]),
 oP 9 (.box true 9 (.c (.agg [(.int .i64 0),.nils,.nils,(.int .i64 0),(.int .i64 0),(.int .i64 0),(.int .i64 0),(.int .i64 0),(.int .i64 0)]))),
 oW (.store 9 (.t 9) (.t 22))])
 (kL [2,3,9] 1 (.seq (.region [
 oP 23 (.load (some 9) (.t 9)),
 oP 24 (.call 439 [(.t 23)]),
 mV 10 24])
 (kL [2,3,9,10] 1 (.seq (.seq (.region [
 mV 25 10,
 oP 26 (.bin .eql .ptr (.t 25) (.c (.c .nilp))),
 mV 27 26,
 mG 28 10 27 false,
 oG 29 (.call 265 [(.t 28)]) 27 false,
 oG 30 (.un .not (.t 29)) 27 false,
 oP 31 (.pick (.t 27) (cB true) (.t 30))])
 (kL [2,3,9,10,31] 1 (.cond (.t 31)
 (.seq (.region [
 oP 8 (.mov (cB false))])
 (.ret))
 (.skip))))
 (kL [2,3,9,10] 1 (.seq (.draw 0 [
 ⟨0,none,(oP 32 (.faddr 6 (.t 9))),[]⟩,
 ⟨1,none,(oP 33 (lD 32)),[]⟩,
 ⟨2,none,(oP 34 (.faddr 6 (.t 9))),[]⟩,
 ⟨3,none,(oP 35 (lD 34)),[]⟩,
 ⟨4,none,(mV 11 33),[]⟩,
 ⟨5,none,(mV 12 35),[]⟩])
 (kL [2,3,9,10,11,12] 1 (.seq (.region [
 oP 13 (.mov (cI 0))])
 (kL [2,3,9,10,11,12,13] 1 (.seq (.seq (.region [
 mV 36 2,
 oP 37 (.conv (.toInt .u64) (.t 36)),
 oP 38 (.bin .rem .num (.t 37) (.c (.c (.int .u64 10)))),
 oP 39 (.conv (.toInt .i64) (.t 38)),
 oP 40 (.mov (cI 0))])
 (kL [2,3,9,10,11,12,13,39,40] 1 (.block 0 (.loop (kL [2,3,9,10,11,12,13,39,40] 1 (.seq (.region [
 oP 41 (.bin .lss .num (.t 40) (.t 39))])
 (kL [2,3,9,10,11,12,13,39,40,41] 1 (.seq (.cond (.t 41)
 (.skip)
 (.exit 0))
 (kL [2,3,9,10,11,12,13,39,40] 1 (.seq (.block 1 (.seq (.region [
 mV 43 10,
 mV 44 11,
 oP 45 (.bslice false 1 1 [(.int .u8 0)] [(0,(1,(.c (.c (.int .u8 1)))))]),
 oP 46 (.call 261 [(.t 43),(.t 44),(cI 0),(.t 45)]),
 mV 42 46,
 oP 47 (.ext (.t 42) 0),
 oP 48 (.ext (.t 42) 1),
 mV 14 47,
 mV 15 48])
 (kL [2,3,9,10,11,12,13,15,39,40] 1 (.seq (.region [
 mV 49 15,
 oP 50 (.bin .eql .num (.t 49) (cI 0))])
 (kL [2,3,9,10,11,12,13,39,40,50] 1 (.cond (.t 50)
 (.region [
 mV 51 13,
 oP 52 (.bin .add .num (.t 51) (cI 1)),
 mV 13 52])
 (.skip)))))))
 (kL [2,3,9,10,11,12,13,39,40] 1 (.region [
 oP 53 (.bin .add .num (.t 40) (cI 1)),
 mV 40 53]))))))))))))
 (kL [2,3,9,10,11,12,13] 1 (.seq (.seq (.region [
 mV 54 13,
 mV 55 2,
 oP 56 (.conv (.toInt .u64) (.t 55)),
 oP 57 (.bin .rem .num (.t 56) (.c (.c (.int .u64 10)))),
 oP 58 (.conv (.toInt .i64) (.t 57)),
 oP 59 (.faddr 7 (.t 9)),
 oP 60 (lD 59),
 oP 61 (.min [(.t 58),(.t 60)]),
 oP 62 (.bin .neq .num (.t 54) (.t 61)),
 mV 63 62,
 mG 64 10 63 false,
 oG 65 (.call 263 [(.t 64)]) 63 false,
 mG 66 13 63 false,
 oG 67 (.bin .neq .num (.t 65) (.t 66)) 63 false,
 oP 68 (.pick (.t 63) (cB true) (.t 67))])
 (kL [3,9,10,11,12,13,68] 1 (.cond (.t 68)
 (.seq (.region [
 oP 8 (.mov (cB false))])
 (.ret))
 (.skip))))
 (kL [3,9,10,11,12,13] 1 (.seq (.seq (.region [
 oP 69 (.mov (cI 0))])
 (kL [3,9,10,11,12,13,69] 1 (.block 2 (.loop (kL [3,9,10,11,12,13,69] 1 (.seq (.region [
 oP 70 (.bin .lss .num (.t 69) (cI 200))])
 (kL [3,9,10,11,12,13,69,70] 1 (.seq (.cond (.t 70)
 (.skip)
 (.exit 2))
 (kL [3,9,10,11,12,13,69] 1 (.seq (.block 3 (.seq (.region [
 mV 71 69,
 mV 16 71])
 (kL [3,9,10,11,12,13,16,69] 1 (.seq (.region [
 mV 72 11,
 oP 73 (.bin .add .num (.t 72) (cI 1)),
 mV 11 73])
 (kL [3,9,10,11,12,13,16,69] 1 (.seq (.region [
 mV 74 10,
 mV 75 11,
 oP 76 (.call 341 [(.t 74),(.t 75),(cI 0)])])
 (kL [3,9,10,11,12,13,16,69] 1 (.seq (.seq (.region [
 mV 77 16,
 mV 78 3,
 oP 79 (.len .sl (.t 78)),
 oP 80 (.bin .lss .num (.t 77) (.t 79)),
 mV 81 80,
 mG 82 3 81 true,
 mG 83 16 81 true,
 oG 84 (iA 1 82 83) 81 true,
 oG 85 (lD 84) 81 true,
 oP 86 (.pick (.t 81) (.t 85) (cB false))])
 (kL [3,9,10,11,12,13,69,86] 1 (.cond (.t 86)
 (.seq (.region [
 mV 87 10,
 mV 88 11,
 mV 89 11,
 oP 90 (.call 434 [(cI 1),(cI 1),(.t 89)]),
 oP 91 (.call 343 [(.t 87),(.t 88),(.t 90),(cI 0)])])
 (kL [3,9,10,11,13,69] 1 (.region [
 mV 92 11,
 mV 12 92])))
 (.skip))))
 (kL [3,9,10,11,12,13,69] 1 (.seq (.region [
 mV 93 10,
 mV 94 11,
 oP 95 (.call 345 [(.t 93),(.t 94)]),
 mV 17 95])
 (kL [3,9,10,11,12,13,17,69] 1 (.seq (.seq (.region [
 mV 96 11,
 mV 97 12,
 oP 98 (.bin .sub .num (.t 96) (.t 97)),
 oP 99 (.faddr 6 (.t 9)),
 oP 100 (lD 99),
 oP 101 (.bin .lss .num (.t 98) (.t 100))])
 (kL [3,9,10,11,12,13,17,69,101] 1 (.cond (.t 101)
 (.seq (.seq (.region [
 mV 102 17,
 oP 103 (.len .sl (.t 102)),
 oP 104 (.bin .neq .num (.t 103) (cI 0)),
 mV 105 104,
 mG 106 10 105 false,
 oG 107 (.call 265 [(.t 106)]) 105 false,
 oG 108 (.un .not (.t 107)) 105 false,
 oP 109 (.pick (.t 105) (cB true) (.t 108))])
 (kL [3,9,10,11,12,13,69,109] 1 (.cond (.t 109)
 (.seq (.region [
 oP 8 (.mov (cB false))])
 (.ret))
 (.skip))))
 (.exit 3))
 (.skip))))
 (kL [10,13,17] 0 (.seq (.seq (.region [
 mV 110 17,
 oP 111 (.len .sl (.t 110)),
 mV 112 13,
 oP 113 (.bin .add .num (cI 1) (.t 112)),
 oP 114 (.bin .neq .num (.t 111) (.t 113)),
 mV 115 114,
 mG 116 17 115 false,
 oG 117 (.iaddr 10 (.t 116) (cI 0)) 115 false,
 oG 118 (.faddr 0 (.t 117)) 115 false,
 oG 119 (lD 118) 115 false,
 oG 120 (.bin .neq .num (.t 119) (cI 3)) 115 false,
 oP 121 (.pick (.t 115) (cB true) (.t 120)),
 mV 122 121,
 mG 123 10 122 false,
 oG 124 (.call 265 [(.t 123)]) 122 false,
 oP 125 (.pick (.t 122) (cB true) (.t 124)),
 mV 126 125,
 mG 127 10 126 false,
 oG 128 (.call 263 [(.t 127)]) 126 false,
 oG 129 (.bin .neq .num (.t 128) (cI 0)) 126 false,
 oP 130 (.pick (.t 126) (cB true) (.t 129))])
 (kL [17,130] 0 (.cond (.t 130)
 (.seq (.region [
 oP 8 (.mov (cB false))])
 (.ret))
 (.skip))))
 (kL [17] 0 (.seq (.seq (.region [
 mV 131 17,
 oP 132 (.slice 10 (.t 131) (some (cI 1)) none none),
 oP 133 (.len .sl (.t 132)),
 oP 134 (.mov (cI 0))])
 (kL [132,133,134] 0 (.block 4 (.loop (kL [132,133,134] 0 (.seq (.region [
 oP 135 (.bin .lss .num (.t 134) (.t 133))])
 (kL [132,133,134,135] 0 (.seq (.cond (.t 135)
 (.skip)
 (.exit 4))
 (kL [132,133,134] 0 (.seq (.block 5 (.seq (.region [
 oP 136 (iA 10 132 134),
 oP 137 (.load (some 10) (.t 136)),
 oP 19 (.box true 10 (.c (.agg [(.int .i64 0),(.int .i64 0),(.int .i64 0),(.int .i64 0),(.int .i64 0),(.int .i64 0),(.int .i64 0),(.int .i64 0),.nils,.nils]))),
 oW (.store 10 (.t 19) (.t 137))])
 (kL [19,132,133,134] 1 (.seq (.region [
 oP 138 (.faddr 0 (.t 19)),
 oP 139 (lD 138),
 oP 140 (.bin .neq .num (.t 139) (cI 5)),
 mV 141 140,
 oG 142 (.faddr 3 (.t 19)) 141 false,
 oG 143 (lD 142) 141 false,
 oG 144 (.bin .neq .num (.t 143) (cI 3)) 141 false,
 oP 145 (.pick (.t 141) (cB true) (.t 144)),
 mV 146 145,
 oG 147 (.faddr 4 (.t 19)) 146 false,
 oG 148 (.faddr 0 (.t 147)) 146 false,
 oG 149 (lD 148) 146 false,
 oG 150 (.bin .neq .num (.t 149) (cI 2)) 146 false,
 oP 151 (.pick (.t 146) (cB true) (.t 150))])
 (kL [132,133,134,151] 0 (.cond (.t 151)
 (.seq (.region [
 oP 8 (.mov (cB false))])
 (.ret))
 (.skip)))))))
 (kL [132,133,134] 0 (.region [
 oP 152 (.bin .add .num (.t 134) (cI 1)),
 mV 134 152]))))))))))))
 (kL [] 0 (.seq (.region [
 oP 153 (.call 258 []),
 mV 8 153])
 (.ret)))))))))))))))))))
 (kL [3,9,10,11,12,13,69] 1 (.region [
 oP 154 (.bin .add .num (.t 69) (cI 1)),
 mV 69 154]))))))))))))
 (kL [] 0 (.seq (.region [
 oP 155 (.call 258 []),
 mV 8 155])
 (.ret)))))))))))))))))))⟩
def n258:NF:=⟨39,[0],
 .seq (.region [
 oP 0 (.mov (cB false))])
 (kL [] 0 (.seq (.region [
 oP 6 (.call 259 [(cI 3),(cI 1),(cI 5),(cI 5),(cI 5),(cI 5),(cI 1)]),
 oP 7 (.call 260 [(.t 6),(cI 0)]),
 mV 1 7])
 (kL [1] 0 (.seq (.region [
 mV 9 1,
 oP 10 (.call 262 [(.t 9),(cI 0)]),
 mV 8 10,
 oP 11 (.ext (.t 8) 0),
 oP 12 (.ext (.t 8) 1),
 mV 2 11,
 mV 3 12])
 (kL [1,2,3] 0 (.seq (.region [
 mV 14 3,
 oP 15 (.call 264 [(.t 14)]),
 mV 13 15,
 oP 16 (.ext (.t 13) 0),
 oP 17 (.ext (.t 13) 1),
 oP 4 (.box true 6 (.c (.agg [(.int .i64 0),(.int .i64 0),(.int .i64 0),(.int .i64 0),.nils,.nils]))),
 oW (.store 6 (.t 4) (.t 16)),
 mV 5 17])
 (kL [1,2,4,5] 1 (.seq (.region [
 mV 18 1,
 oP 19 (.call 265 [(.t 18)]),
 mV 20 19,
 mG 21 2 20 true,
 oG 22 (.bin .eql .num (.t 21) (cI 11)) 20 true,
 oP 23 (.pick (.t 20) (.t 22) (cB false)),
 mV 24 23,
 mG 25 5 24 true,
 oG 26 (.bin .eql .num (.t 25) (cI 0)) 24 true,
 oP 27 (.pick (.t 24) (.t 26) (cB false)),
 mV 28 27,
 oG 29 (.faddr 0 (.t 4)) 28 true,
 oG 30 (lD 29) 28 true,
 oG 31 (.bin .eql .num (.t 30) (cI 3)) 28 true,
 oP 32 (.pick (.t 28) (.t 31) (cB false)),
 mV 33 32,
 oG 34 (.faddr 4 (.t 4)) 33 true,
 oG 35 (lD 34) 33 true,
 oG 36 (.len .sl (.t 35)) 33 true,
 oG 37 (.bin .eql .num (.t 36) (cI 2)) 33 true,
 oP 38 (.pick (.t 33) (.t 37) (cB false)),
 mV 0 38])
 (.ret)))))))))⟩
def n259b:Code:=
 .seq (.region [
 oP 14 (.box false 9 (.c (.agg [(.int .i64 0),.nils,.nils,(.int .i64 0),(.int .i64 0),(.int .i64 0),(.int .i64 0),(.int .i64 0),(.int .i64 0)])))])
 (kL [0,1,2,3,4,5,6,14] 0 (.seq (.region [
 mV 20 0,
 oP 21 (.conv (.toInt .u64) (.t 20)),
 oP 22 (.bin .rem .num (.t 21) (.c (.c (.int .u64 7)))),
 oP 23 (.conv (.toInt .i64) (.t 22)),
 oP 24 (.bin .add .num (cI 2) (.t 23)),
 mV 15 24])
 (kL [1,2,3,4,5,6,14,15] 0 (.seq (.region [
 mV 25 1,
 oP 26 (.conv (.toInt .u64) (.t 25)),
 oP 27 (.bin .rem .num (.t 26) (.c (.c (.int .u64 3)))),
 oP 28 (.conv (.toInt .i64) (.t 27)),
 oP 29 (.bin .add .num (cI 1) (.t 28)),
 mV 16 29])
 (kL [2,3,4,5,6,14,15,16] 0 (.seq (.region [
 mV 30 15,
 mV 31 15,
 oP 32 (.mkslice 1 8 [(.int .u64 0)] (.t 31) (.t 31)),
 oP 33 (.bslice false 1 3 [(.int .i64 0)] [(0,(1,(cI 11))),(1,(1,(cI 15))),(2,(1,(cI 20)))]),
 mV 34 6,
 oP 35 (.conv (.toInt .u64) (.t 34)),
 oP 36 (.bin .rem .num (.t 35) (.c (.c (.int .u64 6)))),
 oP 37 (.conv (.toInt .i64) (.t 36)),
 mV 38 2,
 oP 39 (.conv (.toInt .u64) (.t 38)),
 oP 40 (.bin .rem .num (.t 39) (.c (.c (.int .u64 30)))),
 oP 41 (.conv (.toInt .i64) (.t 40)),
 oP 42 (.bin .add .num (cI 1) (.t 41)),
 mV 43 15,
 oP 44 (.bin .mul .num (cI 2) (.t 43)),
 mV 45 3,
 oP 46 (.conv (.toInt .u64) (.t 45)),
 oP 47 (.bin .rem .num (.t 46) (.c (.c (.int .u64 60)))),
 oP 48 (.conv (.toInt .i64) (.t 47)),
 oP 49 (.bin .add .num (.t 44) (.t 48)),
 mV 50 4,
 oP 51 (.conv (.toInt .u64) (.t 50)),
 oP 52 (.bin .rem .num (.t 51) (.c (.c (.int .u64 8)))),
 oP 53 (.conv (.toInt .i64) (.t 52)),
 oP 54 (.bin .add .num (cI 1) (.t 53)),
 mV 55 5,
 oP 56 (.conv (.toInt .u64) (.t 55)),
 oP 57 (.bin .rem .num (.t 56) (.c (.c (.int .u64 15)))),
 oP 58 (.conv (.toInt .i64) (.t 57)),
 oP 59 (.bin .add .num (cI 1) (.t 58)),
 oP 60 (.build [(.int .i64 0),.nils,.nils,(.int .i64 0),(.int .i64 0),(.int .i64 0),(.int .i64 0),(.int .i64 0),(.int .i64 0)] [(0,(1,(.t 30))),(1,(1,(.t 32))),(2,(1,(.t 33))),(3,(1,(cI 300))),(4,(1,(.t 37))),(5,(1,(.t 42))),(6,(1,(.t 49))),(7,(1,(.t 54))),(8,(1,(.t 59)))]),
 oP 17 (.box true 9 (.c (.agg [(.int .i64 0),.nils,.nils,(.int .i64 0),(.int .i64 0),(.int .i64 0),(.int .i64 0),(.int .i64 0),(.int .i64 0)]))),
 oW (.store 9 (.t 17) (.t 60))])
 (kL [14,15,16,17] 1 (.seq (.seq (.region [
 mV 61 15,
 oP 62 (.mov (cI 0))])
 (kL [14,15,16,17,61,62] 1 (.block 0 (.loop (kL [14,15,16,17,61,62] 1 (.seq (.region [
 oP 63 (.bin .lss .num (.t 62) (.t 61))])
 (kL [14,15,16,17,61,62,63] 1 (.seq (.cond (.t 63)
 (.skip)
 (.exit 0))
 (kL [14,15,16,17,61,62] 1 (.seq (.block 1 (.seq (.region [
 mV 64 62,
 mV 18 64])
 (kL [14,15,16,17,18,61,62] 1 (.seq (.region [
 mV 65 15,
 oP 66 (.mov (cI 0))])
 (kL [14,15,16,17,18,61,62,65,66] 1 (.block 2 (.loop (kL [14,15,16,17,18,61,62,65,66] 1 (.seq (.region [
 oP 67 (.bin .lss .num (.t 66) (.t 65))])
 (kL [14,15,16,17,18,61,62,65,66,67] 1 (.seq (.cond (.t 67)
 (.skip)
 (.exit 2))
 (kL [14,15,16,17,18,61,62,65,66] 1 (.seq (.block 3 (.seq (.region [
 mV 68 66,
 mV 19 68])
 (kL [14,15,16,17,18,19,61,62,65,66] 1 (.seq (.region [
 mV 69 18,
 mV 70 19,
 oP 71 (.bin .neq .num (.t 69) (.t 70)),
 mV 72 71,
 mG 73 18 72 true,
 mG 74 19 72 true,
 oG 75 (.bin .sub .num (.t 73) (.t 74)) 72 true,
 mG 76 16 72 true,
 oG 77 (.bin .leq .num (.t 75) (.t 76)) 72 true,
 oP 78 (.pick (.t 72) (.t 77) (cB false)),
 mV 79 78,
 mG 80 19 79 true,
 mG 81 18 79 true,
 oG 82 (.bin .sub .num (.t 80) (.t 81)) 79 true,
 mG 83 16 79 true,
 oG 84 (.bin .leq .num (.t 82) (.t 83)) 79 true,
 oP 85 (.pick (.t 79) (.t 84) (cB false))])
 (kL [14,15,16,17,18,19,61,62,65,66,85] 1 (.cond (.t 85)
 (.region [
 oP 86 (.faddr 1 (.t 17)),
 oP 87 (lD 86),
 mV 88 18,
 oP 89 (iA 1 87 88),
 oP 90 (lD 89),
 mV 91 19,
 oP 92 (.conv (.toInt .u64) (.t 91)),
 oP 93 (.bin .shl .num (.c (.c (.int .u64 1))) (.t 92)),
 oP 94 (.bin .or .num (.t 90) (.t 93)),
 oP 95 (iA 1 87 88),
 oW (.store 1 (.t 95) (.t 94))])
 (.skip)))))))
 (kL [14,15,16,17,18,61,62,65,66] 1 (.region [
 oP 96 (.bin .add .num (.t 66) (cI 1)),
 mV 66 96])))))))))))))))
 (kL [14,15,16,17,61,62] 1 (.region [
 oP 97 (.bin .add .num (.t 62) (cI 1)),
 mV 62 97]))))))))))))
 (kL [14,17] 1 (.seq (.region [
 oP 98 (.load (some 9) (.t 17)),
 oW (.store 9 (.t 14) (.t 98))])
 (.ret)))))))))))
def n259:NF:=⟨99,[14],.fin n259b [⟨some 14,.load (some 9) (.t 14),none⟩]⟩
def n439:NF:=⟨25,[2],
 .seq (.region [
 oP 1 (.box true 9 (.t 0)),
 oP 2 (.mov (.c (.c .nilp)))])
 (kL [1] 1 (.seq (.region [
 oP 5 (.load (some 9) (.t 1)),
 oP 6 (.call 260 [(.t 5),(cI 2)]),
 mV 3 6])
 (kL [1,3] 1 (.seq (.seq (.region [
 oP 7 (.faddr 6 (.t 1)),
 oP 8 (lD 7),
 oP 9 (.bin .add .num (.t 8) (cI 1)),
 oP 10 (.mov (cI 0))])
 (kL [1,3,9,10] 1 (.block 0 (.loop (kL [1,3,9,10] 1 (.seq (.region [
 oP 11 (.bin .lss .num (.t 10) (.t 9))])
 (kL [1,3,9,10,11] 1 (.seq (.cond (.t 11)
 (.skip)
 (.exit 0))
 (kL [1,3,9,10] 1 (.seq (.block 1 (.seq (.region [
 mV 12 10,
 mV 4 12])
 (kL [1,3,4,9,10] 1 (.region [
 mV 13 3,
 mV 14 4,
 oP 15 (.call 341 [(.t 13),(.t 14),(cI 0)])]))))
 (kL [1,3,9,10] 1 (.region [
 oP 16 (.bin .add .num (.t 10) (cI 1)),
 mV 10 16]))))))))))))
 (kL [1,3] 1 (.seq (.draw 0 [
 ⟨0,none,(mV 17 3),[]⟩,
 ⟨1,none,(oP 18 (.faddr 6 (.t 1))),[]⟩,
 ⟨2,none,(oP 19 (lD 18)),[]⟩,
 ⟨3,none,(oP 20 (.faddr 6 (.t 1))),[]⟩,
 ⟨4,none,(oP 21 (lD 20)),[]⟩,
 ⟨5,none,(oP 22 (.call 434 [(cI 1),(cI 1),(.t 21)])),[(2,(oP 19 (lD 18)))]⟩,
 ⟨6,none,(oP 23 (.call 343 [(.t 17),(.t 19),(.t 22),(cI 0)])),[]⟩])
 (kL [3] 0 (.seq (.region [
 mV 24 3,
 mV 2 24])
 (.ret)))))))))⟩
def n341:NF:=⟨36,[],
 .seq (.seq (.region [
 mV 6 0,
 oP 7 (.bin .eql .ptr (.t 6) (.c (.c .nilp))),
 mV 8 7,
 mG 9 1 8 false,
 oG 10 (.call 272 [(.t 9)]) 8 false,
 oG 11 (.un .not (.t 10)) 8 false,
 oP 12 (.pick (.t 8) (cB true) (.t 11))])
 (kL [0,2,12] 0 (.cond (.t 12)
 (.ret)
 (.skip))))
 (kL [0,2] 0 (.seq (.seq (.region [
 mV 13 0,
 oP 14 (.nilck (.t 13)),
 oP 15 (.faddr 9 (.t 14)),
 oP 16 (lD 15),
 oP 17 (.bin .eql .num (.t 16) (cI 0))])
 (kL [0,2,17] 0 (.cond (.t 17)
 (.region [
 oP 2 (.mov (cI 0))])
 (.skip))))
 (kL [0,2] 0 (.seq (.region [
 mV 18 0,
 oP 19 (.nilck (.t 18)),
 oP 20 (.faddr 10 (.t 19)),
 oP 21 (lD 20),
 mV 22 2,
 oP 23 (.call 387 [(.t 21),(.t 22)])])
 (kL [0] 0 (.seq (.region [
 mV 24 0,
 oP 25 (.nilck (.t 24)),
 oP 26 (.faddr 18 (.t 25)),
 oP 27 (lD 26),
 oP 28 (.un .not (.t 27))])
 (kL [0,28] 0 (.cond (.t 28)
 (.region [
 mV 29 0,
 oP 30 (.nilck (.t 29)),
 oP 31 (.faddr 21 (.t 30)),
 oP 32 (lD 31),
 oP 33 (.bin .add .num (.t 32) (cI 1)),
 oP 34 (.nilck (.t 29)),
 oP 35 (.faddr 21 (.t 34)),
 oW (.store 1 (.t 35) (.t 33))])
 (.skip)))))))))⟩
def n343:NF:=⟨96,[8,9],
 .seq (.region [
 oP 8 (.mov (.c (.c .nils))),
 oP 9 (.mov (.c (.c .nils)))])
 (kL [0,1,2,3] 0 (.seq (.seq (.region [
 mV 14 0,
 oP 15 (.bin .eql .ptr (.t 14) (.c (.c .nilp))),
 mV 16 15,
 mG 17 1 16 false,
 oG 18 (.call 272 [(.t 17)]) 16 false,
 oG 19 (.un .not (.t 18)) 16 false,
 oP 20 (.pick (.t 16) (cB true) (.t 19))])
 (kL [0,1,2,3,20] 0 (.cond (.t 20)
 (.seq (.region [
 oP 8 (.mov (.c (.c .nils))),
 oP 9 (.mov (.c (.c .nils)))])
 (.ret))
 (.skip))))
 (kL [0,1,2,3] 0 (.seq (.region [
 mV 22 2,
 oP 23 (.call 375 [(.t 22)]),
 mV 21 23,
 oP 24 (.ext (.t 21) 0),
 oP 25 (.ext (.t 21) 1),
 oP 10 (.box true 6 (.c (.agg [(.int .i64 0),(.int .i64 0),(.int .i64 0),(.int .i64 0),.nils,.nils]))),
 oW (.store 6 (.t 10) (.t 24)),
 mV 11 25])
 (kL [0,1,3,10,11] 1 (.seq (.seq (.draw 0 [
 ⟨0,none,(mV 26 11),[]⟩,
 ⟨1,none,(oP 27 (.bin .neq .num (.t 26) (cI 0))),[]⟩,
 ⟨2,none,(mV 28 27),[]⟩,
 ⟨3,none,(mG 29 0 28 false),[]⟩,
 ⟨4,none,(oG 30 (.faddr 1 (.t 10)) 28 false),[]⟩,
 ⟨5,none,(oG 31 (lD 30) 28 false),[]⟩,
 ⟨6,none,(oG 32 (.call 273 [(.t 29),(.t 31)]) 28 false),[]⟩,
 ⟨7,none,(oG 33 (.un .not (.t 32)) 28 false),[]⟩,
 ⟨8,none,(oP 34 (.pick (.t 28) (cB true) (.t 33))),[]⟩,
 ⟨9,none,(mV 35 34),[]⟩,
 ⟨10,none,(oG 36 (.faddr 1 (.t 10)) 35 false),[]⟩,
 ⟨11,none,(oG 37 (lD 36) 35 false),[]⟩,
 ⟨12,none,(mG 38 0 35 false),[]⟩,
 ⟨13,none,(oG 39 (.nilck (.t 38)) 35 false),[]⟩,
 ⟨14,none,(oG 40 (.faddr 9 (.t 39)) 35 false),[]⟩,
 ⟨15,none,(oG 41 (lD 40) 35 false),[]⟩,
 ⟨16,none,(oG 42 (.bin .eql .num (.t 37) (.t 41)) 35 false),[]⟩,
 ⟨17,none,(oP 43 (.pick (.t 35) (cB true) (.t 42))),[]⟩])
 (kL [0,1,3,10,43] 1 (.cond (.t 43)
 (.seq (.region [
 oP 8 (.mov (.c (.c .nils))),
 oP 9 (.mov (.c (.c .nils)))])
 (.ret))
 (.skip))))
 (kL [0,1,3,10] 1 (.seq (.region [
 oP 45 (.load (some 6) (.t 10)),
 mV 46 1,
 oP 47 (.call 376 [(.t 45),(.t 46)]),
 mV 44 47,
 oP 48 (.ext (.t 44) 0),
 oP 49 (.ext (.t 44) 1),
 mV 12 48,
 mV 13 49])
 (kL [0,1,3,10,12,13] 1 (.seq (.seq (.region [
 mV 50 13,
 oP 51 (.un .not (.t 50))])
 (kL [0,1,3,10,12,51] 1 (.cond (.t 51)
 (.seq (.region [
 oP 8 (.mov (.c (.c .nils))),
 oP 9 (.mov (.c (.c .nils)))])
 (.ret))
 (.skip))))
 (kL [0,1,3,10,12] 1 (.seq (.region [
 mV 52 3,
 oP 53 (.min [(.t 52),(cI 30000)]),
 oP 54 (.max [(cI (-30000)),(.t 53)]),
 mV 3 54])
 (kL [0,1,3,10,12] 1 (.seq (.seq (.region [
 mV 55 0,
 oP 56 (.nilck (.t 55)),
 oP 57 (.faddr 18 (.t 56)),
 oP 58 (lD 57),
 oP 59 (.un .not (.t 58))])
 (kL [0,1,3,10,12,59] 1 (.cond (.t 59)
 (.seq (.region [
 mV 60 0,
 oP 61 (.load (some 6) (.t 10)),
 mV 62 12,
 mV 63 1,
 mV 64 3,
 oP 65 (.call 390 [(.t 60),(.t 61),(.t 62),(.t 63),(.t 64)])])
 (kL [0] 0 (.seq (.region [
 mV 66 0,
 oP 67 (.call 380 [(.t 66)]),
 oP 8 (.mov (.c (.c .nils))),
 mV 9 67])
 (.ret))))
 (.skip))))
 (kL [0,1,3,10,12] 1 (.seq (.region [
 mV 68 0,
 oP 69 (.faddr 1 (.t 10)),
 oP 70 (lD 69),
 oP 71 (.call 384 [(.t 68),(cI 1),(.t 70)])])
 (kL [0,1,3,10,12] 1 (.seq (.seq (.region [
 mV 72 0,
 oP 73 (.nilck (.t 72)),
 oP 74 (.faddr 9 (.t 73)),
 oP 75 (lD 74),
 oP 76 (.bin .neq .num (.t 75) (cI 0))])
 (kL [0,1,3,10,12,76] 1 (.cond (.t 76)
 (.seq (.region [
 mV 77 0,
 oP 78 (.faddr 1 (.t 10)),
 oP 79 (lD 78),
 mV 80 12,
 mV 81 1,
 mV 82 3,
 oP 83 (.call 391 [(.t 77),(.t 79),(.t 80),(.t 81),(.t 82)])])
 (kL [0,1,3,10] 1 (.seq (.region [
 mV 84 0,
 oP 85 (.call 274 [(.t 84)]),
 oP 86 (.bin .eql .num (.t 85) (cI 64))])
 (kL [0,1,3,10,86] 1 (.cond (.t 86)
 (.seq (.region [
 mV 87 0,
 oP 88 (.call 380 [(.t 87)]),
 oP 8 (.mov (.c (.c .nils))),
 mV 9 88])
 (.ret))
 (.skip))))))
 (.skip))))
 (kL [0,1,3,10] 1 (.seq (.region [
 mV 89 0,
 oP 90 (.load (some 6) (.t 10)),
 mV 91 1,
 mV 92 3,
 oP 93 (.call 392 [(.t 89),(.t 90),(.t 91),(.t 92)]),
 mV 94 0,
 oP 95 (.call 380 [(.t 94)]),
 mV 8 93,
 mV 9 95])
 (.ret)))))))))))))))))))))⟩
def n434:NF:=⟨20,[6],
 .seq (.region [
 oP 6 (.mov (.c (.c .nils)))])
 (kL [0,1,2] 0 (.seq (.region [
 mV 10 0,
 mV 11 2,
 mV 12 1,
 oP 13 (.build [(.int .i64 0),(.int .i64 0),(.int .i64 0),(.int .i64 0),.nils] [(0,(1,(cI 1))),(1,(1,(.t 11))),(2,(1,(.t 12)))]),
 oP 14 (.bslice false 5 1 [(.int .i64 0),(.int .i64 0),(.int .i64 0),(.int .i64 0),.nils] [(0,(5,(.t 13)))]),
 oP 15 (.build [(.int .i64 0),(.int .i64 0),(.int .i64 0),(.int .i64 0),.nils,.nils] [(0,(1,(cI 3))),(1,(1,(.t 10))),(2,(1,(cI 64))),(4,(1,(.t 14)))]),
 oP 16 (.call 435 [(.t 15)]),
 mV 9 16,
 oP 17 (.ext (.t 9) 0),
 oP 18 (.ext (.t 9) 1),
 mV 7 17,
 mV 8 18])
 (kL [7] 0 (.seq (.region [
 mV 19 7,
 mV 6 19])
 (.ret)))))⟩
def n342:NF:=⟨36,[],
 .seq (.seq (.region [
 mV 3 0,
 oP 4 (.bin .eql .ptr (.t 3) (.c (.c .nilp))),
 mV 5 4,
 mG 6 0 5 false,
 oG 7 (.nilck (.t 6)) 5 false,
 oG 8 (.faddr 9 (.t 7)) 5 false,
 oG 9 (lD 8) 5 false,
 oG 10 (.bin .eql .num (.t 9) (cI 0)) 5 false,
 oP 11 (.pick (.t 5) (cB true) (.t 10))])
 (kL [0,11] 0 (.cond (.t 11)
 (.ret)
 (.skip))))
 (kL [0] 0 (.seq (.region [
 mV 12 0,
 oP 13 (.nilck (.t 12)),
 oP 14 (.faddr 10 (.t 13)),
 oP 15 (lD 14),
 oP 16 (.call 372 [(.t 15)]),
 mV 2 16])
 (kL [0,2] 0 (.seq (.draw 0 [
 ⟨0,none,(mV 17 0),[]⟩,
 ⟨1,none,(mV 18 0),[]⟩,
 ⟨2,none,(oP 19 (.nilck (.t 18))),[]⟩,
 ⟨3,none,(oP 20 (.faddr 0 (.t 19))),[]⟩,
 ⟨4,none,(oP 21 (.load (some 9) (.t 20))),[]⟩,
 ⟨5,none,(mV 22 0),[]⟩,
 ⟨6,none,(oP 23 (.nilck (.t 22))),[]⟩,
 ⟨7,none,(oP 24 (.faddr 9 (.t 23))),[]⟩,
 ⟨8,none,(oP 25 (lD 24)),[]⟩,
 ⟨9,none,(oP 26 (.call 260 [(.t 21),(.t 25)])),[]⟩,
 ⟨10,none,(oP 27 (.nilck (.t 26))),[]⟩,
 ⟨11,none,(oP 28 (.load (some 32) (.t 27))),[]⟩,
 ⟨12,none,(oP 29 (.nilck (.t 17))),[]⟩,
 ⟨13,none,(oW (.store 32 (.t 29) (.t 28))),[]⟩])
 (kL [0,2] 0 (.region [
 mV 30 0,
 oP 31 (.nilck (.t 30)),
 oP 32 (.faddr 10 (.t 31)),
 oP 33 (lD 32),
 mV 34 2,
 oP 35 (.call 385 [(.t 33),(.t 34)])]))))))⟩
def n261:NF:=⟨135,[8,9],
 .seq (.region [
 oP 8 (.mov (cI 0)),
 oP 9 (.mov (cI 0))])
 (kL [0,1,2,3] 0 (.seq (.seq (.region [
 mV 16 0,
 oP 17 (.bin .eql .ptr (.t 16) (.c (.c .nilp))),
 mV 18 17,
 mG 19 1 18 false,
 oG 20 (.call 272 [(.t 19)]) 18 false,
 oG 21 (.un .not (.t 20)) 18 false,
 oP 22 (.pick (.t 18) (cB true) (.t 21)),
 mV 23 22,
 mG 24 0 23 false,
 mG 25 2 23 false,
 oG 26 (.call 273 [(.t 24),(.t 25)]) 23 false,
 oG 27 (.un .not (.t 26)) 23 false,
 oP 28 (.pick (.t 23) (cB true) (.t 27)),
 mV 29 28,
 mG 30 2 29 false,
 mG 31 0 29 false,
 oG 32 (.nilck (.t 31)) 29 false,
 oG 33 (.faddr 9 (.t 32)) 29 false,
 oG 34 (lD 33) 29 false,
 oG 35 (.bin .eql .num (.t 30) (.t 34)) 29 false,
 oP 36 (.pick (.t 29) (cB true) (.t 35)),
 mV 37 36,
 mG 38 3 37 false,
 oG 39 (.len .sl (.t 38)) 37 false,
 oG 40 (.call 267 [(.t 39),(cI 1),(cI 24)]) 37 false,
 oG 41 (.un .not (.t 40)) 37 false,
 oP 42 (.pick (.t 37) (cB true) (.t 41))])
 (kL [0,1,2,3,42] 0 (.cond (.t 42)
 (.seq (.region [
 oP 8 (.mov (cI 0)),
 oP 9 (.mov (cI 1))])
 (.ret))
 (.skip))))
 (kL [0,1,2,3] 0 (.seq (.seq (.region [
 mV 43 0,
 oP 44 (.nilck (.t 43)),
 oP 45 (.faddr 18 (.t 44)),
 oP 46 (lD 45),
 oP 47 (.un .not (.t 46)),
 mV 48 47,
 mG 49 0 48 false,
 oG 50 (.nilck (.t 49)) 48 false,
 oG 51 (.faddr 9 (.t 50)) 48 false,
 oG 52 (lD 51) 48 false,
 oG 53 (.bin .neq .num (.t 52) (cI 0)) 48 false,
 mG 54 53 48 false,
 mG 55 0 54 true,
 oG 56 (.call 274 [(.t 55)]) 54 true,
 oG 57 (.bin .eql .num (.t 56) (cI 64)) 54 true,
 oG 58 (.pick (.t 54) (.t 57) (cB false)) 48 false,
 oP 59 (.pick (.t 48) (cB true) (.t 58))])
 (kL [0,1,2,3,59] 0 (.cond (.t 59)
 (.seq (.region [
 oP 8 (.mov (cI 0)),
 oP 9 (.mov (cI 7))])
 (.ret))
 (.skip))))
 (kL [0,1,2,3] 0 (.seq (.draw 2 [
 ⟨0,none,(mV 60 0),[]⟩,
 ⟨1,none,(oP 61 (.nilck (.t 60))),[]⟩,
 ⟨2,none,(oP 62 (.faddr 9 (.t 61))),[]⟩,
 ⟨3,none,(oP 63 (lD 62)),[]⟩,
 ⟨4,none,(mV 64 2),[]⟩,
 ⟨5,none,(mV 65 0),[]⟩,
 ⟨6,none,(oP 66 (.nilck (.t 65))),[]⟩,
 ⟨7,none,(oP 67 (.faddr 16 (.t 66))),[]⟩,
 ⟨8,none,(oP 68 (lD 67)),[]⟩,
 ⟨9,none,(oP 69 (.bin .add .num (.t 68) (cI 1))),[]⟩,
 ⟨10,none,(mV 70 1),[]⟩,
 ⟨11,none,(oP 71 (.bin .mul .num (.t 70) (cI 64))),[]⟩,
 ⟨12,none,(oP 72 (.max [(.t 69),(.t 71)])),[]⟩,
 ⟨13,none,(mV 73 0),[]⟩,
 ⟨14,none,(oP 74 (.nilck (.t 73))),[]⟩,
 ⟨15,none,(oP 75 (.faddr 0 (.t 74))),[]⟩,
 ⟨16,none,(oP 76 (.faddr 8 (.t 75))),[]⟩,
 ⟨17,none,(oP 77 (lD 76)),[]⟩,
 ⟨18,none,(mV 78 0),[]⟩,
 ⟨19,none,(oP 79 (.nilck (.t 78))),[]⟩,
 ⟨20,none,(oP 80 (.faddr 9 (.t 79))),[]⟩,
 ⟨21,none,(oP 81 (lD 80)),[]⟩,
 ⟨23,none,(mV 83 3),[]⟩,
 ⟨22,(some 0),(oP 82 (.bslice false 1 1 [(.int .i64 0)] [(0,(1,(.t 81)))])),[]⟩,
 ⟨24,none,(oP 84 (.build [(.int .i64 0),(.int .i64 0),(.int .i64 0),(.int .i64 0),.nils,.nils] [(0,(1,(.t 63))),(1,(1,(.t 64))),(2,(1,(.t 72))),(3,(1,(.t 77))),(4,(1,(.t 82))),(5,(1,(.t 83)))])),[]⟩,
 ⟨25,(some 1),(oP 10 (.box false 6 (.c (.agg [(.int .i64 0),(.int .i64 0),(.int .i64 0),(.int .i64 0),.nils,.nils])))),[]⟩,
 ⟨26,none,(oW (.store 6 (.t 10) (.t 84))),[]⟩])
 (kL [0,2,10] 0 (.seq (.region [
 oP 11 (.mov (cI 64))])
 (kL [0,2,10,11] 0 (.seq (.seq (.region [
 mV 85 0,
 oP 86 (.nilck (.t 85)),
 oP 87 (.faddr 9 (.t 86)),
 oP 88 (lD 87),
 oP 89 (.bin .eql .num (.t 88) (cI 0))])
 (kL [0,2,10,11,89] 0 (.cond (.t 89)
 (.seq (.region [
 mV 91 0,
 oP 92 (.nilck (.t 91)),
 oP 93 (.faddr 22 (.t 92)),
 oP 94 (lD 93),
 mV 95 2,
 oP 96 (.look (.int .i64) (.c .nils) true (.t 94) (.t 95)),
 mV 90 96,
 oP 97 (.ext (.t 90) 0),
 oP 98 (.ext (.t 90) 1),
 mV 12 97,
 mV 13 98])
 (kL [0,10,12,13] 0 (.seq (.seq (.region [
 mV 99 13,
 oP 100 (.un .not (.t 99))])
 (kL [0,10,12,100] 0 (.cond (.t 100)
 (.seq (.region [
 oP 8 (.mov (cI 0)),
 oP 9 (.mov (cI 6))])
 (.ret))
 (.skip))))
 (kL [0,10,12] 0 (.draw 0 [
 ⟨0,none,(mV 101 12),[]⟩,
 ⟨1,none,(mV 102 12),[]⟩,
 ⟨2,none,(oP 103 (.iaddr 1 (.t 102) (cI 1))),[]⟩,
 ⟨3,none,(oP 104 (lD 103)),[]⟩,
 ⟨4,none,(oP 105 (.faddr 4 (.t 10))),[]⟩,
 ⟨5,none,(oW (.store 1 (.t 105) (.t 101))),[(2,(oP 103 (.iaddr 1 (.t 102) (cI 1)))),(3,(oP 104 (lD 103)))]⟩,
 ⟨6,none,(mV 11 104),[]⟩])))))
 (.skip))))
 (kL [0,10,11] 0 (.seq (.region [
 oP 107 (.load (some 6) (.t 10)),
 oP 108 (.call 275 [(.t 107)]),
 mV 106 108,
 oP 109 (.ext (.t 106) 0),
 oP 110 (.ext (.t 106) 1),
 mV 14 109,
 mV 15 110])
 (kL [0,10,11,14,15] 0 (.seq (.seq (.region [
 oP 111 (.faddr 2 (.t 10)),
 oP 112 (lD 111),
 oP 113 (.bin .gtr .num (.t 112) (cI 70368744177663)),
 mV 114 113,
 mG 115 15 114 false,
 oG 116 (.bin .neq .num (.t 115) (cI 0)) 114 false,
 oP 117 (.pick (.t 114) (cB true) (.t 116)),
 mV 118 117,
 mG 119 0 118 false,
 oG 120 (.nilck (.t 119)) 118 false,
 oG 121 (.faddr 11 (.t 120)) 118 false,
 oG 122 (lD 121) 118 false,
 mG 123 11 118 false,
 mG 124 14 118 false,
 oG 125 (.call 276 [(.t 122),(.t 123),(.t 124)]) 118 false,
 oG 126 (.un .not (.t 125)) 118 false,
 oP 127 (.pick (.t 118) (cB true) (.t 126))])
 (kL [0,10,127] 0 (.cond (.t 127)
 (.seq (.region [
 oP 8 (.mov (cI 0)),
 oP 9 (.mov (cI 5))])
 (.ret))
 (.skip))))
 (kL [0,10] 0 (.seq (.region [
 mV 128 0,
 oP 129 (.faddr 2 (.t 10)),
 oP 130 (lD 129),
 oP 131 (.nilck (.t 128)),
 oP 132 (.faddr 16 (.t 131)),
 oW (.store 1 (.t 132) (.t 130))])
 (kL [10] 0 (.seq (.region [
 oP 133 (.faddr 2 (.t 10)),
 oP 134 (lD 133),
 mV 8 134,
 oP 9 (.mov (cI 0))])
 (.ret)))))))))))))))))))⟩
def n262:NF:=⟨96,[4,5],
 .seq (.region [
 oP 4 (.mov (cI 0)),
 oP 5 (.mov (.c (.c .nils)))])
 (kL [0,1] 0 (.seq (.block 0 (.seq (.region [
 mV 11 0,
 oP 12 (.bin .eql .ptr (.t 11) (.c (.c .nilp))),
 mV 13 12,
 mG 14 1 13 false,
 oG 15 (.call 272 [(.t 14)]) 13 false,
 oG 16 (.un .not (.t 15)) 13 false,
 oP 17 (.pick (.t 13) (cB true) (.t 16)),
 mV 10 17])
 (kL [0,1,10] 0 (.cond (.t 10)
 (.seq (.region [
 oP 4 (.mov (cI (-1))),
 oP 5 (.mov (.c (.c .nils)))])
 (.ret))
 (.seq (.region [
 mV 19 0,
 oP 20 (.nilck (.t 19)),
 oP 21 (.faddr 18 (.t 20)),
 oP 22 (lD 21),
 oP 23 (.un .not (.t 22)),
 mV 18 23])
 (kL [0,1,18] 0 (.cond (.t 18)
 (.seq (.draw 0 [
 ⟨0,none,(mV 24 0),[]⟩,
 ⟨1,none,(oP 25 (.nilck (.t 24))),[]⟩,
 ⟨2,none,(oP 26 (.faddr 0 (.t 25))),[]⟩,
 ⟨3,none,(oP 27 (.faddr 2 (.t 26))),[]⟩,
 ⟨4,none,(oP 28 (lD 27)),[]⟩,
 ⟨5,none,(mV 29 0),[]⟩,
 ⟨6,none,(oP 30 (.nilck (.t 29))),[]⟩,
 ⟨7,none,(oP 31 (.faddr 10 (.t 30))),[]⟩,
 ⟨8,none,(oP 32 (lD 31)),[]⟩,
 ⟨10,none,(mV 34 0),[]⟩,
 ⟨11,none,(oP 35 (.nilck (.t 34))),[]⟩,
 ⟨12,none,(oP 36 (.faddr 0 (.t 35))),[]⟩,
 ⟨13,none,(oP 37 (.faddr 0 (.t 36))),[]⟩,
 ⟨14,none,(oP 38 (lD 37)),[]⟩,
 ⟨15,none,(mV 39 0),[]⟩,
 ⟨16,none,(oP 40 (.nilck (.t 39))),[]⟩,
 ⟨17,none,(oP 41 (.faddr 0 (.t 40))),[]⟩,
 ⟨18,none,(oP 42 (.faddr 2 (.t 41))),[]⟩,
 ⟨19,none,(oP 43 (lD 42)),[]⟩,
 ⟨20,none,(oP 44 (.len .sl (.t 43))),[]⟩,
 ⟨21,none,(oP 45 (.bin .mul .num (.t 38) (.t 44))),[]⟩,
 ⟨9,none,(oP 33 (.call 277 [(.t 32)])),[(4,(oP 28 (lD 27))),(14,(oP 38 (lD 37))),(19,(oP 43 (lD 42))),(20,(oP 44 (.len .sl (.t 43))))]⟩,
 ⟨22,none,(oP 46 (.bin .quo .num (.t 33) (.t 45))),[]⟩,
 ⟨23,none,(oP 47 (.call 278 [(.t 28),(.c (.c (.int .u32 0))),(.t 46),(cI 0)])),[]⟩,
 ⟨24,none,(mV 4 47),[]⟩,
 ⟨25,none,(oP 5 (.mov (.c (.c .nils)))),[]⟩])
 (.ret))
 (.skip))))))))
 (kL [0,1] 0 (.seq (.region [
 mV 48 0,
 oP 49 (.nilck (.t 48)),
 oP 50 (.faddr 0 (.t 49)),
 oP 51 (.faddr 2 (.t 50)),
 oP 52 (lD 51),
 mV 53 1,
 oP 54 (.call 278 [(.t 52),(.c (.c (.int .u32 0))),(.t 53),(cI 0)]),
 mV 6 54])
 (kL [0,1,6] 0 (.seq (.seq (.draw 0 [
 ⟨0,none,(mV 55 1),[]⟩,
 ⟨1,none,(mV 56 0),[]⟩,
 ⟨2,none,(oP 57 (.nilck (.t 56))),[]⟩,
 ⟨3,none,(oP 58 (.faddr 0 (.t 57))),[]⟩,
 ⟨4,none,(oP 59 (.faddr 0 (.t 58))),[]⟩,
 ⟨5,none,(oP 60 (lD 59)),[]⟩,
 ⟨6,none,(oP 61 (.bin .rem .num (.t 55) (.t 60))),[]⟩,
 ⟨7,none,(mV 62 0),[]⟩,
 ⟨8,none,(oP 63 (.nilck (.t 62))),[]⟩,
 ⟨9,none,(oP 64 (.faddr 9 (.t 63))),[]⟩,
 ⟨10,none,(oP 65 (lD 64)),[]⟩,
 ⟨11,none,(oP 66 (.bin .neq .num (.t 61) (.t 65))),[]⟩])
 (kL [0,1,6,66] 0 (.cond (.t 66)
 (.seq (.region [
 mV 67 6,
 mV 4 67,
 oP 5 (.mov (.c (.c .nils)))])
 (.ret))
 (.skip))))
 (kL [0,1,6] 0 (.seq (.region [
 mV 68 0,
 mV 69 1,
 oP 70 (.call 279 [(.t 68),(.t 69)]),
 oP 7 (.box true 6 (.c (.agg [(.int .i64 0),(.int .i64 0),(.int .i64 0),(.int .i64 0),.nils,.nils]))),
 oW (.store 6 (.t 7) (.t 70))])
 (kL [0,1,6,7] 1 (.seq (.region [
 oP 72 (.load (some 6) (.t 7)),
 oP 73 (.call 280 [(.t 72)]),
 mV 71 73,
 oP 74 (.ext (.t 71) 0),
 oP 75 (.ext (.t 71) 1),
 mV 8 74,
 mV 9 75])
 (kL [0,1,6,7,8] 1 (.seq (.region [
 mV 76 0,
 mV 77 0,
 oP 78 (.nilck (.t 77)),
 oP 79 (.faddr 15 (.t 78)),
 oP 80 (lD 79),
 oP 81 (.bin .add .num (.t 80) (cI 1)),
 oP 82 (.bin .rem .num (.t 81) (cI 256)),
 oP 83 (.nilck (.t 76)),
 oP 84 (.faddr 15 (.t 83)),
 oW (.store 1 (.t 84) (.t 82))])
 (kL [0,1,6,7,8] 1 (.seq (.region [
 mV 85 0,
 mV 86 1,
 oP 87 (.load (some 6) (.t 7)),
 oP 88 (.faddr 0 (.t 7)),
 oP 89 (lD 88),
 oP 90 (.bin .neq .num (.t 89) (cI 3)),
 oP 91 (.build [(.int .i64 0),(.int .i64 0),(.int .i64 0),(.int .i64 0),(.int .i64 0),.nils,.nils,(.bool false)] [(0,(1,(.t 86))),(1,(6,(.t 87))),(7,(1,(.t 90)))]),
 oP 92 (.nilck (.t 85)),
 oP 93 (.faddr 23 (.t 92)),
 oW (.store 8 (.t 93) (.t 91))])
 (kL [6,8] 0 (.seq (.region [
 mV 94 6,
 mV 95 8,
 mV 4 94,
 mV 5 95])
 (.ret)))))))))))))))))⟩
def n264b:Code:=
 .seq (.region [
 oP 2 (.box false 6 (.c (.agg [(.int .i64 0),(.int .i64 0),(.int .i64 0),(.int .i64 0),.nils,.nils]))),
 oP 3 (.mov (cI 0))])
 (kL [0,2] 0 (.seq (.region [
 oP 11 (.build [(.int .i64 0),(.int .i64 0),(.int .i64 0),(.int .i64 0),.nils,.nils] []),
 oP 4 (.box true 6 (.c (.agg [(.int .i64 0),(.int .i64 0),(.int .i64 0),(.int .i64 0),.nils,.nils]))),
 oW (.store 6 (.t 4) (.t 11))])
 (kL [0,2,4] 1 (.seq (.seq (.region [
 mV 12 0,
 oP 13 (.len .sl (.t 12)),
 oP 14 (.bin .lss .num (.t 13) (cI 9))])
 (kL [0,2,4,14] 1 (.cond (.t 14)
 (.seq (.region [
 oP 15 (.load (some 6) (.t 4)),
 oW (.store 6 (.t 2) (.t 15)),
 oP 3 (.mov (cI 2))])
 (.ret))
 (.skip))))
 (kL [0,2,4] 1 (.seq (.seq (.region [
 mV 16 0,
 oP 17 (.call 282 [(.t 16)]),
 oP 18 (.un .not (.t 17))])
 (kL [0,2,4,18] 1 (.cond (.t 18)
 (.seq (.region [
 oP 19 (.load (some 6) (.t 4)),
 oW (.store 6 (.t 2) (.t 19)),
 oP 3 (.mov (cI 4))])
 (.ret))
 (.skip))))
 (kL [0,2,4] 1 (.seq (.region [
 mV 20 0,
 mV 21 0,
 oP 22 (.len .sl (.t 21)),
 oP 23 (.bin .sub .num (.t 22) (cI 2)),
 oP 24 (.slice 1 (.t 20) none (some (.t 23)) none),
 oP 25 (.build [.nils,(.int .i64 0)] [(0,(1,(.t 24)))]),
 oP 26 (.box false 2 (.t 25)),
 mV 5 26])
 (kL [2,4,5] 1 (.seq (.region [
 mV 27 5,
 oP 28 (.call 283 [(.t 27)]),
 mV 6 28])
 (kL [2,4,5,6] 1 (.seq (.region [
 mV 29 5,
 oP 30 (.call 283 [(.t 29)]),
 mV 31 5,
 oP 32 (.call 283 [(.t 31)]),
 mV 33 5,
 oP 34 (.call 283 [(.t 33)]),
 mV 35 5,
 oP 36 (.call 283 [(.t 35)]),
 oP 37 (.build [(.int .i64 0),(.int .i64 0),(.int .i64 0),(.int .i64 0),.nils,.nils] [(0,(1,(.t 30))),(1,(1,(.t 32))),(2,(1,(.t 34))),(3,(1,(.t 36)))]),
 oP 7 (.box true 6 (.c (.agg [(.int .i64 0),(.int .i64 0),(.int .i64 0),(.int .i64 0),.nils,.nils]))),
 oW (.store 6 (.t 7) (.t 37))])
 (kL [2,4,5,6,7] 2 (.seq (.region [
 mV 38 5,
 mV 39 5,
 oP 40 (.call 283 [(.t 39)]),
 oP 41 (.call 284 [(.t 38),(.t 40)]),
 mV 8 41])
 (kL [2,4,5,6,7,8] 2 (.seq (.region [
 mV 42 5,
 mV 43 5,
 oP 44 (.call 283 [(.t 43)]),
 oP 45 (.call 284 [(.t 42),(.t 44)]),
 oP 46 (.faddr 5 (.t 7)),
 oW (.store 1 (.t 46) (.t 45))])
 (kL [2,4,5,6,7,8] 2 (.seq (.seq (.region [
 mV 47 6,
 oP 48 (.bin .neq .num (.t 47) (cI 197)),
 mV 49 48,
 mG 50 5 49 false,
 oG 51 (.call 285 [(.t 50)]) 49 false,
 oG 52 (.bin .neq .num (.t 51) (cI 0)) 49 false,
 oP 53 (.pick (.t 49) (cB true) (.t 52))])
 (kL [2,4,7,8,53] 2 (.cond (.t 53)
 (.seq (.region [
 oP 54 (.load (some 6) (.t 4)),
 oW (.store 6 (.t 2) (.t 54)),
 oP 3 (.mov (cI 3))])
 (.ret))
 (.skip))))
 (kL [2,4,7,8] 2 (.seq (.region [
 mV 56 8,
 oP 57 (.call 286 [(.t 56)]),
 mV 55 57,
 oP 58 (.ext (.t 55) 0),
 oP 59 (.ext (.t 55) 1),
 mV 9 58,
 mV 10 59])
 (kL [2,4,7,9,10] 2 (.seq (.seq (.region [
 mV 60 10,
 oP 61 (.bin .neq .num (.t 60) (cI 0))])
 (kL [2,4,7,9,10,61] 2 (.cond (.t 61)
 (.seq (.region [
 oP 62 (.load (some 6) (.t 4)),
 mV 63 10,
 oW (.store 6 (.t 2) (.t 62)),
 mV 3 63])
 (.ret))
 (.skip))))
 (kL [2,4,7,9] 2 (.seq (.region [
 mV 64 9,
 oP 65 (.faddr 4 (.t 7)),
 oW (.store 1 (.t 65) (.t 64))])
 (kL [2,4,7] 2 (.seq (.seq (.region [
 oP 66 (.load (some 6) (.t 7)),
 oP 67 (.call 287 [(.t 66)]),
 oP 68 (.un .not (.t 67))])
 (kL [2,4,7,68] 2 (.cond (.t 68)
 (.seq (.region [
 oP 69 (.load (some 6) (.t 4)),
 oW (.store 6 (.t 2) (.t 69)),
 oP 3 (.mov (cI 3))])
 (.ret))
 (.skip))))
 (kL [2,7] 2 (.seq (.region [
 oP 70 (.load (some 6) (.t 7)),
 oW (.store 6 (.t 2) (.t 70)),
 oP 3 (.mov (cI 0))])
 (.ret)))))))))))))))))))))))))))))
def n264:NF:=⟨71,[2,3],.fin n264b [⟨some 2,.load (some 6) (.t 2),none⟩]⟩
def n435:NF:=⟨46,[2,3],
 .seq (.region [
 oP 1 (.box true 6 (.t 0)),
 oP 2 (.mov (.c (.c .nils))),
 oP 3 (.mov (cI 0))])
 (kL [1] 1 (.seq (.seq (.region [
 oP 7 (.load (some 6) (.t 1)),
 oP 8 (.call 287 [(.t 7)]),
 oP 9 (.un .not (.t 8))])
 (kL [1,9] 1 (.cond (.t 9)
 (.seq (.region [
 oP 2 (.mov (.c (.c .nils))),
 oP 3 (.mov (cI 1))])
 (.ret))
 (.skip))))
 (kL [1] 1 (.seq (.region [
 oP 11 (.faddr 4 (.t 1)),
 oP 12 (lD 11),
 oP 13 (.call 436 [(.t 12)]),
 mV 10 13,
 oP 14 (.ext (.t 10) 0),
 oP 15 (.ext (.t 10) 1),
 mV 4 14,
 mV 5 15])
 (kL [1,4] 1 (.seq (.region [
 oP 16 (.faddr 0 (.t 1)),
 oP 17 (lD 16),
 oP 18 (.conv (.toInt .u8) (.t 17)),
 oP 19 (.faddr 1 (.t 1)),
 oP 20 (lD 19),
 oP 21 (.conv (.toInt .u8) (.t 20)),
 oP 22 (.faddr 2 (.t 1)),
 oP 23 (lD 22),
 oP 24 (.conv (.toInt .u8) (.t 23)),
 oP 25 (.faddr 3 (.t 1)),
 oP 26 (lD 25),
 oP 27 (.conv (.toInt .u8) (.t 26)),
 mV 28 4,
 oP 29 (.len .sl (.t 28)),
 oP 30 (.conv (.toInt .u8) (.t 29)),
 oP 31 (.bslice false 1 6 [(.int .u8 0)] [(0,(1,(.c (.c (.int .u8 197))))),(1,(1,(.t 18))),(2,(1,(.t 21))),(3,(1,(.t 24))),(4,(1,(.t 27))),(5,(1,(.t 30)))]),
 mV 32 4,
 oP 33 (.app 1 1 (.t 31) (.t 32)),
 mV 6 33])
 (kL [1,6] 1 (.seq (.draw 1 [
 ⟨0,none,(mV 34 6),[]⟩,
 ⟨1,none,(oP 35 (.faddr 5 (.t 1))),[]⟩,
 ⟨2,none,(oP 36 (lD 35)),[]⟩,
 ⟨3,none,(oP 37 (.len .sl (.t 36))),[]⟩,
 ⟨4,none,(oP 38 (.conv (.toInt .u8) (.t 37))),[]⟩,
 ⟨7,none,(oP 41 (.faddr 5 (.t 1))),[]⟩,
 ⟨8,none,(oP 42 (lD 41)),[]⟩,
 ⟨5,(some 0),(oP 39 (.bslice false 1 1 [(.int .u8 0)] [(0,(1,(.t 38)))])),[]⟩,
 ⟨6,none,(oP 40 (.app 1 1 (.t 34) (.t 39))),[(8,(oP 42 (lD 41)))]⟩,
 ⟨9,none,(oP 43 (.app 1 1 (.t 40) (.t 42))),[]⟩,
 ⟨10,none,(mV 6 43),[]⟩])
 (kL [6] 0 (.seq (.region [
 mV 44 6,
 oP 45 (.call 301 [(.t 44)]),
 mV 2 45,
 oP 3 (.mov (cI 0))])
 (.ret)))))))))))⟩
def n263:NF:=⟨10,[2],
 .seq (.region [
 oP 2 (.mov (cI 0))])
 (kL [0] 0 (.seq (.seq (.region [
 mV 3 0,
 oP 4 (.bin .eql .ptr (.t 3) (.c (.c .nilp)))])
 (kL [0,4] 0 (.cond (.t 4)
 (.seq (.region [
 oP 2 (.mov (cI 0))])
 (.ret))
 (.skip))))
 (kL [0] 0 (.seq (.region [
 mV 5 0,
 oP 6 (.nilck (.t 5)),
 oP 7 (.faddr 11 (.t 6)),
 oP 8 (lD 7),
 oP 9 (.call 281 [(.t 8)]),
 mV 2 9])
 (.ret)))))⟩
def n265:NF:=⟨11,[2],
 .seq (.region [
 oP 2 (.mov (cB false))])
 (kL [0] 0 (.seq (.region [
 mV 3 0,
 oP 4 (.bin .neq .ptr (.t 3) (.c (.c .nilp))),
 mV 5 4,
 mG 6 0 5 true,
 oG 7 (.nilck (.t 6)) 5 true,
 oG 8 (.faddr 18 (.t 7)) 5 true,
 oG 9 (lD 8) 5 true,
 oP 10 (.pick (.t 5) (.t 9) (cB false)),
 mV 2 10])
 (.ret)))⟩
def n345:NF:=⟨90,[4],
 .seq (.region [
 oP 4 (.mov (.c (.c .nils)))])
 (kL [0,1] 0 (.seq (.seq (.region [
 mV 8 0,
 oP 9 (.bin .eql .ptr (.t 8) (.c (.c .nilp))),
 mV 10 9,
 mG 11 1 10 false,
 oG 12 (.call 272 [(.t 11)]) 10 false,
 oG 13 (.un .not (.t 12)) 10 false,
 oP 14 (.pick (.t 10) (cB true) (.t 13)),
 mV 15 14,
 mG 16 0 15 false,
 oG 17 (.nilck (.t 16)) 15 false,
 oG 18 (.faddr 9 (.t 17)) 15 false,
 oG 19 (lD 18) 15 false,
 oG 20 (.bin .eql .num (.t 19) (cI 0)) 15 false,
 oP 21 (.pick (.t 15) (cB true) (.t 20)),
 mV 22 21,
 mG 23 0 22 false,
 oG 24 (.nilck (.t 23)) 22 false,
 oG 25 (.faddr 18 (.t 24)) 22 false,
 oG 26 (lD 25) 22 false,
 oG 27 (.un .not (.t 26)) 22 false,
 oP 28 (.pick (.t 22) (cB true) (.t 27))])
 (kL [0,1,28] 0 (.cond (.t 28)
 (.seq (.region [
 oP 4 (.mov (.c (.c .nils)))])
 (.ret))
 (.skip))))
 (kL [0,1] 0 (.seq (.region [
 mV 29 0,
 oP 30 (.nilck (.t 29)),
 oP 31 (.faddr 20 (.t 30)),
 oP 32 (lD 31),
 oP 33 (.call 382 [(.t 32)])])
 (kL [0,1] 0 (.seq (.region [
 mV 34 0,
 oP 35 (.call 274 [(.t 34)]),
 mV 5 35])
 (kL [0,1,5] 0 (.seq (.draw 0 [
 ⟨0,none,(mV 36 0),[]⟩,
 ⟨1,none,(oP 37 (.nilck (.t 36))),[]⟩,
 ⟨2,none,(oP 38 (.faddr 19 (.t 37))),[]⟩,
 ⟨3,none,(oP 39 (lD 38)),[]⟩,
 ⟨4,none,(mV 40 1),[]⟩,
 ⟨5,none,(mV 41 0),[]⟩,
 ⟨6,none,(oP 42 (.nilck (.t 41))),[]⟩,
 ⟨7,none,(oP 43 (.faddr 0 (.t 42))),[]⟩,
 ⟨8,none,(oP 44 (.faddr 6 (.t 43))),[]⟩,
 ⟨9,none,(oP 45 (lD 44)),[]⟩,
 ⟨10,none,(oP 46 (.call 56 [(.t 39),(.t 40),(.t 45)])),[]⟩])
 (kL [0,5] 0 (.seq (.seq (.region [
 mV 47 0,
 oP 48 (.call 274 [(.t 47)]),
 oP 49 (.bin .neq .num (.t 48) (cI 64))])
 (kL [0,5,49] 0 (.cond (.t 49)
 (.seq (.region [
 mV 50 0,
 mV 51 5,
 oP 52 (.call 383 [(.t 50),(.t 51)])])
 (kL [0] 0 (.seq (.region [
 mV 53 0,
 oP 54 (.call 380 [(.t 53)]),
 mV 4 54])
 (.ret))))
 (.skip))))
 (kL [0] 0 (.seq (.region [
 mV 55 0,
 mV 56 0,
 mV 57 0,
 mV 58 0,
 oP 59 (.nilck (.t 55)),
 oP 60 (.faddr 18 (.t 59)),
 oW (.store 1 (.t 60) (cB false)),
 oP 61 (.nilck (.t 56)),
 oP 62 (.faddr 21 (.t 61)),
 oW (.store 1 (.t 62) (cI 0)),
 oP 63 (.nilck (.t 57)),
 oP 64 (.faddr 19 (.t 63)),
 oW (.store 1 (.t 64) (.c (.c .nilp))),
 oP 65 (.nilck (.t 58)),
 oP 66 (.faddr 20 (.t 65)),
 oW (.store 1 (.t 66) (.c (.c .nilp)))])
 (kL [0] 0 (.seq (.region [
 mV 67 0,
 oP 68 (.build [(.int .i64 0),(.int .i64 0),(.int .i64 0),(.int .i64 0),(.int .i64 0),.nils,.nils,(.bool false)] []),
 oP 69 (.nilck (.t 67)),
 oP 70 (.faddr 23 (.t 69)),
 oW (.store 8 (.t 70) (.t 68))])
 (kL [0] 0 (.seq (.region [
 mV 71 0,
 oP 72 (.call 384 [(.t 71),(cI 3),(cI 0)])])
 (kL [0] 0 (.seq (.block 0 (.loop (kL [0] 0 (.seq (.seq (.region [
 mV 73 0,
 oP 74 (.nilck (.t 73)),
 oP 75 (.faddr 11 (.t 74)),
 oP 76 (lD 75),
 oP 77 (.call 281 [(.t 76)]),
 oP 78 (.bin .gtr .num (.t 77) (cI 0))])
 (kL [0,78] 0 (.cond (.t 78)
 (.skip)
 (.exit 0))))
 (kL [0] 0 (.block 1 (.seq (.region [
 mV 80 0,
 oP 81 (.call 378 [(.t 80)]),
 mV 79 81,
 oP 82 (.ext (.t 79) 0),
 oP 83 (.ext (.t 79) 1),
 oP 6 (.box true 6 (.c (.agg [(.int .i64 0),(.int .i64 0),(.int .i64 0),(.int .i64 0),.nils,.nils]))),
 oW (.store 6 (.t 6) (.t 82)),
 mV 7 83])
 (kL [0,6,7] 1 (.seq (.region [
 mV 84 7])
 (kL [0,6,84] 1 (.cond (.t 84)
 (.region [
 mV 85 0,
 oP 86 (.load (some 6) (.t 6)),
 oP 87 (.call 379 [(.t 85),(.t 86),(cI 3)])])
 (.skip))))))))))))
 (kL [0] 0 (.seq (.region [
 mV 88 0,
 oP 89 (.call 380 [(.t 88)]),
 mV 4 89])
 (.ret)))))))))))))))))))))⟩
def n260:NF:=⟨38,[4],
 .seq (.region [
 oP 2 (.box true 9 (.t 0)),
 oP 4 (.mov (.c (.c .nilp)))])
 (kL [1,2] 1 (.seq (.seq (.region [
 oP 5 (.load (some 9) (.t 2)),
 oP 6 (.call 266 [(.t 5)]),
 oP 7 (.un .not (.t 6)),
 mV 8 7,
 mG 9 1 8 false,
 oG 10 (.faddr 0 (.t 2)) 8 false,
 oG 11 (lD 10) 8 false,
 oG 12 (.bin .sub .num (.t 11) (cI 1)) 8 false,
 oG 13 (.call 267 [(.t 9),(cI 0),(.t 12)]) 8 false,
 oG 14 (.un .not (.t 13)) 8 false,
 oP 15 (.pick (.t 8) (cB true) (.t 14))])
 (kL [1,2,15] 1 (.cond (.t 15)
 (.seq (.region [
 oP 4 (.mov (.c (.c .nilp)))])
 (.ret))
 (.skip))))
 (kL [1,2] 1 (.seq (.draw 0 [
 ⟨0,none,(oP 16 (.faddr 1 (.t 2))),[]⟩,
 ⟨1,none,(oP 17 (lD 16)),[]⟩,
 ⟨3,none,(oP 19 (.faddr 2 (.t 2))),[]⟩,
 ⟨4,none,(oP 20 (lD 19)),[]⟩,
 ⟨2,none,(oP 18 (.call 268 [(.t 17)])),[(4,(oP 20 (lD 19)))]⟩,
 ⟨6,none,(oP 22 (.faddr 1 (.t 2))),[]⟩,
 ⟨5,none,(oP 21 (.call 203 [(.t 20)])),[]⟩,
 ⟨7,none,(oW (.store 1 (.t 22) (.t 18))),[]⟩,
 ⟨8,none,(oP 23 (.faddr 2 (.t 2))),[]⟩,
 ⟨9,none,(oW (.store 1 (.t 23) (.t 21))),[]⟩])
 (kL [1,2] 1 (.seq (.draw 2 [
 ⟨0,none,(oP 24 (.load (some 9) (.t 2))),[]⟩,
 ⟨1,none,(mV 25 1),[]⟩,
 ⟨3,none,(oP 27 (.faddr 7 (.t 2))),[]⟩,
 ⟨4,none,(oP 28 (lD 27)),[]⟩,
 ⟨9,none,(mV 33 1),[]⟩,
 ⟨10,none,(oP 34 (.bin .eql .num (.t 33) (cI 0))),[]⟩,
 ⟨2,none,(oP 26 (.call 269 [])),[(0,(oP 24 (.load (some 9) (.t 2)))),(4,(oP 28 (lD 27)))]⟩,
 ⟨5,none,(oP 29 (.call 270 [(.t 28)])),[(0,(oP 24 (.load (some 9) (.t 2))))]⟩,
 ⟨6,none,(oP 30 (.call 271 [])),[(0,(oP 24 (.load (some 9) (.t 2))))]⟩,
 ⟨7,none,(oP 31 (.call 271 [])),[(0,(oP 24 (.load (some 9) (.t 2))))]⟩,
 ⟨8,none,(oP 32 (.call 271 [])),[(0,(oP 24 (.load (some 9) (.t 2))))]⟩,
 ⟨11,(some 0),⟨(some 35),.mkmap,none⟩,[]⟩,
 ⟨12,none,(oP 36 (.build [(.int .i64 0),.nils,.nils,(.int .i64 0),(.int .i64 0),(.int .i64 0),(.int .i64 0),(.int .i64 0),(.int .i64 0),(.int .i64 0),.nilp,.nilp,.nilp,.nilp,.nilp,(.int .i64 0),(.int .i64 0),(.int .i64 0),(.bool false),.nilp,.nilp,(.int .i64 0),.nilm,(.int .i64 0),(.int .i64 0),(.int .i64 0),(.int .i64 0),(.int .i64 0),.nils,.nils,(.bool false),.nils] [(0,(9,(.t 24))),(9,(1,(.t 25))),(10,(1,(.t 26))),(11,(1,(.t 29))),(12,(1,(.t 30))),(13,(1,(.t 31))),(14,(1,(.t 32))),(16,(1,(cI (-1)))),(18,(1,(.t 34))),(22,(1,(.t 35)))])),[]⟩,
 ⟨13,(some 1),(oP 37 (.box false 32 (.t 36))),[]⟩,
 ⟨14,none,(mV 4 37),[]⟩])
 (.ret)))))))⟩
def n312:NF:=⟨24,[2],
 .seq (.region [
 oP 2 (.mov (cI 0))])
 (kL [0] 0 (.seq (.block 0 (.seq (.region [
 mV 4 0,
 oP 5 (.bin .eql .ptr (.t 4) (.c (.c .nilp))),
 mV 6 5,
 mG 7 0 6 false,
 oG 8 (.nilck (.t 7)) 6 false,
 oG 9 (.faddr 18 (.t 8)) 6 false,
 oG 10 (lD 9) 6 false,
 oG 11 (.un .not (.t 10)) 6 false,
 oP 12 (.pick (.t 6) (cB true) (.t 11)),
 mV 3 12])
 (kL [0,3] 0 (.cond (.t 3)
 (.seq (.region [
 oP 2 (.mov (cI 255))])
 (.ret))
 (.seq (.region [
 mV 14 0,
 oP 15 (.nilck (.t 14)),
 oP 16 (.faddr 9 (.t 15)),
 oP 17 (lD 16),
 oP 18 (.bin .eql .num (.t 17) (cI 0)),
 mV 13 18])
 (kL [0,13] 0 (.cond (.t 13)
 (.seq (.region [
 oP 2 (.mov (cI 0))])
 (.ret))
 (.skip))))))))
 (kL [0] 0 (.seq (.region [
 mV 19 0,
 oP 20 (.nilck (.t 19)),
 oP 21 (.faddr 19 (.t 20)),
 oP 22 (lD 21),
 oP 23 (.call 66 [(.t 22)]),
 mV 2 23])
 (.ret)))))⟩
def n346:NF:=⟨10,[2],
 .seq (.region [
 oP 2 (.mov (.c (.c .nils)))])
 (kL [0] 0 (.seq (.seq (.region [
 mV 3 0,
 oP 4 (.bin .eql .ptr (.t 3) (.c (.c .nilp)))])
 (kL [0,4] 0 (.cond (.t 4)
 (.seq (.region [
 oP 2 (.mov (.c (.c .nils)))])
 (.ret))
 (.skip))))
 (kL [0] 0 (.seq (.region [
 mV 5 0,
 oP 6 (.nilck (.t 5)),
 oP 7 (.faddr 19 (.t 6)),
 oP 8 (lD 7),
 oP 9 (.call 64 [(.t 8)]),
 mV 2 9])
 (.ret)))))⟩
def n272:NF:=⟨9,[2],
 .seq (.region [
 oP 2 (.mov (cB false))])
 (kL [0] 0 (.seq (.region [
 mV 3 0,
 oP 4 (.bin .geq .num (.t 3) (cI 0)),
 mV 5 4,
 mG 6 0 5 true,
 oG 7 (.bin .lss .num (.t 6) (cI 1099511627776)) 5 true,
 oP 8 (.pick (.t 5) (.t 7) (cB false)),
 mV 2 8])
 (.ret)))⟩
def n387:NF:=⟨30,[],
 .seq (.seq (.region [
 mV 4 0,
 oP 5 (.bin .eql .ptr (.t 4) (.c (.c .nilp))),
 mV 6 5,
 mG 7 0 6 false,
 oG 8 (.nilck (.t 7)) 6 false,
 oG 9 (.faddr 2 (.t 8)) 6 false,
 oG 10 (lD 9) 6 false,
 oG 11 (.bin .geq .num (.t 10) (cI 1099511627776)) 6 false,
 oP 12 (.pick (.t 6) (cB true) (.t 11))])
 (kL [0,1,12] 0 (.cond (.t 12)
 (.ret)
 (.skip))))
 (kL [0,1] 0 (.seq (.region [
 mV 13 0,
 oP 14 (.nilck (.t 13)),
 oP 15 (.faddr 2 (.t 14)),
 oP 16 (lD 15),
 oP 17 (.bin .add .num (.t 16) (cI 1)),
 oP 18 (.nilck (.t 13)),
 oP 19 (.faddr 2 (.t 18)),
 oW (.store 1 (.t 19) (.t 17))])
 (kL [0,1] 0 (.draw 0 [
 ⟨0,none,(mV 20 0),[]⟩,
 ⟨1,none,(oP 21 (.nilck (.t 20))),[]⟩,
 ⟨2,none,(oP 22 (.faddr 1 (.t 21))),[]⟩,
 ⟨3,none,(oP 23 (lD 22)),[]⟩,
 ⟨4,none,(mV 24 1),[]⟩,
 ⟨5,none,(oP 25 (.call 402 [(.t 24),(cI 100)])),[(3,(oP 23 (lD 22)))]⟩,
 ⟨6,none,(oP 26 (.bin .mul .num (.t 25) (cI 10000))),[]⟩,
 ⟨7,none,(oP 27 (.bin .add .num (.t 23) (.t 26))),[]⟩,
 ⟨8,none,(oP 28 (.nilck (.t 20))),[]⟩,
 ⟨9,none,(oP 29 (.faddr 1 (.t 28))),[]⟩,
 ⟨10,none,(oW (.store 1 (.t 29) (.t 27))),[]⟩]))))⟩
def n375b:Code:=
 .seq (.region [
 oP 2 (.box false 6 (.c (.agg [(.int .i64 0),(.int .i64 0),(.int .i64 0),(.int .i64 0),.nils,.nils]))),
 oP 3 (.mov (cI 0))])
 (kL [0,2] 0 (.seq (.block 0 (.seq (.region [
 mV 10 0,
 oP 11 (.len .sl (.t 10)),
 oP 12 (.bin .lss .num (.t 11) (cI 9)),
 mV 9 12])
 (kL [0,2,9] 0 (.cond (.t 9)
 (.seq (.region [
 oP 13 (.build [(.int .i64 0),(.int .i64 0),(.int .i64 0),(.int .i64 0),.nils,.nils] []),
 oW (.store 6 (.t 2) (.t 13)),
 oP 3 (.mov (cI 2))])
 (.ret))
 (.seq (.region [
 mV 15 0,
 oP 16 (.call 394 [(.t 15)]),
 oP 17 (.un .not (.t 16)),
 mV 14 17])
 (kL [0,2,14] 0 (.cond (.t 14)
 (.seq (.region [
 oP 18 (.build [(.int .i64 0),(.int .i64 0),(.int .i64 0),(.int .i64 0),.nils,.nils] []),
 oW (.store 6 (.t 2) (.t 18)),
 oP 3 (.mov (cI 4))])
 (.ret))
 (.skip))))))))
 (kL [0,2] 0 (.seq (.region [
 mV 19 0,
 mV 20 0,
 oP 21 (.len .sl (.t 20)),
 oP 22 (.bin .sub .num (.t 21) (cI 2)),
 oP 23 (.slice 1 (.t 19) none (some (.t 22)) none),
 oP 24 (.call 395 [(.t 23)]),
 mV 4 24])
 (kL [2,4] 0 (.seq (.region [
 mV 25 4,
 oP 26 (.call 396 [(.t 25)]),
 mV 5 26])
 (kL [2,4,5] 0 (.seq (.region [
 mV 27 4,
 oP 28 (.call 396 [(.t 27)]),
 mV 29 4,
 oP 30 (.call 396 [(.t 29)]),
 mV 31 4,
 oP 32 (.call 396 [(.t 31)]),
 mV 33 4,
 oP 34 (.call 396 [(.t 33)]),
 oP 35 (.build [(.int .i64 0),(.int .i64 0),(.int .i64 0),(.int .i64 0),.nils,.nils] [(0,(1,(.t 28))),(1,(1,(.t 30))),(2,(1,(.t 32))),(3,(1,(.t 34)))]),
 oP 6 (.box true 6 (.c (.agg [(.int .i64 0),(.int .i64 0),(.int .i64 0),(.int .i64 0),.nils,.nils]))),
 oW (.store 6 (.t 6) (.t 35))])
 (kL [2,4,5,6] 1 (.seq (.region [
 mV 36 4,
 mV 37 4,
 oP 38 (.call 396 [(.t 37)]),
 oP 39 (.call 397 [(.t 36),(.t 38)]),
 mV 7 39])
 (kL [2,4,5,6,7] 1 (.seq (.region [
 mV 40 4,
 mV 41 4,
 oP 42 (.call 396 [(.t 41)]),
 oP 43 (.call 397 [(.t 40),(.t 42)]),
 oP 44 (.faddr 5 (.t 6)),
 oW (.store 1 (.t 44) (.t 43))])
 (kL [2,4,5,6,7] 1 (.seq (.seq (.region [
 mV 45 5,
 oP 46 (.bin .neq .num (.t 45) (cI 197)),
 mV 47 46,
 mG 48 4 47 false,
 oG 49 (.call 398 [(.t 48)]) 47 false,
 oG 50 (.bin .neq .num (.t 49) (cI 0)) 47 false,
 oP 51 (.pick (.t 47) (cB true) (.t 50))])
 (kL [2,6,7,51] 1 (.cond (.t 51)
 (.seq (.region [
 oP 52 (.build [(.int .i64 0),(.int .i64 0),(.int .i64 0),(.int .i64 0),.nils,.nils] []),
 oW (.store 6 (.t 2) (.t 52)),
 oP 3 (.mov (cI 3))])
 (.ret))
 (.skip))))
 (kL [2,6,7] 1 (.seq (.region [
 oP 8 (.mov (cI 0))])
 (kL [2,6,7] 1 (.seq (.seq (.region [
 mV 54 7,
 oP 55 (.call 399 [(.t 54)]),
 mV 53 55,
 oP 56 (.ext (.t 53) 0),
 oP 57 (.ext (.t 53) 1),
 oP 58 (.faddr 4 (.t 6)),
 oW (.store 1 (.t 58) (.t 56)),
 mV 8 57])
 (kL [2,6,8] 1 (.seq (.region [
 mV 59 8,
 oP 60 (.bin .neq .num (.t 59) (cI 0))])
 (kL [2,6,8,60] 1 (.cond (.t 60)
 (.seq (.region [
 oP 61 (.build [(.int .i64 0),(.int .i64 0),(.int .i64 0),(.int .i64 0),.nils,.nils] []),
 mV 62 8,
 oW (.store 6 (.t 2) (.t 61)),
 mV 3 62])
 (.ret))
 (.skip))))))
 (kL [2,6] 1 (.seq (.seq (.region [
 oP 63 (.load (some 6) (.t 6)),
 oP 64 (.call 298 [(.t 63)]),
 oP 65 (.un .not (.t 64))])
 (kL [2,6,65] 1 (.cond (.t 65)
 (.seq (.region [
 oP 66 (.build [(.int .i64 0),(.int .i64 0),(.int .i64 0),(.int .i64 0),.nils,.nils] []),
 oW (.store 6 (.t 2) (.t 66)),
 oP 3 (.mov (cI 3))])
 (.ret))
 (.skip))))
 (kL [2,6] 1 (.seq (.region [
 oP 67 (.load (some 6) (.t 6)),
 oW (.store 6 (.t 2) (.t 67)),
 oP 3 (.mov (cI 0))])
 (.ret)))))))))))))))))))))))
def n375:NF:=⟨68,[2,3],.fin n375b [⟨some 2,.load (some 6) (.t 2),none⟩]⟩
def n273:NF:=⟨13,[4],
 .seq (.region [
 oP 4 (.mov (cB false))])
 (kL [0,1] 0 (.seq (.region [
 mV 5 1,
 mV 6 0,
 oP 7 (.nilck (.t 6)),
 oP 8 (.faddr 0 (.t 7)),
 oP 9 (.faddr 0 (.t 8)),
 oP 10 (lD 9),
 oP 11 (.bin .sub .num (.t 10) (cI 1)),
 oP 12 (.call 267 [(.t 5),(cI 0),(.t 11)]),
 mV 4 12])
 (.ret)))⟩
def n376:NF:=⟨23,[4,5],
 .seq (.region [
 oP 2 (.box true 6 (.t 0)),
 oP 4 (.mov (cI 0)),
 oP 5 (.mov (cB false))])
 (kL [1,2] 1 (.seq (.region [
 oP 9 (.faddr 4 (.t 2)),
 oP 10 (lD 9),
 oP 11 (.call 336 [(.t 10),(cI 1)]),
 mV 8 11,
 oP 12 (.ext (.t 8) 0),
 oP 13 (.ext (.t 8) 1),
 oP 6 (.box true 5 (.c (.agg [(.int .i64 0),(.int .i64 0),(.int .i64 0),(.int .i64 0),.nils]))),
 oW (.store 5 (.t 6) (.t 12)),
 mV 7 13])
 (kL [1,6,7] 2 (.seq (.draw 0 [
 ⟨0,none,(oP 14 (.faddr 2 (.t 6))),[]⟩,
 ⟨1,none,(oP 15 (lD 14)),[]⟩,
 ⟨2,none,(mV 16 7),[]⟩,
 ⟨3,none,(mV 17 16),[]⟩,
 ⟨4,none,(oG 18 (.faddr 1 (.t 6)) 17 true),[]⟩,
 ⟨5,none,(oG 19 (lD 18) 17 true),[]⟩,
 ⟨6,none,(mG 20 1 17 true),[]⟩,
 ⟨7,none,(oG 21 (.bin .eql .num (.t 19) (.t 20)) 17 true),[]⟩,
 ⟨8,none,(oP 22 (.pick (.t 17) (.t 21) (cB false))),[]⟩,
 ⟨9,none,(mV 4 15),[]⟩,
 ⟨10,none,(mV 5 22),[]⟩])
 (.ret)))))⟩
def n390:NF:=⟨77,[],
 .seq (.region [
 oP 6 (.box true 6 (.t 1))])
 (kL [0,2,3,4,6] 1 (.seq (.seq (.draw 0 [
 ⟨0,none,(oP 10 (.faddr 0 (.t 6))),[]⟩,
 ⟨1,none,(oP 11 (lD 10)),[]⟩,
 ⟨2,none,(oP 12 (.bin .neq .num (.t 11) (cI 3))),[]⟩,
 ⟨3,none,(mV 13 12),[]⟩,
 ⟨4,none,(mG 14 2 13 false),[]⟩,
 ⟨5,none,(oG 15 (.bin .gtr .num (.t 14) (cI 253)) 13 false),[]⟩,
 ⟨6,none,(oP 16 (.pick (.t 13) (cB true) (.t 15))),[]⟩,
 ⟨7,none,(mV 17 16),[]⟩,
 ⟨8,none,(mG 18 0 17 false),[]⟩,
 ⟨9,none,(oG 19 (.nilck (.t 18)) 17 false),[]⟩,
 ⟨10,none,(oG 20 (.faddr 21 (.t 19)) 17 false),[]⟩,
 ⟨11,none,(oG 21 (lD 20) 17 false),[]⟩,
 ⟨12,none,(mG 22 0 17 false),[]⟩,
 ⟨13,none,(oG 23 (.nilck (.t 22)) 17 false),[]⟩,
 ⟨14,none,(oG 24 (.faddr 0 (.t 23)) 17 false),[]⟩,
 ⟨15,none,(oG 25 (.faddr 6 (.t 24)) 17 false),[]⟩,
 ⟨16,none,(oG 26 (lD 25) 17 false),[]⟩,
 ⟨17,none,(oG 27 (.bin .leq .num (.t 21) (.t 26)) 17 false),[]⟩,
 ⟨18,none,(oP 28 (.pick (.t 17) (cB true) (.t 27))),[]⟩])
 (kL [0,2,3,4,6,28] 1 (.cond (.t 28)
 (.ret)
 (.skip))))
 (kL [0,2,3,4,6] 1 (.seq (.region [
 mV 29 0,
 oP 30 (.nilck (.t 29)),
 oP 31 (.faddr 18 (.t 30)),
 oW (.store 1 (.t 31) (cB true))])
 (kL [0,2,3,4,6] 1 (.seq (.draw 0 [
 ⟨0,none,(mV 32 0),[]⟩,
 ⟨1,none,(mV 33 0),[]⟩,
 ⟨2,none,(mV 34 0),[]⟩,
 ⟨3,none,(oP 35 (.nilck (.t 34))),[]⟩,
 ⟨4,none,(oP 36 (.faddr 9 (.t 35))),[]⟩,
 ⟨5,none,(oP 37 (lD 36)),[]⟩,
 ⟨6,none,(mV 38 2),[]⟩,
 ⟨7,none,(oP 39 (.bin .add .num (.t 38) (cI 1))),[]⟩,
 ⟨9,none,(mV 41 0),[]⟩,
 ⟨10,none,(oP 42 (.nilck (.t 41))),[]⟩,
 ⟨11,none,(oP 43 (.faddr 0 (.t 42))),[]⟩,
 ⟨12,none,(oP 44 (.faddr 5 (.t 43))),[]⟩,
 ⟨13,none,(oP 45 (lD 44)),[]⟩,
 ⟨8,none,(oP 40 (.call 53 [(.t 37),(.t 39)])),[(13,(oP 45 (lD 44)))]⟩,
 ⟨14,none,(oP 46 (.call 403 [(.t 45)])),[]⟩,
 ⟨15,none,(oP 47 (.nilck (.t 32))),[]⟩,
 ⟨16,none,(oP 48 (.faddr 19 (.t 47))),[]⟩,
 ⟨17,none,(oW (.store 1 (.t 48) (.t 40))),[]⟩,
 ⟨18,none,(oP 49 (.nilck (.t 33))),[]⟩,
 ⟨19,none,(oP 50 (.faddr 20 (.t 49))),[]⟩,
 ⟨20,none,(oW (.store 1 (.t 50) (.t 46))),[]⟩])
 (kL [0,2,3,4,6] 1 (.seq (.draw 0 [
 ⟨0,none,(mV 51 0),[]⟩,
 ⟨1,none,(oP 52 (.nilck (.t 51))),[]⟩,
 ⟨2,none,(oP 53 (.faddr 19 (.t 52))),[]⟩,
 ⟨3,none,(oP 54 (lD 53)),[]⟩,
 ⟨4,none,(oP 55 (.faddr 1 (.t 6))),[]⟩,
 ⟨5,none,(oP 56 (lD 55)),[]⟩,
 ⟨6,none,(mV 57 2),[]⟩,
 ⟨7,none,(mV 58 3),[]⟩,
 ⟨8,none,(oP 59 (.call 58 [(.t 54),(.t 56),(.t 57),(.t 58)])),[]⟩])
 (kL [0,4,6] 1 (.seq (.region [
 mV 60 0,
 oP 61 (.faddr 1 (.t 6)),
 oP 62 (lD 61),
 oP 63 (.call 384 [(.t 60),(cI 1),(.t 62)])])
 (kL [0,4,6] 1 (.seq (.region [
 mV 64 0,
 oP 65 (.faddr 1 (.t 6)),
 oP 66 (lD 65),
 mV 67 4,
 oP 68 (.call 404 [(.t 64),(.t 66),(.t 67)])])
 (kL [0,6] 1 (.seq (.region [
 mV 69 0,
 oP 70 (.faddr 1 (.t 6)),
 oP 71 (lD 70),
 oP 72 (.call 384 [(.t 69),(cI 2),(.t 71)])])
 (kL [0,6] 1 (.region [
 mV 73 0,
 oP 74 (.faddr 1 (.t 6)),
 oP 75 (lD 74),
 oP 76 (.call 384 [(.t 73),(cI 6),(.t 75)])]))))))))))))))))⟩
def n380:NF:=⟨12,[2],
 .seq (.region [
 oP 2 (.mov (.c (.c .nils)))])
 (kL [0] 0 (.seq (.region [
 mV 4 0,
 oP 5 (.nilck (.t 4)),
 oP 6 (.faddr 31 (.t 5)),
 oP 7 (lD 6),
 mV 3 7])
 (kL [0,3] 0 (.seq (.region [
 mV 8 0,
 oP 9 (.nilck (.t 8)),
 oP 10 (.faddr 31 (.t 9)),
 oW (.store 1 (.t 10) (.c (.c .nils)))])
 (kL [3] 0 (.seq (.region [
 mV 11 3,
 mV 2 11])
 (.ret)))))))⟩
def n384:NF:=⟨22,[],
 .draw 1 [
 ⟨0,none,(mV 6 0),[]⟩,
 ⟨1,none,(mV 7 0),[]⟩,
 ⟨2,none,(oP 8 (.nilck (.t 7))),[]⟩,
 ⟨3,none,(oP 9 (.faddr 31 (.t 8))),[]⟩,
 ⟨4,none,(oP 10 (lD 9)),[]⟩,
 ⟨5,none,(mV 11 1),[]⟩,
 ⟨6,none,(mV 12 0),[]⟩,
 ⟨7,none,(oP 13 (.nilck (.t 12))),[]⟩,
 ⟨8,none,(oP 14 (.faddr 9 (.t 13))),[]⟩,
 ⟨9,none,(oP 15 (lD 14)),[]⟩,
 ⟨10,none,(mV 16 2),[]⟩,
 ⟨11,none,(oP 17 (.build [(.int .i64 0),(.int .i64 0),(.int .i64 0),(.int .i64 0),(.int .i64 0),(.int .i64 0),(.int .i64 0),(.int .i64 0),.nils,.nils] [(0,(1,(.t 11))),(1,(1,(.t 15))),(2,(1,(.t 16)))])),[]⟩,
 ⟨12,(some 0),(oP 18 (.bslice false 10 1 [(.int .i64 0),(.int .i64 0),(.int .i64 0),(.int .i64 0),(.int .i64 0),(.int .i64 0),(.int .i64 0),(.int .i64 0),.nils,.nils] [(0,(10,(.t 17)))])),[]⟩,
 ⟨13,none,(oP 19 (.app 10 112 (.t 10) (.t 18))),[]⟩,
 ⟨14,none,(oP 20 (.nilck (.t 6))),[]⟩,
 ⟨15,none,(oP 21 (.faddr 31 (.t 20))),[]⟩,
 ⟨16,none,(oW (.store 1 (.t 21) (.t 19))),[]⟩]⟩
def n391:NF:=⟨32,[],
 .seq (.region [
 mV 11 0,
 oP 12 (.call 274 [(.t 11)]),
 mV 10 12])
 (kL [0,1,2,3,4,10] 0 (.seq (.region [
 mV 13 0,
 oP 14 (.nilck (.t 13)),
 oP 15 (.faddr 19 (.t 14)),
 oP 16 (lD 15),
 mV 17 1,
 mV 18 2,
 mV 19 3,
 oP 20 (.call 58 [(.t 16),(.t 17),(.t 18),(.t 19)])])
 (kL [0,1,4,10] 0 (.seq (.seq (.region [
 mV 21 0,
 oP 22 (.call 274 [(.t 21)]),
 mV 23 1,
 oP 24 (.bin .eql .num (.t 22) (.t 23))])
 (kL [0,1,4,10,24] 0 (.cond (.t 24)
 (.region [
 mV 25 0,
 mV 26 1,
 mV 27 4,
 oP 28 (.call 404 [(.t 25),(.t 26),(.t 27)])])
 (.skip))))
 (kL [0,10] 0 (.region [
 mV 29 0,
 mV 30 10,
 oP 31 (.call 383 [(.t 29),(.t 30)])]))))))⟩
def n274:NF:=⟨15,[2],
 .seq (.region [
 oP 2 (.mov (cI 0))])
 (kL [0] 0 (.seq (.seq (.region [
 mV 6 0,
 oP 7 (.nilck (.t 6)),
 oP 8 (.faddr 19 (.t 7)),
 oP 9 (lD 8),
 oP 10 (.call 60 [(.t 9)]),
 mV 5 10,
 oP 11 (.ext (.t 5) 0),
 oP 12 (.ext (.t 5) 1),
 mV 3 11,
 mV 4 12])
 (kL [3,4] 0 (.seq (.region [
 mV 13 4])
 (kL [3,13] 0 (.cond (.t 13)
 (.seq (.region [
 mV 14 3,
 mV 2 14])
 (.ret))
 (.skip))))))
 (kL [] 0 (.seq (.region [
 oP 2 (.mov (cI 64))])
 (.ret)))))⟩
def n392:NF:=⟨56,[8],
 .seq (.region [
 oP 5 (.box true 6 (.t 1)),
 oP 8 (.mov (.c (.c .nils)))])
 (kL [0,2,3,5] 1 (.seq (.seq (.draw 0 [
 ⟨0,none,(oP 11 (.faddr 2 (.t 5))),[]⟩,
 ⟨1,none,(oP 12 (lD 11)),[]⟩,
 ⟨2,none,(mV 13 0),[]⟩,
 ⟨3,none,(oP 14 (.nilck (.t 13))),[]⟩,
 ⟨4,none,(oP 15 (.faddr 9 (.t 14))),[]⟩,
 ⟨5,none,(oP 16 (lD 15)),[]⟩,
 ⟨6,none,(oP 17 (.bin .neq .num (.t 12) (.t 16))),[]⟩,
 ⟨7,none,(mV 18 17),[]⟩,
 ⟨8,none,(oG 19 (.faddr 0 (.t 5)) 18 false),[]⟩,
 ⟨9,none,(oG 20 (lD 19) 18 false),[]⟩,
 ⟨10,none,(oG 21 (.bin .neq .num (.t 20) (cI 1)) 18 false),[]⟩,
 ⟨11,none,(mG 22 21 18 false),[]⟩,
 ⟨12,none,(oG 23 (.faddr 0 (.t 5)) 22 true),[]⟩,
 ⟨13,none,(oG 24 (lD 23) 22 true),[]⟩,
 ⟨14,none,(oG 25 (.bin .neq .num (.t 24) (cI 4)) 22 true),[]⟩,
 ⟨15,none,(oG 26 (.pick (.t 22) (.t 25) (cB false)) 18 false),[]⟩,
 ⟨16,none,(oP 27 (.pick (.t 18) (cB true) (.t 26))),[]⟩])
 (kL [0,2,3,5,27] 1 (.cond (.t 27)
 (.seq (.region [
 oP 8 (.mov (.c (.c .nils)))])
 (.ret))
 (.skip))))
 (kL [0,2,3,5] 1 (.seq (.draw 1 [
 ⟨0,none,(mV 29 0),[]⟩,
 ⟨1,none,(oP 30 (.nilck (.t 29))),[]⟩,
 ⟨2,none,(oP 31 (.faddr 9 (.t 30))),[]⟩,
 ⟨3,none,(oP 32 (lD 31)),[]⟩,
 ⟨4,none,(oP 33 (.faddr 1 (.t 5))),[]⟩,
 ⟨5,none,(oP 34 (lD 33)),[]⟩,
 ⟨6,none,(oP 35 (.faddr 3 (.t 5))),[]⟩,
 ⟨7,none,(oP 36 (lD 35)),[]⟩,
 ⟨8,none,(mV 37 0),[]⟩,
 ⟨9,none,(mV 38 2),[]⟩,
 ⟨11,none,(mV 40 3),[]⟩,
 ⟨12,none,(oP 41 (.un .neg (.t 40))),[]⟩,
 ⟨13,none,(oP 42 (.build [(.int .i64 0),(.int .i64 0),(.int .i64 0),(.int .i64 0),.nils] [(0,(1,(cI 2))),(3,(1,(.t 41)))])),[]⟩,
 ⟨10,none,(oP 39 (.call 295 [(.t 37),(.t 38)])),[(3,(oP 32 (lD 31))),(5,(oP 34 (lD 33))),(7,(oP 36 (lD 35)))]⟩,
 ⟨14,(some 0),(oP 43 (.bslice false 5 2 [(.int .i64 0),(.int .i64 0),(.int .i64 0),(.int .i64 0),.nils] [(0,(5,(.t 39))),(5,(5,(.t 42)))])),[]⟩,
 ⟨15,none,(oP 44 (.build [(.int .i64 0),(.int .i64 0),(.int .i64 0),(.int .i64 0),.nils,.nils] [(0,(1,(cI 2))),(1,(1,(.t 32))),(2,(1,(.t 34))),(3,(1,(.t 36))),(4,(1,(.t 43)))])),[]⟩,
 ⟨16,none,(oP 45 (.call 280 [(.t 44)])),[]⟩,
 ⟨17,none,(mV 28 45),[]⟩,
 ⟨18,none,(oP 46 (.ext (.t 28) 0)),[]⟩,
 ⟨19,none,(oP 47 (.ext (.t 28) 1)),[]⟩,
 ⟨20,none,(mV 9 46),[]⟩,
 ⟨21,none,(mV 10 47),[]⟩])
 (kL [0,5,9] 1 (.seq (.seq (.region [
 oP 48 (.faddr 0 (.t 5)),
 oP 49 (lD 48),
 oP 50 (.bin .eql .num (.t 49) (cI 1))])
 (kL [0,5,9,50] 1 (.cond (.t 50)
 (.region [
 mV 51 0,
 oP 52 (.faddr 5 (.t 5)),
 oP 53 (lD 52),
 oP 54 (.call 1000000 [(.t 51),(.t 53)])])
 (.skip))))
 (kL [9] 0 (.seq (.region [
 mV 55 9,
 mV 8 55])
 (.ret)))))))))⟩
def n372:NF:=⟨15,[2],
 .seq (.region [
 oP 2 (.mov (cI 0))])
 (kL [0] 0 (.seq (.seq (.region [
 mV 3 0,
 oP 4 (.bin .eql .ptr (.t 3) (.c (.c .nilp)))])
 (kL [0,4] 0 (.cond (.t 4)
 (.seq (.region [
 oP 2 (.mov (cI 0))])
 (.ret))
 (.skip))))
 (kL [0] 0 (.seq (.draw 0 [
 ⟨0,none,(mV 5 0),[]⟩,
 ⟨1,none,(oP 6 (.nilck (.t 5))),[]⟩,
 ⟨2,none,(oP 7 (.faddr 0 (.t 6))),[]⟩,
 ⟨3,none,(oP 8 (lD 7)),[]⟩,
 ⟨4,none,(mV 9 0),[]⟩,
 ⟨5,none,(oP 10 (.nilck (.t 9))),[]⟩,
 ⟨6,none,(oP 11 (.faddr 1 (.t 10))),[]⟩,
 ⟨7,none,(oP 12 (lD 11)),[]⟩,
 ⟨8,none,(oP 13 (.call 388 [(.t 12),(cI 1000000)])),[(3,(oP 8 (lD 7)))]⟩,
 ⟨9,none,(oP 14 (.bin .add .num (.t 8) (.t 13))),[]⟩,
 ⟨10,none,(mV 2 14),[]⟩])
 (.ret)))))⟩
def n385:NF:=⟨14,[],
 .seq (.region [
 mV 4 0,
 oP 5 (.bin .neq .ptr (.t 4) (.c (.c .nilp)))])
 (kL [0,1,5] 0 (.cond (.t 5)
 (.region [
 mV 6 0,
 mV 7 0,
 mV 8 1,
 oP 9 (.call 402 [(.t 8),(cI 1000000000000)]),
 oP 10 (.nilck (.t 6)),
 oP 11 (.faddr 0 (.t 10)),
 oW (.store 1 (.t 11) (.t 9)),
 oP 12 (.nilck (.t 7)),
 oP 13 (.faddr 1 (.t 12)),
 oW (.store 1 (.t 13) (cI 0))])
 (.skip)))⟩
def n267:NF:=⟨15,[6],
 .seq (.region [
 oP 6 (.mov (cB false))])
 (kL [0,1,2] 0 (.seq (.region [
 mV 7 0,
 mV 8 1,
 oP 9 (.bin .geq .num (.t 7) (.t 8)),
 mV 10 9,
 mG 11 0 10 true,
 mG 12 2 10 true,
 oG 13 (.bin .leq .num (.t 11) (.t 12)) 10 true,
 oP 14 (.pick (.t 10) (.t 13) (cB false)),
 mV 6 14])
 (.ret)))⟩
def n275:NF:=⟨62,[2,3],
 .seq (.region [
 oP 1 (.box true 6 (.t 0)),
 oP 2 (.mov (.c (.c .nils))),
 oP 3 (.mov (cI 0))])
 (kL [1] 1 (.seq (.seq (.region [
 oP 7 (.load (some 6) (.t 1)),
 oP 8 (.call 289 [(.t 7)]),
 oP 9 (.un .not (.t 8))])
 (kL [1,9] 1 (.cond (.t 9)
 (.seq (.region [
 oP 2 (.mov (.c (.c .nils))),
 oP 3 (.mov (cI 1))])
 (.ret))
 (.skip))))
 (kL [1] 1 (.seq (.region [
 oP 10 (.build [.nils,(.int .i64 0)] []),
 oP 11 (.box false 2 (.t 10)),
 mV 4 11])
 (kL [1,4] 1 (.seq (.region [
 mV 12 4,
 oP 13 (.faddr 0 (.t 1)),
 oP 14 (lD 13),
 oP 15 (.conv (.toInt .u64) (.t 14)),
 oP 16 (.call 290 [(.t 12),(.t 15),(cI 8)])])
 (kL [1,4] 1 (.seq (.region [
 mV 17 4,
 oP 18 (.faddr 1 (.t 1)),
 oP 19 (lD 18),
 oP 20 (.conv (.toInt .u64) (.t 19)),
 oP 21 (.call 290 [(.t 17),(.t 20),(cI 8)])])
 (kL [1,4] 1 (.seq (.region [
 mV 22 4,
 oP 23 (.faddr 2 (.t 1)),
 oP 24 (lD 23),
 oP 25 (.conv (.toInt .u64) (.t 24)),
 oP 26 (.call 290 [(.t 22),(.t 25),(cI 48)])])
 (kL [1,4] 1 (.seq (.region [
 mV 27 4,
 oP 28 (.faddr 3 (.t 1)),
 oP 29 (lD 28),
 oP 30 (.conv (.toInt .u64) (.t 29)),
 oP 31 (.call 290 [(.t 27),(.t 30),(cI 8)])])
 (kL [1,4] 1 (.seq (.region [
 mV 32 4,
 oP 33 (.faddr 4 (.t 1)),
 oP 34 (lD 33),
 oP 35 (.len .sl (.t 34)),
 oP 36 (.conv (.toInt .u64) (.t 35)),
 oP 37 (.call 290 [(.t 32),(.t 36),(cI 8)])])
 (kL [1,4] 1 (.seq (.seq (.region [
 oP 38 (.faddr 4 (.t 1)),
 oP 39 (lD 38),
 oP 40 (.len .sl (.t 39)),
 oP 41 (.mov (cI 0))])
 (kL [1,4,39,40,41] 1 (.block 0 (.loop (kL [1,4,39,40,41] 1 (.seq (.region [
 oP 42 (.bin .lss .num (.t 41) (.t 40))])
 (kL [1,4,39,40,41,42] 1 (.seq (.cond (.t 42)
 (.skip)
 (.exit 0))
 (kL [1,4,39,40,41] 1 (.seq (.block 1 (.seq (.region [
 oP 43 (iA 1 39 41),
 oP 44 (lD 43),
 mV 6 44])
 (kL [1,4,6,39,40,41] 1 (.region [
 mV 45 4,
 mV 46 6,
 oP 47 (.conv (.toInt .u64) (.t 46)),
 oP 48 (.call 290 [(.t 45),(.t 47),(cI 8)])]))))
 (kL [1,4,39,40,41] 1 (.region [
 oP 49 (.bin .add .num (.t 41) (cI 1)),
 mV 41 49]))))))))))))
 (kL [1,4] 1 (.seq (.region [
 mV 50 4,
 oP 51 (.faddr 5 (.t 1)),
 oP 52 (lD 51),
 oP 53 (.len .sl (.t 52)),
 oP 54 (.conv (.toInt .u64) (.t 53)),
 oP 55 (.call 290 [(.t 50),(.t 54),(cI 8)])])
 (kL [1,4] 1 (.seq (.region [
 mV 56 4,
 oP 57 (.faddr 5 (.t 1)),
 oP 58 (lD 57),
 oP 59 (.call 291 [(.t 56),(.t 58)])])
 (kL [4] 0 (.seq (.region [
 mV 60 4,
 oP 61 (.call 292 [(.t 60)]),
 mV 2 61,
 oP 3 (.mov (cI 0))])
 (.ret)))))))))))))))))))))))⟩
def n276:NF:=⟨41,[6],
 .seq (.region [
 oP 6 (.mov (cB false))])
 (kL [0,1,2] 0 (.seq (.seq (.region [
 mV 7 0,
 oP 8 (.bin .eql .ptr (.t 7) (.c (.c .nilp)))])
 (kL [0,1,2,8] 0 (.cond (.t 8)
 (.seq (.region [
 oP 6 (.mov (cB false))])
 (.ret))
 (.skip))))
 (kL [0,1,2] 0 (.seq (.seq (.draw 0 [
 ⟨0,none,(mV 9 0),[]⟩,
 ⟨1,none,(oP 10 (.nilck (.t 9))),[]⟩,
 ⟨2,none,(oP 11 (.faddr 1 (.t 10))),[]⟩,
 ⟨3,none,(oP 12 (lD 11)),[]⟩,
 ⟨4,none,(oP 13 (.len .sl (.t 12))),[]⟩,
 ⟨5,none,(mV 14 0),[]⟩,
 ⟨6,none,(oP 15 (.nilck (.t 14))),[]⟩,
 ⟨7,none,(oP 16 (.faddr 0 (.t 15))),[]⟩,
 ⟨8,none,(oP 17 (lD 16)),[]⟩,
 ⟨9,none,(oP 18 (.bin .geq .num (.t 13) (.t 17))),[]⟩])
 (kL [0,1,2,18] 0 (.cond (.t 18)
 (.seq (.region [
 mV 19 0,
 mV 20 0,
 oP 21 (.nilck (.t 20)),
 oP 22 (.faddr 2 (.t 21)),
 oP 23 (lD 22),
 oP 24 (.bin .add .num (.t 23) (cI 1)),
 oP 25 (.min [(.t 24),(cI 1000000)]),
 oP 26 (.nilck (.t 19)),
 oP 27 (.faddr 2 (.t 26)),
 oW (.store 1 (.t 27) (.t 25))])
 (kL [] 0 (.seq (.region [
 oP 6 (.mov (cB false))])
 (.ret))))
 (.skip))))
 (kL [0,1,2] 0 (.seq (.draw 1 [
 ⟨0,none,(mV 28 0),[]⟩,
 ⟨1,none,(mV 29 0),[]⟩,
 ⟨2,none,(oP 30 (.nilck (.t 29))),[]⟩,
 ⟨3,none,(oP 31 (.faddr 1 (.t 30))),[]⟩,
 ⟨4,none,(oP 32 (lD 31)),[]⟩,
 ⟨5,none,(mV 33 1),[]⟩,
 ⟨6,none,(mV 34 2),[]⟩,
 ⟨7,none,(oP 35 (.call 293 [(.t 34)])),[(4,(oP 32 (lD 31)))]⟩,
 ⟨8,none,(oP 36 (.build [(.int .i64 0),.nils] [(0,(1,(.t 33))),(1,(1,(.t 35)))])),[]⟩,
 ⟨9,(some 0),(oP 37 (.bslice false 2 1 [(.int .i64 0),.nils] [(0,(2,(.t 36)))])),[]⟩,
 ⟨10,none,(oP 38 (.app 2 32 (.t 32) (.t 37))),[]⟩,
 ⟨11,none,(oP 39 (.nilck (.t 28))),[]⟩,
 ⟨12,none,(oP 40 (.faddr 1 (.t 39))),[]⟩,
 ⟨13,none,(oW (.store 1 (.t 40) (.t 38))),[]⟩])
 (kL [] 0 (.seq (.region [
 oP 6 (.mov (cB true))])
 (.ret)))))))))⟩
def n278:NF:=⟨41,[8],
 .seq (.region [
 oP 8 (.mov (cI 0))])
 (kL [0,1,2,3] 0 (.seq (.region [
 mV 10 0,
 mV 11 1,
 oP 12 (.call 294 [(.t 10),(.t 11)]),
 mV 9 12])
 (kL [2,3,9] 0 (.seq (.seq (.region [
 mV 13 9,
 oP 14 (.len .sl (.t 13)),
 oP 15 (.bin .eql .num (.t 14) (cI 0)),
 mV 16 15,
 mG 17 2 16 false,
 oG 18 (.bin .lss .num (.t 17) (cI 0)) 16 false,
 oP 19 (.pick (.t 16) (cB true) (.t 18)),
 mV 20 19,
 mG 21 2 20 false,
 oG 22 (.bin .geq .num (.t 21) (cI 1099511627776)) 20 false,
 oP 23 (.pick (.t 20) (cB true) (.t 22)),
 mV 24 23,
 mG 25 3 24 false,
 oG 26 (.bin .lss .num (.t 25) (cI 0)) 24 false,
 oP 27 (.pick (.t 24) (cB true) (.t 26)),
 mV 28 27,
 mG 29 3 28 false,
 oG 30 (.bin .gtr .num (.t 29) (cI 255)) 28 false,
 oP 31 (.pick (.t 28) (cB true) (.t 30))])
 (kL [2,3,9,31] 0 (.cond (.t 31)
 (.seq (.region [
 oP 8 (.mov (cI (-1)))])
 (.ret))
 (.skip))))
 (kL [2,3,9] 0 (.seq (.region [
 mV 32 9,
 mV 33 2,
 mV 34 3,
 oP 35 (.bin .add .num (.t 33) (.t 34)),
 mV 36 9,
 oP 37 (.len .sl (.t 36)),
 oP 38 (.bin .rem .num (.t 35) (.t 37)),
 oP 39 (iA 1 32 38),
 oP 40 (lD 39),
 mV 8 40])
 (.ret)))))))⟩
def n277:NF:=⟨9,[2],
 .seq (.region [
 oP 2 (.mov (cI 0))])
 (kL [0] 0 (.seq (.seq (.region [
 mV 3 0,
 oP 4 (.bin .eql .ptr (.t 3) (.c (.c .nilp)))])
 (kL [0,4] 0 (.cond (.t 4)
 (.seq (.region [
 oP 2 (.mov (cI 0))])
 (.ret))
 (.skip))))
 (kL [0] 0 (.seq (.region [
 mV 5 0,
 oP 6 (.nilck (.t 5)),
 oP 7 (.faddr 2 (.t 6)),
 oP 8 (lD 7),
 mV 2 8])
 (.ret)))))⟩
def n279b:Code:=
 .seq (.region [
 oP 4 (.box false 6 (.c (.agg [(.int .i64 0),(.int .i64 0),(.int .i64 0),(.int .i64 0),.nils,.nils])))])
 (kL [0,1,4] 0 (.seq (.draw 2 [
 ⟨0,none,(mV 10 0),[]⟩,
 ⟨1,none,(oP 11 (.nilck (.t 10))),[]⟩,
 ⟨2,none,(oP 12 (.faddr 9 (.t 11))),[]⟩,
 ⟨3,none,(oP 13 (lD 12)),[]⟩,
 ⟨4,none,(mV 14 0),[]⟩,
 ⟨5,none,(oP 15 (.nilck (.t 14))),[]⟩,
 ⟨6,none,(oP 16 (.faddr 15 (.t 15))),[]⟩,
 ⟨7,none,(oP 17 (lD 16)),[]⟩,
 ⟨8,none,(mV 18 0),[]⟩,
 ⟨9,none,(mV 19 1),[]⟩,
 ⟨10,none,(oP 20 (.call 295 [(.t 18),(.t 19)])),[(3,(oP 13 (lD 12))),(7,(oP 17 (lD 16)))]⟩,
 ⟨11,(some 0),(oP 21 (.bslice false 5 1 [(.int .i64 0),(.int .i64 0),(.int .i64 0),(.int .i64 0),.nils] [(0,(5,(.t 20)))])),[]⟩,
 ⟨12,none,(oP 22 (.build [(.int .i64 0),(.int .i64 0),(.int .i64 0),(.int .i64 0),.nils,.nils] [(1,(1,(.t 13))),(3,(1,(.t 17))),(4,(1,(.t 21)))])),[]⟩,
 ⟨13,(some 1),(oP 5 (.box false 6 (.c (.agg [(.int .i64 0),(.int .i64 0),(.int .i64 0),(.int .i64 0),.nils,.nils])))),[]⟩,
 ⟨14,none,(oW (.store 6 (.t 5) (.t 22))),[]⟩])
 (kL [0,4,5] 0 (.seq (.seq (.region [
 mV 24 0,
 oP 25 (.call 296 [(.t 24)]),
 mV 23 25,
 oP 26 (.ext (.t 23) 0),
 oP 27 (.ext (.t 23) 1),
 oP 28 (.ext (.t 23) 2),
 mV 6 26,
 mV 7 27,
 mV 8 28])
 (kL [0,4,5,6,7,8] 0 (.seq (.region [
 mV 29 8])
 (kL [0,4,5,6,7,29] 0 (.cond (.t 29)
 (.seq (.region [
 mV 30 7,
 mV 31 6,
 oP 32 (.faddr 0 (.t 5)),
 oW (.store 1 (.t 32) (cI 1)),
 oP 33 (.faddr 2 (.t 5)),
 oW (.store 1 (.t 33) (.t 30)),
 oP 34 (.faddr 5 (.t 5)),
 oW (.store 1 (.t 34) (.t 31))])
 (kL [4,5] 0 (.seq (.region [
 oP 35 (.load (some 6) (.t 5)),
 oW (.store 6 (.t 4) (.t 35))])
 (.ret))))
 (.skip))))))
 (kL [0,4,5] 0 (.seq (.seq (.region [
 mV 36 0,
 oP 37 (.call 274 [(.t 36)]),
 mV 9 37])
 (kL [0,4,5,9] 0 (.seq (.region [
 mV 38 9,
 oP 39 (.bin .neq .num (.t 38) (cI 64)),
 mV 40 39,
 mG 41 0 40 true,
 oG 42 (.nilck (.t 41)) 40 true,
 oG 43 (.faddr 20 (.t 42)) 40 true,
 oG 44 (lD 43) 40 true,
 oG 45 (.call 297 [(.t 44)]) 40 true,
 oP 46 (.pick (.t 40) (.t 45) (cB false))])
 (kL [0,4,5,9,46] 0 (.cond (.t 46)
 (.seq (.region [
 mV 47 9,
 oP 48 (.faddr 0 (.t 5)),
 oW (.store 1 (.t 48) (cI 4)),
 oP 49 (.faddr 2 (.t 5)),
 oW (.store 1 (.t 49) (.t 47))])
 (kL [4,5] 0 (.seq (.region [
 oP 50 (.load (some 6) (.t 5)),
 oW (.store 6 (.t 4) (.t 50))])
 (.ret))))
 (.skip))))))
 (kL [0,4,5] 0 (.seq (.region [
 oP 51 (.faddr 0 (.t 5)),
 oW (.store 1 (.t 51) (cI 3)),
 oP 52 (.faddr 2 (.t 5)),
 oW (.store 1 (.t 52) (cI 64))])
 (kL [0,4,5] 0 (.seq (.draw 1 [
 ⟨0,none,(oP 53 (.faddr 4 (.t 5))),[]⟩,
 ⟨1,none,(oP 54 (lD 53)),[]⟩,
 ⟨2,none,(mV 55 0),[]⟩,
 ⟨3,none,(oP 56 (.nilck (.t 55))),[]⟩,
 ⟨4,none,(oP 57 (.faddr 0 (.t 56))),[]⟩,
 ⟨5,none,(oP 58 (.faddr 2 (.t 57))),[]⟩,
 ⟨6,none,(oP 59 (lD 58)),[]⟩,
 ⟨7,none,(oP 60 (.build [(.int .i64 0),(.int .i64 0),(.int .i64 0),(.int .i64 0),.nils] [(0,(1,(cI 3))),(4,(1,(.t 59)))])),[]⟩,
 ⟨8,(some 0),(oP 61 (.bslice false 5 1 [(.int .i64 0),(.int .i64 0),(.int .i64 0),(.int .i64 0),.nils] [(0,(5,(.t 60)))])),[]⟩,
 ⟨9,none,(oP 62 (.app 5 56 (.t 54) (.t 61))),[]⟩,
 ⟨10,none,(oP 63 (.faddr 4 (.t 5))),[]⟩,
 ⟨11,none,(oW (.store 1 (.t 63) (.t 62))),[]⟩])
 (kL [4,5] 0 (.seq (.region [
 oP 64 (.load (some 6) (.t 5)),
 oW (.store 6 (.t 4) (.t 64))])
 (.ret)))))))))))))
def n279:NF:=⟨65,[4],.fin n279b [⟨some 4,.load (some 6) (.t 4),none⟩]⟩
def n280:NF:=⟨61,[2,3],
 .seq (.region [
 oP 1 (.box true 6 (.t 0)),
 oP 2 (.mov (.c (.c .nils))),
 oP 3 (.mov (cI 0))])
 (kL [1] 1 (.seq (.seq (.region [
 oP 11 (.load (some 6) (.t 1)),
 oP 12 (.call 298 [(.t 11)]),
 oP 13 (.un .not (.t 12))])
 (kL [1,13] 1 (.cond (.t 13)
 (.seq (.region [
 oP 2 (.mov (.c (.c .nils))),
 oP 3 (.mov (cI 1))])
 (.ret))
 (.skip))))
 (kL [1] 1 (.seq (.region [
 oP 15 (.faddr 4 (.t 1)),
 oP 16 (lD 15),
 oP 17 (.call 299 [(.t 16)]),
 mV 14 17,
 oP 18 (.ext (.t 14) 0),
 oP 19 (.ext (.t 14) 1),
 mV 4 18,
 mV 5 19])
 (kL [1,4,5] 1 (.seq (.seq (.region [
 mV 20 5,
 oP 21 (.bin .neq .num (.t 20) (cI 0))])
 (kL [1,4,5,21] 1 (.cond (.t 21)
 (.seq (.region [
 mV 22 5,
 oP 2 (.mov (.c (.c .nils))),
 mV 3 22])
 (.ret))
 (.skip))))
 (kL [1,4] 1 (.seq (.region [
 oP 23 (.build [.nils,(.int .i64 0)] []),
 oP 24 (.box false 2 (.t 23)),
 mV 6 24])
 (kL [1,4,6] 1 (.seq (.seq (.region [
 oP 25 (.faddr 0 (.t 1)),
 oP 26 (lD 25),
 oP 27 (.faddr 1 (.t 1)),
 oP 28 (lD 27),
 oP 29 (.faddr 2 (.t 1)),
 oP 30 (lD 29),
 oP 31 (.faddr 3 (.t 1)),
 oP 32 (lD 31),
 oP 33 (.build [(.int .i64 0),(.int .i64 0),(.int .i64 0),(.int .i64 0),(.int .i64 0)] [(0,(1,(cI 197))),(1,(1,(.t 26))),(2,(1,(.t 28))),(3,(1,(.t 30))),(4,(1,(.t 32)))]),
 oP 34 (.mov (cI 0))])
 (kL [1,4,6,33,34] 1 (.block 0 (.loop (kL [1,4,6,33,34] 1 (.seq (.region [
 oP 35 (.bin .lss .num (.t 34) (cI 5))])
 (kL [1,4,6,33,34,35] 1 (.seq (.cond (.t 35)
 (.skip)
 (.exit 0))
 (kL [1,4,6,33,34] 1 (.seq (.block 1 (.seq (.region [
 oP 36 (.index 5 1 false (.t 33) (.t 34)),
 mV 8 36])
 (kL [1,4,6,8,33,34] 1 (.region [
 mV 37 6,
 mV 38 8,
 oP 39 (.conv (.toInt .u64) (.t 38)),
 oP 40 (.call 290 [(.t 37),(.t 39),(cI 8)])]))))
 (kL [1,4,6,33,34] 1 (.region [
 oP 41 (.bin .add .num (.t 34) (cI 1)),
 mV 34 41]))))))))))))
 (kL [1,4,6] 1 (.seq (.seq (.region [
 mV 42 4,
 oP 43 (.faddr 5 (.t 1)),
 oP 44 (lD 43),
 oP 45 (.build [.nils,.nils] [(0,(1,(.t 42))),(1,(1,(.t 44)))]),
 oP 46 (.mov (cI 0))])
 (kL [6,45,46] 0 (.block 2 (.loop (kL [6,45,46] 0 (.seq (.region [
 oP 47 (.bin .lss .num (.t 46) (cI 2))])
 (kL [6,45,46,47] 0 (.seq (.cond (.t 47)
 (.skip)
 (.exit 2))
 (kL [6,45,46] 0 (.seq (.block 3 (.seq (.region [
 oP 48 (.index 2 1 false (.t 45) (.t 46)),
 mV 10 48])
 (kL [6,10,45,46] 0 (.seq (.region [
 mV 49 6,
 mV 50 10,
 oP 51 (.len .sl (.t 50)),
 oP 52 (.conv (.toInt .u64) (.t 51)),
 oP 53 (.call 290 [(.t 49),(.t 52),(cI 8)])])
 (kL [6,10,45,46] 0 (.region [
 mV 54 6,
 mV 55 10,
 oP 56 (.call 291 [(.t 54),(.t 55)])]))))))
 (kL [6,45,46] 0 (.region [
 oP 57 (.bin .add .num (.t 46) (cI 1)),
 mV 46 57]))))))))))))
 (kL [6] 0 (.seq (.region [
 mV 58 6,
 oP 59 (.call 292 [(.t 58)]),
 oP 60 (.call 300 [(.t 59)]),
 mV 2 60,
 oP 3 (.mov (cI 0))])
 (.ret)))))))))))))))⟩
def n282:NF:=⟨19,[2],
 .seq (.region [
 oP 2 (.mov (cB false))])
 (kL [0] 0 (.seq (.region [
 mV 4 0,
 oP 5 (.len .sl (.t 4)),
 oP 6 (.bin .sub .num (.t 5) (cI 2)),
 mV 3 6])
 (kL [0,3] 0 (.seq (.draw 0 [
 ⟨0,none,(mV 7 3),[]⟩,
 ⟨1,none,(oP 8 (.bin .geq .num (.t 7) (cI 0))),[]⟩,
 ⟨2,none,(mV 9 8),[]⟩,
 ⟨3,none,(mG 10 0 9 true),[]⟩,
 ⟨4,none,(mG 11 3 9 true),[]⟩,
 ⟨5,none,(oG 12 (.slice 1 (.t 10) none (some (.t 11)) none) 9 true),[]⟩,
 ⟨8,none,(mG 15 0 9 true),[]⟩,
 ⟨9,none,(oG 16 (.conv .bytesToStr (.t 15)) 9 true),[]⟩,
 ⟨6,none,(oG 13 (.call 301 [(.t 12)]) 9 true),[(9,(oG 16 (.conv .bytesToStr (.t 15)) 9 true))]⟩,
 ⟨7,none,(oG 14 (.conv .bytesToStr (.t 13)) 9 true),[]⟩,
 ⟨10,none,(oG 17 (.bin .eql .str (.t 14) (.t 16)) 9 true),[]⟩,
 ⟨11,none,(oP 18 (.pick (.t 9) (.t 17) (cB false))),[]⟩,
 ⟨12,none,(mV 2 18),[]⟩])
 (.ret)))))⟩
def n283:NF:=⟨6,[2],
 .seq (.region [
 oP 2 (.mov (cI 0))])
 (kL [0] 0 (.seq (.region [
 mV 3 0,
 oP 4 (.call 302 [(.t 3),(cI 1)]),
 oP 5 (.conv (.toInt .i64) (.t 4)),
 mV 2 5])
 (.ret)))⟩
def n284:NF:=⟨45,[4],
 .seq (.region [
 oP 4 (.mov (.c (.c .nils)))])
 (kL [0,1] 0 (.seq (.region [
 mV 6 1,
 oP 7 (.max [(cI 0),(.t 6)]),
 mV 1 7])
 (kL [0,1] 0 (.seq (.seq (.region [
 mV 8 0,
 oP 9 (.nilck (.t 8)),
 oP 10 (.faddr 1 (.t 9)),
 oP 11 (lD 10),
 oP 12 (.bin .neq .num (.t 11) (cI 0)),
 mV 13 12,
 mG 14 1 13 false,
 mG 15 0 13 false,
 oG 16 (.nilck (.t 15)) 13 false,
 oG 17 (.faddr 0 (.t 16)) 13 false,
 oG 18 (lD 17) 13 false,
 oG 19 (.len .sl (.t 18)) 13 false,
 oG 20 (.bin .gtr .num (.t 14) (.t 19)) 13 false,
 oP 21 (.pick (.t 13) (cB true) (.t 20))])
 (kL [0,1,21] 0 (.cond (.t 21)
 (.seq (.region [
 mV 22 0,
 mV 23 0,
 oP 24 (.nilck (.t 22)),
 oP 25 (.faddr 1 (.t 24)),
 oW (.store 1 (.t 25) (cI 2)),
 oP 26 (.nilck (.t 23)),
 oP 27 (.faddr 0 (.t 26)),
 oW (.store 1 (.t 27) (.c (.c .nils)))])
 (kL [] 0 (.seq (.region [
 oP 4 (.mov (.c (.c .nils)))])
 (.ret))))
 (.skip))))
 (kL [0,1] 0 (.seq (.region [
 mV 28 0,
 oP 29 (.nilck (.t 28)),
 oP 30 (.faddr 0 (.t 29)),
 oP 31 (lD 30),
 mV 32 1,
 oP 33 (.slice 1 (.t 31) none (some (.t 32)) none),
 oP 34 (.app 1 1 (.c (.c .nils)) (.t 33)),
 mV 5 34])
 (kL [0,1,5] 0 (.seq (.region [
 mV 35 0,
 mV 36 0,
 oP 37 (.nilck (.t 36)),
 oP 38 (.faddr 0 (.t 37)),
 oP 39 (lD 38),
 mV 40 1,
 oP 41 (.slice 1 (.t 39) (some (.t 40)) none none),
 oP 42 (.nilck (.t 35)),
 oP 43 (.faddr 0 (.t 42)),
 oW (.store 1 (.t 43) (.t 41))])
 (kL [5] 0 (.seq (.region [
 mV 44 5,
 mV 4 44])
 (.ret)))))))))))⟩
def n285:NF:=⟨20,[2],
 .seq (.region [
 oP 2 (.mov (cI 0))])
 (kL [0] 0 (.seq (.seq (.region [
 mV 3 0,
 oP 4 (.nilck (.t 3)),
 oP 5 (.faddr 1 (.t 4)),
 oP 6 (lD 5),
 oP 7 (.bin .eql .num (.t 6) (cI 0)),
 mV 8 7,
 mG 9 0 8 true,
 oG 10 (.nilck (.t 9)) 8 true,
 oG 11 (.faddr 0 (.t 10)) 8 true,
 oG 12 (lD 11) 8 true,
 oG 13 (.len .sl (.t 12)) 8 true,
 oG 14 (.bin .gtr .num (.t 13) (cI 0)) 8 true,
 oP 15 (.pick (.t 8) (.t 14) (cB false))])
 (kL [0,15] 0 (.cond (.t 15)
 (.seq (.region [
 oP 2 (.mov (cI 3))])
 (.ret))
 (.skip))))
 (kL [0] 0 (.seq (.region [
 mV 16 0,
 oP 17 (.nilck (.t 16)),
 oP 18 (.faddr 1 (.t 17)),
 oP 19 (lD 18),
 mV 2 19])
 (.ret)))))⟩
def n286:NF:=⟨132,[2,3],
 .seq (.region [
 oP 2 (.mov (.c (.c .nils))),
 oP 3 (.mov (cI 0))])
 (kL [0] 0 (.seq (.region [
 mV 14 0,
 oP 15 (.build [.nils,(.int .i64 0)] [(0,(1,(.t 14)))]),
 oP 16 (.box false 2 (.t 15)),
 mV 4 16])
 (kL [4] 0 (.seq (.region [
 mV 17 4,
 oP 18 (.call 283 [(.t 17)]),
 mV 5 18])
 (kL [4,5] 0 (.seq (.seq (.region [
 mV 19 4,
 oP 20 (.nilck (.t 19)),
 oP 21 (.faddr 1 (.t 20)),
 oP 22 (lD 21),
 oP 23 (.bin .eql .num (.t 22) (cI 0)),
 mV 24 23,
 mG 25 5 24 true,
 oG 26 (.bin .gtr .num (.t 25) (cI 4)) 24 true,
 oP 27 (.pick (.t 24) (.t 26) (cB false))])
 (kL [4,5,27] 0 (.cond (.t 27)
 (.seq (.region [
 oP 2 (.mov (.c (.c .nils))),
 oP 3 (.mov (cI 3))])
 (.ret))
 (.skip))))
 (kL [4,5] 0 (.seq (.region [
 oP 6 (.mov (.c (.c .nils)))])
 (kL [4,5,6] 0 (.seq (.seq (.region [
 mV 28 5,
 oP 29 (.mov (cI 0))])
 (kL [4,6,28,29] 0 (.block 0 (.loop (kL [4,6,28,29] 0 (.seq (.region [
 oP 30 (.bin .lss .num (.t 29) (.t 28))])
 (kL [4,6,28,29,30] 0 (.seq (.cond (.t 30)
 (.skip)
 (.exit 0))
 (kL [4,6,28,29] 0 (.seq (.block 1 (.seq (.region [
 mV 31 4,
 oP 32 (.call 283 [(.t 31)]),
 oP 33 (.build [(.int .i64 0),(.int .i64 0),(.int .i64 0),(.int .i64 0),.nils] [(0,(1,(.t 32)))]),
 oP 7 (.box true 5 (.c (.agg [(.int .i64 0),(.int .i64 0),(.int .i64 0),(.int .i64 0),.nils]))),
 oW (.store 5 (.t 7) (.t 33))])
 (kL [4,6,7,28,29] 1 (.seq (.seq (.region [
 mV 34 4,
 oP 35 (.nilck (.t 34)),
 oP 36 (.faddr 1 (.t 35)),
 oP 37 (lD 36),
 oP 38 (.bin .eql .num (.t 37) (cI 0)),
 mV 39 38,
 oG 40 (.faddr 0 (.t 7)) 39 true,
 oG 41 (lD 40) 39 true,
 oG 42 (.bin .lss .num (.t 41) (cI 1)) 39 true,
 mG 43 42 39 true,
 oG 44 (.faddr 0 (.t 7)) 43 false,
 oG 45 (lD 44) 43 false,
 oG 46 (.bin .gtr .num (.t 45) (cI 4)) 43 false,
 oG 47 (.pick (.t 43) (cB true) (.t 46)) 39 true,
 oP 48 (.pick (.t 39) (.t 47) (cB false))])
 (kL [4,6,7,28,29,48] 1 (.cond (.t 48)
 (.seq (.region [
 oP 2 (.mov (.c (.c .nils))),
 oP 3 (.mov (cI 3))])
 (.ret))
 (.skip))))
 (kL [4,6,7,28,29] 1 (.seq (.region [
 mV 49 4,
 oP 50 (.call 283 [(.t 49)]),
 mV 8 50])
 (kL [4,6,7,8,28,29] 1 (.seq (.seq (.region [
 mV 51 4,
 oP 52 (.nilck (.t 51)),
 oP 53 (.faddr 1 (.t 52)),
 oP 54 (lD 53),
 oP 55 (.bin .eql .num (.t 54) (cI 0)),
 mV 56 55,
 oG 57 (.faddr 0 (.t 7)) 56 true,
 oG 58 (lD 57) 56 true,
 oG 59 (.bin .eql .num (.t 58) (cI 1)) 56 true,
 mG 60 59 56 true,
 mG 61 8 60 true,
 oG 62 (.bin .neq .num (.t 61) (cI 6)) 60 true,
 oG 63 (.pick (.t 60) (.t 62) (cB false)) 56 true,
 mG 64 63 56 true,
 oG 65 (.faddr 0 (.t 7)) 64 false,
 oG 66 (lD 65) 64 false,
 oG 67 (.bin .eql .num (.t 66) (cI 2)) 64 false,
 mG 68 67 64 false,
 mG 69 8 68 true,
 oG 70 (.bin .neq .num (.t 69) (cI 2)) 68 true,
 oG 71 (.pick (.t 68) (.t 70) (cB false)) 64 false,
 oG 72 (.pick (.t 64) (cB true) (.t 71)) 56 true,
 mG 73 72 56 true,
 mG 74 8 73 false,
 oG 75 (.bin .gtr .num (.t 74) (cI 16)) 73 false,
 oG 76 (.pick (.t 73) (cB true) (.t 75)) 56 true,
 oP 77 (.pick (.t 56) (.t 76) (cB false))])
 (kL [4,6,7,8,28,29,77] 1 (.cond (.t 77)
 (.seq (.region [
 oP 2 (.mov (.c (.c .nils))),
 oP 3 (.mov (cI 3))])
 (.ret))
 (.skip))))
 (kL [4,6,7,8,28,29] 1 (.seq (.region [
 mV 78 4,
 mV 79 8,
 oP 80 (.call 284 [(.t 78),(.t 79)]),
 mV 9 80])
 (kL [4,6,7,9,28,29] 1 (.seq (.seq (.region [
 mV 81 4,
 oP 82 (.nilck (.t 81)),
 oP 83 (.faddr 1 (.t 82)),
 oP 84 (lD 83),
 oP 85 (.bin .neq .num (.t 84) (cI 0))])
 (kL [4,6,7,9,28,29,85] 1 (.cond (.t 85)
 (.seq (.region [
 oP 2 (.mov (.c (.c .nils))),
 oP 3 (.mov (cI 2))])
 (.ret))
 (.skip))))
 (kL [4,6,7,9,28,29] 1 (.seq (.region [
 mV 86 9,
 oP 87 (.build [.nils,(.int .i64 0)] [(0,(1,(.t 86)))]),
 oP 88 (.box false 2 (.t 87)),
 mV 10 88])
 (kL [4,6,7,9,10,28,29] 1 (.seq (.seq (.region [
 oP 89 (.faddr 0 (.t 7)),
 oP 90 (lD 89)])
 (kL [4,6,7,9,10,28,29,90] 1 (.block 2 (.seq (.region [
 oP 106 (.bin .eql .num (.t 90) (cI 1)),
 mV 105 106])
 (kL [4,6,7,9,10,28,29,90,105] 1 (.cond (.t 105)
 (.seq (.region [
 mV 107 10,
 oP 108 (.call 302 [(.t 107),(cI 5)]),
 oP 109 (.conv (.toInt .i64) (.t 108)),
 oP 110 (.faddr 1 (.t 7)),
 oW (.store 1 (.t 110) (.t 109))])
 (kL [4,6,7,10,28,29] 1 (.region [
 mV 111 10,
 oP 112 (.call 283 [(.t 111)]),
 oP 113 (.faddr 2 (.t 7)),
 oW (.store 1 (.t 113) (.t 112))])))
 (.seq (.region [
 oP 115 (.bin .eql .num (.t 90) (cI 2)),
 mV 114 115])
 (kL [4,6,7,9,10,28,29,114] 1 (.cond (.t 114)
 (.region [
 mV 116 10,
 oP 117 (.call 302 [(.t 116),(cI 2)]),
 oP 118 (.conv (.toInt .i16) (.t 117)),
 oP 119 (.conv (.toInt .i64) (.t 118)),
 oP 120 (.faddr 3 (.t 7)),
 oW (.store 1 (.t 120) (.t 119))])
 (.seq (.region [
 mV 91 9,
 oP 92 (.len .sl (.t 91)),
 oP 93 (.mov (cI 0))])
 (kL [4,6,7,28,29,91,92,93] 1 (.block 3 (.loop (kL [4,6,7,28,29,91,92,93] 1 (.seq (.region [
 oP 94 (.bin .lss .num (.t 93) (.t 92))])
 (kL [4,6,7,28,29,91,92,93,94] 1 (.seq (.cond (.t 94)
 (.skip)
 (.exit 3))
 (kL [4,6,7,28,29,91,92,93] 1 (.seq (.block 4 (.seq (.region [
 oP 95 (iA 1 91 93),
 oP 96 (lD 95),
 mV 12 96])
 (kL [4,6,7,12,28,29,91,92,93] 1 (.region [
 oP 97 (.faddr 4 (.t 7)),
 oP 98 (lD 97),
 mV 99 12,
 oP 100 (.conv (.toInt .i64) (.t 99)),
 oP 101 (.bslice true 1 1 [(.int .i64 0)] [(0,(1,(.t 100)))]),
 oP 102 (.app 1 8 (.t 98) (.t 101)),
 oP 103 (.faddr 4 (.t 7)),
 oW (.store 1 (.t 103) (.t 102))]))))
 (kL [4,6,7,28,29,91,92,93] 1 (.region [
 oP 104 (.bin .add .num (.t 93) (cI 1)),
 mV 93 104])))))))))))))))))))))
 (kL [4,6,7,28,29] 1 (.region [
 mV 121 6,
 oP 122 (.load (some 5) (.t 7)),
 oP 123 (.bslice true 5 1 [(.int .i64 0),(.int .i64 0),(.int .i64 0),(.int .i64 0),.nils] [(0,(5,(.t 122)))]),
 oP 124 (.app 5 56 (.t 121) (.t 123)),
 mV 6 124]))))))))))))))))))
 (kL [4,6,28,29] 0 (.region [
 oP 125 (.bin .add .num (.t 29) (cI 1)),
 mV 29 125]))))))))))))
 (kL [4,6] 0 (.seq (.seq (.region [
 mV 126 4,
 oP 127 (.call 285 [(.t 126)]),
 mV 13 127])
 (kL [6,13] 0 (.seq (.region [
 mV 128 13,
 oP 129 (.bin .neq .num (.t 128) (cI 0))])
 (kL [6,13,129] 0 (.cond (.t 129)
 (.seq (.region [
 mV 130 13,
 oP 2 (.mov (.c (.c .nils))),
 mV 3 130])
 (.ret))
 (.skip))))))
 (kL [6] 0 (.seq (.region [
 mV 131 6,
 mV 2 131,
 oP 3 (.mov (cI 0))])
 (.ret)))))))))))))))⟩
def n287:NF:=⟨115,[2],
 .seq (.region [
 oP 1 (.box true 6 (.t 0)),
 oP 2 (.mov (cB false))])
 (kL [1] 1 (.seq (.seq (.region [
 oP 7 (.faddr 0 (.t 1)),
 oP 8 (lD 7),
 oP 9 (.bin .lss .num (.t 8) (cI 1)),
 mV 10 9,
 oG 11 (.faddr 0 (.t 1)) 10 false,
 oG 12 (lD 11) 10 false,
 oG 13 (.bin .gtr .num (.t 12) (cI 5)) 10 false,
 oP 14 (.pick (.t 10) (cB true) (.t 13)),
 mV 15 14,
 oG 16 (.faddr 1 (.t 1)) 15 false,
 oG 17 (lD 16) 15 false,
 oG 18 (.call 44 [(.t 17)]) 15 false,
 oG 19 (.un .not (.t 18)) 15 false,
 oP 20 (.pick (.t 15) (cB true) (.t 19)),
 mV 21 20,
 oG 22 (.faddr 2 (.t 1)) 21 false,
 oG 23 (lD 22) 21 false,
 oG 24 (.call 44 [(.t 23)]) 21 false,
 oG 25 (.un .not (.t 24)) 21 false,
 mG 26 25 21 false,
 oG 27 (.faddr 2 (.t 1)) 26 true,
 oG 28 (lD 27) 26 true,
 oG 29 (.bin .neq .num (.t 28) (cI 64)) 26 true,
 oG 30 (.pick (.t 26) (.t 29) (cB false)) 21 false,
 oP 31 (.pick (.t 21) (cB true) (.t 30)),
 mV 32 31,
 oG 33 (.faddr 2 (.t 1)) 32 false,
 oG 34 (lD 33) 32 false,
 oG 35 (.faddr 1 (.t 1)) 32 false,
 oG 36 (lD 35) 32 false,
 oG 37 (.bin .eql .num (.t 34) (.t 36)) 32 false,
 oP 38 (.pick (.t 32) (cB true) (.t 37)),
 mV 39 38,
 oG 40 (.faddr 3 (.t 1)) 39 false,
 oG 41 (lD 40) 39 false,
 oG 42 (.bin .lss .num (.t 41) (cI 0)) 39 false,
 oP 43 (.pick (.t 39) (cB true) (.t 42)),
 mV 44 43,
 oG 45 (.faddr 3 (.t 1)) 44 false,
 oG 46 (lD 45) 44 false,
 oG 47 (.bin .gtr .num (.t 46) (cI 255)) 44 false,
 oP 48 (.pick (.t 44) (cB true) (.t 47)),
 mV 49 48,
 oG 50 (.faddr 4 (.t 1)) 49 false,
 oG 51 (lD 50) 49 false,
 oG 52 (.len .sl (.t 51)) 49 false,
 oG 53 (.bin .gtr .num (.t 52) (cI 4)) 49 false,
 oP 54 (.pick (.t 49) (cB true) (.t 53)),
 mV 55 54,
 oG 56 (.faddr 5 (.t 1)) 55 false,
 oG 57 (lD 56) 55 false,
 oG 58 (.len .sl (.t 57)) 55 false,
 oG 59 (.bin .gtr .num (.t 58) (cI 64)) 55 false,
 oP 60 (.pick (.t 55) (cB true) (.t 59))])
 (kL [1,60] 1 (.cond (.t 60)
 (.seq (.region [
 oP 2 (.mov (cB false))])
 (.ret))
 (.skip))))
 (kL [1] 1 (.seq (.seq (.region [
 oP 61 (.faddr 4 (.t 1)),
 oP 62 (lD 61),
 oP 63 (.len .sl (.t 62)),
 oP 64 (.mov (cI 0))])
 (kL [1,62,63,64] 1 (.block 0 (.loop (kL [1,62,63,64] 1 (.seq (.region [
 oP 65 (.bin .lss .num (.t 64) (.t 63))])
 (kL [1,62,63,64,65] 1 (.seq (.cond (.t 65)
 (.skip)
 (.exit 0))
 (kL [1,62,63,64] 1 (.seq (.block 1 (.seq (.region [
 oP 66 (iA 5 62 64),
 oP 67 (.load (some 5) (.t 66)),
 oP 4 (.box true 5 (.c (.agg [(.int .i64 0),(.int .i64 0),(.int .i64 0),(.int .i64 0),.nils]))),
 oW (.store 5 (.t 4) (.t 67))])
 (kL [1,4,62,63,64] 2 (.seq (.region [
 oP 68 (.load (some 5) (.t 4)),
 oP 69 (.call 303 [(.t 68)]),
 oP 70 (.un .not (.t 69))])
 (kL [1,62,63,64,70] 1 (.cond (.t 70)
 (.seq (.region [
 oP 2 (.mov (cB false))])
 (.ret))
 (.skip)))))))
 (kL [1,62,63,64] 1 (.region [
 oP 71 (.bin .add .num (.t 64) (cI 1)),
 mV 64 71]))))))))))))
 (kL [1] 1 (.seq (.seq (.region [
 oP 72 (.faddr 0 (.t 1)),
 oP 73 (lD 72)])
 (kL [1,73] 1 (.block 2 (.seq (.seq (.region [
 oP 75 (.bin .eql .num (.t 73) (cI 2)),
 mV 74 75])
 (kL [1,73,74] 1 (.cond (.t 74)
 (.skip)
 (.region [
 oP 76 (.bin .eql .num (.t 73) (cI 4)),
 mV 74 76]))))
 (kL [1,73,74] 1 (.cond (.t 74)
 (.seq (.region [
 oP 77 (.faddr 2 (.t 1)),
 oP 78 (lD 77),
 oP 79 (.bin .neq .num (.t 78) (cI 64)),
 mV 80 79,
 oG 81 (.faddr 5 (.t 1)) 80 true,
 oG 82 (lD 81) 80 true,
 oG 83 (.len .sl (.t 82)) 80 true,
 oG 84 (.bin .eql .num (.t 83) (cI 0)) 80 true,
 oP 85 (.pick (.t 80) (.t 84) (cB false)),
 mV 2 85])
 (.ret))
 (.seq (.region [
 oP 87 (.bin .eql .num (.t 73) (cI 3)),
 mV 86 87])
 (kL [1,86] 1 (.cond (.t 86)
 (.seq (.region [
 oP 89 (.faddr 4 (.t 1)),
 oP 90 (lD 89),
 oP 91 (.call 304 [(.t 90),(cI 1)]),
 mV 88 91,
 oP 92 (.ext (.t 88) 0),
 oP 93 (.ext (.t 88) 1),
 oP 5 (.box true 5 (.c (.agg [(.int .i64 0),(.int .i64 0),(.int .i64 0),(.int .i64 0),.nils]))),
 oW (.store 5 (.t 5) (.t 92)),
 mV 6 93])
 (kL [1,6] 1 (.seq (.region [
 oP 94 (.faddr 2 (.t 1)),
 oP 95 (lD 94),
 oP 96 (.bin .eql .num (.t 95) (cI 64)),
 mV 97 96,
 oG 98 (.faddr 5 (.t 1)) 97 true,
 oG 99 (lD 98) 97 true,
 oG 100 (.len .sl (.t 99)) 97 true,
 oG 101 (.bin .eql .num (.t 100) (cI 0)) 97 true,
 oP 102 (.pick (.t 97) (.t 101) (cB false)),
 mV 103 102,
 mG 104 6 103 true,
 oP 105 (.pick (.t 103) (.t 104) (cB false)),
 mV 2 105])
 (.ret))))
 (.skip))))))))))
 (kL [1] 1 (.seq (.region [
 oP 106 (.faddr 2 (.t 1)),
 oP 107 (lD 106),
 oP 108 (.bin .neq .num (.t 107) (cI 64)),
 mV 109 108,
 oG 110 (.faddr 5 (.t 1)) 109 true,
 oG 111 (lD 110) 109 true,
 oG 112 (.len .sl (.t 111)) 109 true,
 oG 113 (.bin .gtr .num (.t 112) (cI 0)) 109 true,
 oP 114 (.pick (.t 109) (.t 113) (cB false)),
 mV 2 114])
 (.ret)))))))))⟩
def n436:NF:=⟨71,[2,3],
 .seq (.region [
 oP 2 (.mov (.c (.c .nils))),
 oP 3 (.mov (cI 0))])
 (kL [0] 0 (.seq (.seq (.region [
 mV 10 0,
 oP 11 (.len .sl (.t 10)),
 oP 12 (.bin .gtr .num (.t 11) (cI 4))])
 (kL [0,12] 0 (.cond (.t 12)
 (.seq (.region [
 oP 2 (.mov (.c (.c .nils))),
 oP 3 (.mov (cI 1))])
 (.ret))
 (.skip))))
 (kL [0] 0 (.seq (.region [
 mV 13 0,
 oP 14 (.len .sl (.t 13)),
 oP 15 (.conv (.toInt .u8) (.t 14)),
 oP 16 (.bslice false 1 1 [(.int .u8 0)] [(0,(1,(.t 15)))]),
 mV 4 16])
 (kL [0,4] 0 (.seq (.seq (.region [
 mV 17 0,
 oP 18 (.len .sl (.t 17)),
 oP 19 (.mov (cI 0))])
 (kL [4,17,18,19] 0 (.block 0 (.loop (kL [4,17,18,19] 0 (.seq (.region [
 oP 20 (.bin .lss .num (.t 19) (.t 18))])
 (kL [4,17,18,19,20] 0 (.seq (.cond (.t 20)
 (.skip)
 (.exit 0))
 (kL [4,17,18,19] 0 (.seq (.block 1 (.seq (.region [
 oP 21 (iA 5 17 19),
 oP 22 (.load (some 5) (.t 21)),
 oP 6 (.box true 5 (.c (.agg [(.int .i64 0),(.int .i64 0),(.int .i64 0),(.int .i64 0),.nils]))),
 oW (.store 5 (.t 6) (.t 22))])
 (kL [4,6,17,18,19] 1 (.seq (.seq (.region [
 oP 23 (.load (some 5) (.t 6)),
 oP 24 (.call 303 [(.t 23)]),
 oP 25 (.un .not (.t 24))])
 (kL [4,6,17,18,19,25] 1 (.cond (.t 25)
 (.seq (.region [
 oP 2 (.mov (.c (.c .nils))),
 oP 3 (.mov (cI 1))])
 (.ret))
 (.skip))))
 (kL [4,6,17,18,19] 1 (.seq (.region [
 oP 7 (.mov (.c (.c .nils)))])
 (kL [4,6,7,17,18,19] 1 (.seq (.seq (.region [
 oP 26 (.faddr 0 (.t 6)),
 oP 27 (lD 26)])
 (kL [4,6,7,17,18,19,27] 1 (.block 2 (.seq (.region [
 oP 42 (.bin .eql .num (.t 27) (cI 1)),
 mV 41 42])
 (kL [4,6,7,17,18,19,27,41] 1 (.cond (.t 41)
 (.draw 1 [
 ⟨0,none,(oP 43 (.faddr 1 (.t 6))),[]⟩,
 ⟨1,none,(oP 44 (lD 43)),[]⟩,
 ⟨2,none,(oP 45 (.conv (.toInt .u64) (.t 44))),[]⟩,
 ⟨4,none,(oP 47 (.faddr 2 (.t 6))),[]⟩,
 ⟨5,none,(oP 48 (lD 47)),[]⟩,
 ⟨6,none,(oP 49 (.conv (.toInt .u8) (.t 48))),[]⟩,
 ⟨3,none,(oP 46 (.call 437 [(.t 45),(cI 5)])),[(5,(oP 48 (lD 47)))]⟩,
 ⟨7,(some 0),(oP 50 (.bslice false 1 1 [(.int .u8 0)] [(0,(1,(.t 49)))])),[]⟩,
 ⟨8,none,(oP 51 (.app 1 1 (.t 46) (.t 50))),[]⟩,
 ⟨9,none,(mV 7 51),[]⟩])
 (.seq (.region [
 oP 53 (.bin .eql .num (.t 27) (cI 2)),
 mV 52 53])
 (kL [4,6,7,17,18,19,52] 1 (.cond (.t 52)
 (.region [
 oP 54 (.faddr 3 (.t 6)),
 oP 55 (lD 54),
 oP 56 (.conv (.toInt .u64) (.t 55)),
 oP 57 (.call 437 [(.t 56),(cI 2)]),
 mV 7 57])
 (.seq (.region [
 oP 28 (.faddr 4 (.t 6)),
 oP 29 (lD 28),
 oP 30 (.len .sl (.t 29)),
 oP 31 (.mov (cI 0))])
 (kL [4,6,7,17,18,19,29,30,31] 1 (.block 3 (.loop (kL [4,6,7,17,18,19,29,30,31] 1 (.seq (.region [
 oP 32 (.bin .lss .num (.t 31) (.t 30))])
 (kL [4,6,7,17,18,19,29,30,31,32] 1 (.seq (.cond (.t 32)
 (.skip)
 (.exit 3))
 (kL [4,6,7,17,18,19,29,30,31] 1 (.seq (.block 4 (.seq (.region [
 oP 33 (iA 1 29 31),
 oP 34 (lD 33),
 mV 9 34])
 (kL [4,6,7,9,17,18,19,29,30,31] 1 (.region [
 mV 35 7,
 mV 36 9,
 oP 37 (.conv (.toInt .u8) (.t 36)),
 oP 38 (.bslice true 1 1 [(.int .u8 0)] [(0,(1,(.t 37)))]),
 oP 39 (.app 1 1 (.t 35) (.t 38)),
 mV 7 39]))))
 (kL [4,6,7,17,18,19,29,30,31] 1 (.region [
 oP 40 (.bin .add .num (.t 31) (cI 1)),
 mV 31 40])))))))))))))))))))))
 (kL [4,6,7,17,18,19] 1 (.region [
 mV 58 4,
 oP 59 (.faddr 0 (.t 6)),
 oP 60 (lD 59),
 oP 61 (.conv (.toInt .u8) (.t 60)),
 mV 62 7,
 oP 63 (.len .sl (.t 62)),
 oP 64 (.conv (.toInt .u8) (.t 63)),
 oP 65 (.bslice true 1 2 [(.int .u8 0)] [(0,(1,(.t 61))),(1,(1,(.t 64)))]),
 oP 66 (.app 1 1 (.t 58) (.t 65)),
 mV 67 7,
 oP 68 (.app 1 1 (.t 66) (.t 67)),
 mV 4 68]))))))))))
 (kL [4,17,18,19] 0 (.region [
 oP 69 (.bin .add .num (.t 19) (cI 1)),
 mV 19 69]))))))))))))
 (kL [4] 0 (.seq (.region [
 mV 70 4,
 mV 2 70,
 oP 3 (.mov (cI 0))])
 (.ret)))))))))⟩
def n301:NF:=⟨15,[2],
 .seq (.region [
 oP 2 (.mov (.c (.c .nils)))])
 (kL [0] 0 (.seq (.region [
 mV 4 0,
 oP 5 (.call 325 [(.t 4)]),
 mV 3 5])
 (kL [0,3] 0 (.seq (.region [
 mV 6 0,
 oP 7 (.app 1 1 (.c (.c .nils)) (.t 6)),
 mV 8 3,
 oP 9 (.conv (.toInt .u8) (.t 8)),
 mV 10 3,
 oP 11 (.bin .shr .num (.t 10) (.c (.c (.int .u64 8)))),
 oP 12 (.conv (.toInt .u8) (.t 11)),
 oP 13 (.bslice true 1 2 [(.int .u8 0)] [(0,(1,(.t 9))),(1,(1,(.t 12)))]),
 oP 14 (.app 1 1 (.t 7) (.t 13)),
 mV 2 14])
 (.ret)))))⟩
def n378b:Code:=
 .seq (.region [
 oP 2 (.box false 6 (.c (.agg [(.int .i64 0),(.int .i64 0),(.int .i64 0),(.int .i64 0),.nils,.nils]))),
 oP 3 (.mov (cB false))])
 (kL [0,2] 0 (.seq (.region [
 mV 9 0,
 oP 10 (.nilck (.t 9)),
 oP 11 (.faddr 11 (.t 10)),
 oP 12 (lD 11),
 oP 13 (.call 400 [(.t 12),(cI 0)]),
 mV 8 13,
 oP 14 (.ext (.t 8) 0),
 oP 15 (.ext (.t 8) 1),
 mV 4 14,
 mV 5 15])
 (kL [0,2,4,5] 0 (.seq (.region [
 mV 16 0,
 oP 17 (.nilck (.t 16)),
 oP 18 (.faddr 17 (.t 17)),
 oW (.store 1 (.t 18) (cI 0))])
 (kL [2,4,5] 0 (.seq (.region [
 mV 20 4,
 oP 21 (.call 401 [(.t 20)]),
 mV 19 21,
 oP 22 (.ext (.t 19) 0),
 oP 23 (.ext (.t 19) 1),
 oP 6 (.box true 6 (.c (.agg [(.int .i64 0),(.int .i64 0),(.int .i64 0),(.int .i64 0),.nils,.nils]))),
 oW (.store 6 (.t 6) (.t 22)),
 mV 7 23])
 (kL [2,5,6,7] 1 (.seq (.region [
 oP 24 (.load (some 6) (.t 6)),
 mV 25 5,
 mV 26 25,
 mG 27 7 26 true,
 oG 28 (.bin .eql .num (.t 27) (cI 0)) 26 true,
 oP 29 (.pick (.t 26) (.t 28) (cB false)),
 oW (.store 6 (.t 2) (.t 24)),
 mV 3 29])
 (.ret)))))))))
def n378:NF:=⟨30,[2,3],.fin n378b [⟨some 2,.load (some 6) (.t 2),none⟩]⟩
def n379:NF:=⟨22,[],
 .seq (.region [
 oP 4 (.box true 6 (.t 1))])
 (kL [0,2,4] 1 (.draw 1 [
 ⟨0,none,(mV 6 0),[]⟩,
 ⟨1,none,(mV 7 0),[]⟩,
 ⟨2,none,(oP 8 (.nilck (.t 7))),[]⟩,
 ⟨3,none,(oP 9 (.faddr 31 (.t 8))),[]⟩,
 ⟨4,none,(oP 10 (lD 9)),[]⟩,
 ⟨5,none,(mV 11 0),[]⟩,
 ⟨6,none,(oP 12 (.nilck (.t 11))),[]⟩,
 ⟨7,none,(oP 13 (.faddr 9 (.t 12))),[]⟩,
 ⟨8,none,(oP 14 (lD 13)),[]⟩,
 ⟨9,none,(mV 15 2),[]⟩,
 ⟨10,none,(oP 16 (.load (some 6) (.t 4))),[]⟩,
 ⟨11,none,(oP 17 (.build [(.int .i64 0),(.int .i64 0),(.int .i64 0),(.int .i64 0),(.int .i64 0),(.int .i64 0),(.int .i64 0),(.int .i64 0),.nils,.nils] [(0,(1,(cI 5))),(1,(1,(.t 14))),(3,(1,(.t 15))),(4,(6,(.t 16)))])),[]⟩,
 ⟨12,(some 0),(oP 18 (.bslice false 10 1 [(.int .i64 0),(.int .i64 0),(.int .i64 0),(.int .i64 0),(.int .i64 0),(.int .i64 0),(.int .i64 0),(.int .i64 0),.nils,.nils] [(0,(10,(.t 17)))])),[]⟩,
 ⟨13,none,(oP 19 (.app 10 112 (.t 10) (.t 18))),[]⟩,
 ⟨14,none,(oP 20 (.nilck (.t 6))),[]⟩,
 ⟨15,none,(oP 21 (.faddr 31 (.t 20))),[]⟩,
 ⟨16,none,(oW (.store 1 (.t 21) (.t 19))),[]⟩]))⟩
def n281:NF:=⟨10,[2],
 .seq (.region [
 oP 2 (.mov (cI 0))])
 (kL [0] 0 (.seq (.seq (.region [
 mV 3 0,
 oP 4 (.bin .eql .ptr (.t 3) (.c (.c .nilp)))])
 (kL [0,4] 0 (.cond (.t 4)
 (.seq (.region [
 oP 2 (.mov (cI 0))])
 (.ret))
 (.skip))))
 (kL [0] 0 (.seq (.region [
 mV 5 0,
 oP 6 (.nilck (.t 5)),
 oP 7 (.faddr 1 (.t 6)),
 oP 8 (lD 7),
 oP 9 (.len .sl (.t 8)),
 mV 2 9])
 (.ret)))))⟩
def n382:NF:=⟨13,[],
 .seq (.region [
 mV 2 0,
 oP 3 (.bin .neq .ptr (.t 2) (.c (.c .nilp)))])
 (kL [0,3] 0 (.cond (.t 3)
 (.region [
 mV 4 0,
 mV 5 0,
 oP 6 (.nilck (.t 5)),
 oP 7 (.faddr 1 (.t 6)),
 oP 8 (lD 7),
 oP 9 (.bin .add .num (.t 8) (cI 1)),
 oP 10 (.min [(.t 9),(cI 1000000)]),
 oP 11 (.nilck (.t 4)),
 oP 12 (.faddr 1 (.t 11)),
 oW (.store 1 (.t 12) (.t 10))])
 (.skip)))⟩
def n56:NF:=⟨46,[6],
 .seq (.region [
 oP 6 (.mov (.c (.c .nils)))])
 (kL [0,1,2] 0 (.seq (.seq (.region [
 mV 11 0,
 oP 12 (.bin .eql .ptr (.t 11) (.c (.c .nilp))),
 mV 13 12,
 mG 14 1 13 false,
 oG 15 (.bin .lss .num (.t 14) (cI 0)) 13 false,
 oP 16 (.pick (.t 13) (cB true) (.t 15))])
 (kL [0,1,2,16] 0 (.cond (.t 16)
 (.seq (.region [
 oP 6 (.mov (.c (.c .nils)))])
 (.ret))
 (.skip))))
 (kL [0,1,2] 0 (.seq (.region [
 oP 7 (.mov (.c (.c .nils)))])
 (kL [0,1,2,7] 0 (.seq (.region [
 mV 17 1,
 mV 18 2,
 oP 19 (.max [(cI 1),(.t 18)]),
 oP 20 (.bin .sub .num (.t 17) (.t 19)),
 oP 8 (.box false 1 (cI 0)),
 oW (.store 1 (.t 8) (.t 20))])
 (kL [0,7,8] 0 (.seq (.seq (.region [
 mV 21 0,
 oP 22 (.nilck (.t 21)),
 oP 23 (.faddr 2 (.t 22)),
 oP 24 (lD 23),
 oP 25 (.len .sl (.t 24)),
 oP 26 (.mov (cI 0))])
 (kL [0,7,8,24,25,26] 0 (.block 0 (.loop (kL [0,7,8,24,25,26] 0 (.seq (.region [
 oP 27 (.bin .lss .num (.t 26) (.t 25))])
 (kL [0,7,8,24,25,26,27] 0 (.seq (.cond (.t 27)
 (.skip)
 (.exit 0))
 (kL [0,7,8,24,25,26] 0 (.seq (.block 1 (.seq (.region [
 oP 28 (iA 3 24 26),
 oP 29 (.load (some 3) (.t 28)),
 oP 10 (.box true 3 (.c (.agg [(.int .i64 0),(.int .i64 0),(.int .i64 0)]))),
 oW (.store 3 (.t 10) (.t 29))])
 (kL [0,7,8,10,24,25,26] 1 (.seq (.region [
 oP 30 (.faddr 2 (.t 10)),
 oP 31 (lD 30),
 oP 32 (lD 8),
 oP 33 (.bin .leq .num (.t 31) (.t 32))])
 (kL [0,7,8,10,24,25,26,33] 1 (.cond (.t 33)
 (.region [
 mV 34 7,
 oP 35 (.faddr 1 (.t 10)),
 oP 36 (lD 35),
 oP 37 (.bslice true 1 1 [(.int .i64 0)] [(0,(1,(.t 36)))]),
 oP 38 (.app 1 8 (.t 34) (.t 37)),
 mV 7 38])
 (.skip)))))))
 (kL [0,7,8,24,25,26] 0 (.region [
 oP 39 (.bin .add .num (.t 26) (cI 1)),
 mV 26 39]))))))))))))
 (kL [0,7,8] 0 (.seq (.region [
 mV 40 7,
 oP 41 (.call 74 [(.t 40)])])
 (kL [0,7,8] 0 (.seq (.region [
 mV 42 0,
 oP 43 (.mkfn 75 [(.t 8)]),
 oP 44 (.call 76 [(.t 42),(.t 43)])])
 (kL [7] 0 (.seq (.region [
 mV 45 7,
 mV 6 45])
 (.ret)))))))))))))))⟩
def n383:NF:=⟨17,[],
 .seq (.region [
 mV 5 0,
 oP 6 (.call 274 [(.t 5)]),
 mV 4 6])
 (kL [0,1,4] 0 (.seq (.region [
 mV 7 4,
 mV 8 1,
 oP 9 (.bin .neq .num (.t 7) (.t 8)),
 mV 10 9,
 mG 11 4 10 true,
 oG 12 (.bin .neq .num (.t 11) (cI 64)) 10 true,
 oP 13 (.pick (.t 10) (.t 12) (cB false))])
 (kL [0,4,13] 0 (.cond (.t 13)
 (.region [
 mV 14 0,
 mV 15 4,
 oP 16 (.call 384 [(.t 14),(cI 6),(.t 15)])])
 (.skip)))))⟩
def n266:NF:=⟨72,[2],
 .seq (.region [
 oP 1 (.box true 9 (.t 0)),
 oP 2 (.mov (cB false))])
 (kL [1] 1 (.seq (.seq (.region [
 oP 5 (.faddr 0 (.t 1)),
 oP 6 (lD 5),
 oP 7 (.call 267 [(.t 6),(cI 2),(cI 16)]),
 oP 8 (.un .not (.t 7)),
 mV 9 8,
 oG 10 (.faddr 1 (.t 1)) 9 false,
 oG 11 (lD 10) 9 false,
 oG 12 (.len .sl (.t 11)) 9 false,
 oG 13 (.faddr 0 (.t 1)) 9 false,
 oG 14 (lD 13) 9 false,
 oG 15 (.bin .neq .num (.t 12) (.t 14)) 9 false,
 oP 16 (.pick (.t 9) (cB true) (.t 15)),
 mV 17 16,
 oG 18 (.faddr 2 (.t 1)) 17 false,
 oG 19 (lD 18) 17 false,
 oG 20 (.call 288 [(.t 19)]) 17 false,
 oG 21 (.un .not (.t 20)) 17 false,
 oP 22 (.pick (.t 17) (cB true) (.t 21))])
 (kL [1,22] 1 (.cond (.t 22)
 (.seq (.region [
 oP 2 (.mov (cB false))])
 (.ret))
 (.skip))))
 (kL [1] 1 (.seq (.seq (.region [
 oP 23 (.faddr 1 (.t 1)),
 oP 24 (lD 23),
 oP 25 (.len .sl (.t 24)),
 oP 26 (.mov (cI 0))])
 (kL [1,24,25,26] 1 (.block 0 (.loop (kL [1,24,25,26] 1 (.seq (.region [
 oP 27 (.bin .lss .num (.t 26) (.t 25))])
 (kL [1,24,25,26,27] 1 (.seq (.cond (.t 27)
 (.skip)
 (.exit 0))
 (kL [1,24,25,26] 1 (.seq (.block 1 (.seq (.region [
 mV 28 26,
 oP 29 (iA 1 24 26),
 oP 30 (lD 29),
 mV 3 28,
 mV 4 30])
 (kL [1,3,4,24,25,26] 1 (.seq (.region [
 mV 31 4,
 mV 32 3,
 oP 33 (.bin .shr .num (.t 31) (.t 32)),
 oP 34 (.bin .and .num (.t 33) (.c (.c (.int .u64 1)))),
 oP 35 (.bin .neq .num (.t 34) (.c (.c (.int .u64 0)))),
 mV 36 35,
 mG 37 4 36 false,
 oG 38 (.faddr 0 (.t 1)) 36 false,
 oG 39 (lD 38) 36 false,
 oG 40 (.bin .shr .num (.t 37) (.t 39)) 36 false,
 oG 41 (.bin .neq .num (.t 40) (.c (.c (.int .u64 0)))) 36 false,
 oP 42 (.pick (.t 36) (cB true) (.t 41))])
 (kL [1,24,25,26,42] 1 (.cond (.t 42)
 (.seq (.region [
 oP 2 (.mov (cB false))])
 (.ret))
 (.skip)))))))
 (kL [1,24,25,26] 1 (.region [
 oP 43 (.bin .add .num (.t 26) (cI 1)),
 mV 26 43]))))))))))))
 (kL [1] 1 (.seq (.region [
 oP 44 (.faddr 3 (.t 1)),
 oP 45 (lD 44),
 oP 46 (.call 267 [(.t 45),(cI 1),(cI 4000)]),
 mV 47 46,
 oG 48 (.faddr 4 (.t 1)) 47 true,
 oG 49 (lD 48) 47 true,
 oG 50 (.call 267 [(.t 49),(cI 0),(cI 1000)]) 47 true,
 oP 51 (.pick (.t 47) (.t 50) (cB false)),
 mV 52 51,
 oG 53 (.faddr 5 (.t 1)) 52 true,
 oG 54 (lD 53) 52 true,
 oG 55 (.call 267 [(.t 54),(cI 1),(cI 10000)]) 52 true,
 oP 56 (.pick (.t 52) (.t 55) (cB false)),
 mV 57 56,
 oG 58 (.faddr 6 (.t 1)) 57 true,
 oG 59 (lD 58) 57 true,
 oG 60 (.call 267 [(.t 59),(cI 1),(cI 10000)]) 57 true,
 oP 61 (.pick (.t 57) (.t 60) (cB false)),
 mV 62 61,
 oG 63 (.faddr 7 (.t 1)) 62 true,
 oG 64 (lD 63) 62 true,
 oG 65 (.call 267 [(.t 64),(cI 1),(cI 32)]) 62 true,
 oP 66 (.pick (.t 62) (.t 65) (cB false)),
 mV 67 66,
 oG 68 (.faddr 8 (.t 1)) 67 true,
 oG 69 (lD 68) 67 true,
 oG 70 (.call 267 [(.t 69),(cI 1),(cI 15)]) 67 true,
 oP 71 (.pick (.t 67) (.t 70) (cB false)),
 mV 2 71])
 (.ret)))))))⟩
def n268:NF:=⟨8,[2],
 .seq (.region [
 oP 2 (.mov (.c (.c .nils)))])
 (kL [0] 0 (.seq (.seq (.region [
 mV 3 0,
 oP 4 (.bin .eql .sl (.t 3) (.c (.c .nils)))])
 (kL [0,4] 0 (.cond (.t 4)
 (.seq (.region [
 oP 2 (.mov (.c (.c .nils)))])
 (.ret))
 (.skip))))
 (kL [0] 0 (.seq (.region [
 oP 5 (.bslice false 1 0 [(.int .u64 0)] []),
 mV 6 0,
 oP 7 (.app 1 8 (.t 5) (.t 6)),
 mV 2 7])
 (.ret)))))⟩
def n203:NF:=⟨8,[2],
 .seq (.region [
 oP 2 (.mov (.c (.c .nils)))])
 (kL [0] 0 (.seq (.seq (.region [
 mV 3 0,
 oP 4 (.bin .eql .sl (.t 3) (.c (.c .nils)))])
 (kL [0,4] 0 (.cond (.t 4)
 (.seq (.region [
 oP 2 (.mov (.c (.c .nils)))])
 (.ret))
 (.skip))))
 (kL [0] 0 (.seq (.region [
 oP 5 (.bslice false 1 0 [(.int .i64 0)] []),
 mV 6 0,
 oP 7 (.app 1 8 (.t 5) (.t 6)),
 mV 2 7])
 (.ret)))))⟩
def n269:NF:=⟨3,[0],
 .seq (.region [
 oP 0 (.mov (.c (.c .nilp)))])
 (kL [] 0 (.seq (.region [
 oP 1 (.build [(.int .i64 0),(.int .i64 0),(.int .i64 0)] []),
 oP 2 (.box false 3 (.t 1)),
 mV 0 2])
 (.ret)))⟩
def n270:NF:=⟨8,[2],
 .seq (.region [
 oP 2 (.mov (.c (.c .nilp)))])
 (kL [0] 0 (.seq (.region [
 mV 3 0,
 oP 4 (.min [(.t 3),(cI 32)]),
 oP 5 (.max [(cI 1),(.t 4)]),
 oP 6 (.build [(.int .i64 0),.nils,(.int .i64 0)] [(0,(1,(.t 5)))]),
 oP 7 (.box false 3 (.t 6)),
 mV 2 7])
 (.ret)))⟩
def n271:NF:=⟨4,[0],
 .seq (.region [
 oP 0 (.mov (.c (.c .nilp)))])
 (kL [] 0 (.seq (.region [
 oP 1 .mkmap,
 oP 2 (.build [.nilm] [(0,(1,(.t 1)))]),
 oP 3 (.box false 1 (.t 2)),
 mV 0 3])
 (.ret)))⟩
def n66:NF:=⟨9,[2],
 .seq (.region [
 oP 2 (.mov (cI 0))])
 (kL [0] 0 (.seq (.seq (.region [
 mV 3 0,
 oP 4 (.bin .eql .ptr (.t 3) (.c (.c .nilp)))])
 (kL [0,4] 0 (.cond (.t 4)
 (.seq (.region [
 oP 2 (.mov (cI 0))])
 (.ret))
 (.skip))))
 (kL [0] 0 (.seq (.region [
 mV 5 0,
 oP 6 (.nilck (.t 5)),
 oP 7 (.faddr 1 (.t 6)),
 oP 8 (lD 7),
 mV 2 8])
 (.ret)))))⟩
def n64:NF:=⟨24,[2],
 .seq (.region [
 oP 2 (.mov (.c (.c .nils)))])
 (kL [0] 0 (.seq (.seq (.region [
 mV 6 0,
 oP 7 (.bin .eql .ptr (.t 6) (.c (.c .nilp)))])
 (kL [0,7] 0 (.cond (.t 7)
 (.seq (.region [
 oP 2 (.mov (.c (.c .nils)))])
 (.ret))
 (.skip))))
 (kL [0] 0 (.seq (.region [
 oP 3 (.mov (.c (.c .nils)))])
 (kL [0,3] 0 (.seq (.seq (.region [
 mV 8 0,
 oP 9 (.nilck (.t 8)),
 oP 10 (.faddr 2 (.t 9)),
 oP 11 (lD 10),
 oP 12 (.len .sl (.t 11)),
 oP 13 (.mov (cI 0))])
 (kL [3,11,12,13] 0 (.block 0 (.loop (kL [3,11,12,13] 0 (.seq (.region [
 oP 14 (.bin .lss .num (.t 13) (.t 12))])
 (kL [3,11,12,13,14] 0 (.seq (.cond (.t 14)
 (.skip)
 (.exit 0))
 (kL [3,11,12,13] 0 (.seq (.block 1 (.seq (.region [
 oP 15 (iA 3 11 13),
 oP 16 (.load (some 3) (.t 15)),
 oP 5 (.box true 3 (.c (.agg [(.int .i64 0),(.int .i64 0),(.int .i64 0)]))),
 oW (.store 3 (.t 5) (.t 16))])
 (kL [3,5,11,12,13] 1 (.region [
 mV 17 3,
 oP 18 (.faddr 1 (.t 5)),
 oP 19 (lD 18),
 oP 20 (.bslice true 1 1 [(.int .i64 0)] [(0,(1,(.t 19)))]),
 oP 21 (.app 1 8 (.t 17) (.t 20)),
 mV 3 21]))))
 (kL [3,11,12,13] 0 (.region [
 oP 22 (.bin .add .num (.t 13) (cI 1)),
 mV 13 22]))))))))))))
 (kL [3] 0 (.seq (.region [
 mV 23 3,
 mV 2 23])
 (.ret)))))))))⟩
def n402:NF:=⟨11,[4],
 .seq (.region [
 oP 4 (.mov (cI 0))])
 (kL [0,1] 0 (.seq (.region [
 mV 5 1,
 oP 6 (.un .neg (.t 5)),
 mV 7 0,
 mV 8 1,
 oP 9 (.min [(.t 7),(.t 8)]),
 oP 10 (.max [(.t 6),(.t 9)]),
 mV 4 10])
 (.ret)))⟩
def n394:NF:=⟨17,[2],
 .seq (.region [
 oP 2 (.mov (cB false))])
 (kL [0] 0 (.seq (.region [
 mV 4 0,
 oP 5 (.len .sl (.t 4)),
 oP 6 (.bin .sub .num (.t 5) (cI 2)),
 mV 3 6])
 (kL [0,3] 0 (.seq (.region [
 mV 7 3,
 oP 8 (.bin .geq .num (.t 7) (cI 0)),
 mV 9 8,
 mG 10 0 9 true,
 mG 11 3 9 true,
 oG 12 (.slice 1 (.t 10) none (some (.t 11)) none) 9 true,
 oG 13 (.call 300 [(.t 12)]) 9 true,
 mG 14 0 9 true,
 oG 15 (.call 386 [(.t 13),(.t 14)]) 9 true,
 oP 16 (.pick (.t 9) (.t 15) (cB false)),
 mV 2 16])
 (.ret)))))⟩
def n395:NF:=⟨7,[2],
 .seq (.region [
 oP 2 (.mov (.c (.c .nilp)))])
 (kL [0] 0 (.seq (.region [
 mV 3 0,
 oP 4 (.app 1 1 (.c (.c .nils)) (.t 3)),
 oP 5 (.build [.nils,(.int .i64 0),(.int .i64 0)] [(0,(1,(.t 4)))]),
 oP 6 (.box false 3 (.t 5)),
 mV 2 6])
 (.ret)))⟩
def n396:NF:=⟨6,[2],
 .seq (.region [
 oP 2 (.mov (cI 0))])
 (kL [0] 0 (.seq (.region [
 mV 3 0,
 oP 4 (.call 406 [(.t 3),(cI 8)]),
 oP 5 (.conv (.toInt .i64) (.t 4)),
 mV 2 5])
 (.ret)))⟩
def n397:NF:=⟨31,[4],
 .seq (.region [
 oP 4 (.mov (.c (.c .nils)))])
 (kL [0,1] 0 (.seq (.seq (.region [
 mV 6 1,
 oP 7 (.bin .leq .num (.t 6) (cI 0)),
 mV 8 7,
 mG 9 0 8 false,
 mG 10 1 8 false,
 mG 11 0 8 false,
 oG 12 (.call 407 [(.t 11)]) 8 false,
 oG 13 (.len .sl (.t 12)) 8 false,
 oG 14 (.bin .add .num (.t 13) (cI 1)) 8 false,
 oG 15 (.min [(.t 10),(.t 14)]) 8 false,
 oG 16 (.bin .mul .num (.t 15) (cI 8)) 8 false,
 oG 17 (.call 408 [(.t 9),(.t 16)]) 8 false,
 oG 18 (.un .not (.t 17)) 8 false,
 oP 19 (.pick (.t 8) (cB true) (.t 18))])
 (kL [0,1,19] 0 (.cond (.t 19)
 (.seq (.region [
 oP 4 (.mov (.c (.c .nils)))])
 (.ret))
 (.skip))))
 (kL [0,1] 0 (.seq (.region [
 oP 5 (.mov (.c (.c .nils)))])
 (kL [0,1,5] 0 (.seq (.seq (.region [
 mV 20 1,
 oP 21 (.mov (cI 0))])
 (kL [0,5,20,21] 0 (.block 0 (.loop (kL [0,5,20,21] 0 (.seq (.region [
 oP 22 (.bin .lss .num (.t 21) (.t 20))])
 (kL [0,5,20,21,22] 0 (.seq (.cond (.t 22)
 (.skip)
 (.exit 0))
 (kL [0,5,20,21] 0 (.seq (.block 1 (.region [
 mV 23 5,
 mV 24 0,
 oP 25 (.call 406 [(.t 24),(cI 8)]),
 oP 26 (.conv (.toInt .u8) (.t 25)),
 oP 27 (.bslice true 1 1 [(.int .u8 0)] [(0,(1,(.t 26)))]),
 oP 28 (.app 1 1 (.t 23) (.t 27)),
 mV 5 28]))
 (kL [0,5,20,21] 0 (.region [
 oP 29 (.bin .add .num (.t 21) (cI 1)),
 mV 21 29]))))))))))))
 (kL [5] 0 (.seq (.region [
 mV 30 5,
 mV 4 30])
 (.ret)))))))))⟩
def n398:NF:=⟨21,[2],
 .seq (.region [
 oP 2 (.mov (cI 0))])
 (kL [0] 0 (.seq (.block 0 (.seq (.region [
 mV 4 0,
 oP 5 (.bin .eql .ptr (.t 4) (.c (.c .nilp))),
 mV 3 5])
 (kL [0,3] 0 (.cond (.t 3)
 (.seq (.region [
 oP 2 (.mov (cI 1))])
 (.ret))
 (.seq (.region [
 mV 7 0,
 oP 8 (.nilck (.t 7)),
 oP 9 (.faddr 2 (.t 8)),
 oP 10 (lD 9),
 oP 11 (.bin .eql .num (.t 10) (cI 0)),
 mV 12 11,
 mG 13 0 12 true,
 oG 14 (.call 409 [(.t 13)]) 12 true,
 oG 15 (.bin .gtr .num (.t 14) (cI 0)) 12 true,
 oP 16 (.pick (.t 12) (.t 15) (cB false)),
 mV 6 16])
 (kL [0,6] 0 (.cond (.t 6)
 (.seq (.region [
 oP 2 (.mov (cI 3))])
 (.ret))
 (.skip))))))))
 (kL [0] 0 (.seq (.region [
 mV 17 0,
 oP 18 (.nilck (.t 17)),
 oP 19 (.faddr 2 (.t 18)),
 oP 20 (lD 19),
 mV 2 20])
 (.ret)))))⟩
def n399:NF:=⟨41,[2,3],
 .seq (.region [
 oP 2 (.mov (.c (.c .nils))),
 oP 3 (.mov (cI 0))])
 (kL [0] 0 (.seq (.region [
 mV 10 0,
 oP 11 (.call 395 [(.t 10)]),
 mV 4 11])
 (kL [4] 0 (.seq (.region [
 mV 12 4,
 oP 13 (.call 406 [(.t 12),(cI 8)]),
 oP 14 (.conv (.toInt .i64) (.t 13)),
 mV 5 14])
 (kL [4,5] 0 (.seq (.seq (.region [
 mV 15 4,
 oP 16 (.call 410 [(.t 15)])])
 (kL [4,5,16] 0 (.cond (.t 16)
 (.seq (.region [
 oP 2 (.mov (.c (.c .nils))),
 oP 3 (.mov (cI 2))])
 (.ret))
 (.skip))))
 (kL [4,5] 0 (.seq (.seq (.region [
 mV 17 5,
 oP 18 (.bin .gtr .num (.t 17) (cI 4))])
 (kL [4,5,18] 0 (.cond (.t 18)
 (.seq (.region [
 oP 2 (.mov (.c (.c .nils))),
 oP 3 (.mov (cI 3))])
 (.ret))
 (.skip))))
 (kL [4,5] 0 (.seq (.region [
 oP 6 (.mov (.c (.c .nils)))])
 (kL [4,5,6] 0 (.seq (.seq (.region [
 mV 19 5,
 oP 20 (.mov (cI 0))])
 (kL [4,6,19,20] 0 (.block 0 (.loop (kL [4,6,19,20] 0 (.seq (.region [
 oP 21 (.bin .lss .num (.t 20) (.t 19))])
 (kL [4,6,19,20,21] 0 (.seq (.cond (.t 21)
 (.skip)
 (.exit 0))
 (kL [4,6,19,20] 0 (.seq (.block 1 (.seq (.region [
 mV 23 4,
 oP 24 (.call 411 [(.t 23)]),
 mV 22 24,
 oP 25 (.ext (.t 22) 0),
 oP 26 (.ext (.t 22) 1),
 oP 7 (.box true 5 (.c (.agg [(.int .i64 0),(.int .i64 0),(.int .i64 0),(.int .i64 0),.nils]))),
 oW (.store 5 (.t 7) (.t 25)),
 mV 8 26])
 (kL [4,6,7,8,19,20] 1 (.seq (.seq (.region [
 mV 27 8,
 oP 28 (.bin .neq .num (.t 27) (cI 0))])
 (kL [4,6,7,8,19,20,28] 1 (.cond (.t 28)
 (.seq (.region [
 mV 29 8,
 oP 2 (.mov (.c (.c .nils))),
 mV 3 29])
 (.ret))
 (.skip))))
 (kL [4,6,7,19,20] 1 (.region [
 mV 30 6,
 oP 31 (.load (some 5) (.t 7)),
 oP 32 (.bslice true 5 1 [(.int .i64 0),(.int .i64 0),(.int .i64 0),(.int .i64 0),.nils] [(0,(5,(.t 31)))]),
 oP 33 (.app 5 56 (.t 30) (.t 32)),
 mV 6 33]))))))
 (kL [4,6,19,20] 0 (.region [
 oP 34 (.bin .add .num (.t 20) (cI 1)),
 mV 20 34]))))))))))))
 (kL [4,6] 0 (.seq (.seq (.region [
 mV 35 4,
 oP 36 (.call 398 [(.t 35)]),
 mV 9 36])
 (kL [6,9] 0 (.seq (.region [
 mV 37 9,
 oP 38 (.bin .neq .num (.t 37) (cI 0))])
 (kL [6,9,38] 0 (.cond (.t 38)
 (.seq (.region [
 mV 39 9,
 oP 2 (.mov (.c (.c .nils))),
 mV 3 39])
 (.ret))
 (.skip))))))
 (kL [6] 0 (.seq (.region [
 mV 40 6,
 mV 2 40,
 oP 3 (.mov (cI 0))])
 (.ret)))))))))))))))))⟩
def n298:NF:=⟨52,[2],
 .seq (.region [
 oP 1 (.box true 6 (.t 0)),
 oP 2 (.mov (cB false))])
 (kL [1] 1 (.seq (.seq (.region [
 oP 3 (.faddr 1 (.t 1)),
 oP 4 (lD 3),
 oP 5 (.call 315 [(.t 4)]),
 oP 6 (.un .not (.t 5)),
 mV 7 6,
 oG 8 (.faddr 2 (.t 1)) 7 false,
 oG 9 (lD 8) 7 false,
 oG 10 (.call 315 [(.t 9)]) 7 false,
 oG 11 (.un .not (.t 10)) 7 false,
 mG 12 11 7 false,
 oG 13 (.faddr 2 (.t 1)) 12 true,
 oG 14 (lD 13) 12 true,
 oG 15 (.bin .neq .num (.t 14) (cI 64)) 12 true,
 oG 16 (.pick (.t 12) (.t 15) (cB false)) 7 false,
 oP 17 (.pick (.t 7) (cB true) (.t 16)),
 mV 18 17,
 oG 19 (.faddr 2 (.t 1)) 18 false,
 oG 20 (lD 19) 18 false,
 oG 21 (.faddr 1 (.t 1)) 18 false,
 oG 22 (lD 21) 18 false,
 oG 23 (.bin .eql .num (.t 20) (.t 22)) 18 false,
 oP 24 (.pick (.t 18) (cB true) (.t 23)),
 mV 25 24,
 oG 26 (.faddr 3 (.t 1)) 25 false,
 oG 27 (lD 26) 25 false,
 oG 28 (.bin .lss .num (.t 27) (cI 0)) 25 false,
 oP 29 (.pick (.t 25) (cB true) (.t 28)),
 mV 30 29,
 oG 31 (.faddr 3 (.t 1)) 30 false,
 oG 32 (lD 31) 30 false,
 oG 33 (.bin .gtr .num (.t 32) (cI 255)) 30 false,
 oP 34 (.pick (.t 30) (cB true) (.t 33))])
 (kL [1,34] 1 (.cond (.t 34)
 (.seq (.region [
 oP 2 (.mov (cB false))])
 (.ret))
 (.skip))))
 (kL [1] 1 (.seq (.seq (.region [
 oP 35 (.faddr 4 (.t 1)),
 oP 36 (lD 35),
 oP 37 (.len .sl (.t 36)),
 oP 38 (.bin .gtr .num (.t 37) (cI 4)),
 mV 39 38,
 oG 40 (.faddr 4 (.t 1)) 39 false,
 oG 41 (lD 40) 39 false,
 oG 42 (.call 316 [(.t 41),(.c (.c (.fn 317 [])))]) 39 false,
 oP 43 (.pick (.t 39) (cB true) (.t 42)),
 mV 44 43,
 oG 45 (.faddr 5 (.t 1)) 44 false,
 oG 46 (lD 45) 44 false,
 oG 47 (.len .sl (.t 46)) 44 false,
 oG 48 (.bin .gtr .num (.t 47) (cI 64)) 44 false,
 oP 49 (.pick (.t 44) (cB true) (.t 48))])
 (kL [1,49] 1 (.cond (.t 49)
 (.seq (.region [
 oP 2 (.mov (cB false))])
 (.ret))
 (.skip))))
 (kL [1] 1 (.seq (.region [
 oP 50 (.load (some 6) (.t 1)),
 oP 51 (.call 318 [(.t 50)]),
 mV 2 51])
 (.ret)))))))⟩
def n336b:Code:=
 .seq (.region [
 oP 4 (.box false 5 (.c (.agg [(.int .i64 0),(.int .i64 0),(.int .i64 0),(.int .i64 0),.nils]))),
 oP 5 (.mov (cB false))])
 (kL [0,1,4] 0 (.seq (.seq (.region [
 mV 8 0,
 oP 9 (.len .sl (.t 8)),
 oP 10 (.mov (cI 0))])
 (kL [1,4,8,9,10] 0 (.block 0 (.loop (kL [1,4,8,9,10] 0 (.seq (.region [
 oP 11 (.bin .lss .num (.t 10) (.t 9))])
 (kL [1,4,8,9,10,11] 0 (.seq (.cond (.t 11)
 (.skip)
 (.exit 0))
 (kL [1,4,8,9,10] 0 (.seq (.block 1 (.seq (.region [
 oP 12 (iA 5 8 10),
 oP 13 (.load (some 5) (.t 12)),
 oP 7 (.box true 5 (.c (.agg [(.int .i64 0),(.int .i64 0),(.int .i64 0),(.int .i64 0),.nils]))),
 oW (.store 5 (.t 7) (.t 13))])
 (kL [1,4,7,8,9,10] 1 (.seq (.region [
 oP 14 (.faddr 0 (.t 7)),
 oP 15 (lD 14),
 mV 16 1,
 oP 17 (.bin .eql .num (.t 15) (.t 16))])
 (kL [1,4,7,8,9,10,17] 1 (.cond (.t 17)
 (.seq (.region [
 oP 18 (.faddr 4 (.t 7)),
 oP 19 (lD 18),
 oP 20 (.call 203 [(.t 19)]),
 oP 21 (.faddr 4 (.t 7)),
 oW (.store 1 (.t 21) (.t 20))])
 (kL [4,7] 1 (.seq (.region [
 oP 22 (.load (some 5) (.t 7)),
 oW (.store 5 (.t 4) (.t 22)),
 oP 5 (.mov (cB true))])
 (.ret))))
 (.skip)))))))
 (kL [1,4,8,9,10] 0 (.region [
 oP 23 (.bin .add .num (.t 10) (cI 1)),
 mV 10 23]))))))))))))
 (kL [4] 0 (.seq (.region [
 oP 24 (.build [(.int .i64 0),(.int .i64 0),(.int .i64 0),(.int .i64 0),.nils] []),
 oW (.store 5 (.t 4) (.t 24)),
 oP 5 (.mov (cB false))])
 (.ret)))))
def n336:NF:=⟨25,[4,5],.fin n336b [⟨some 4,.load (some 5) (.t 4),none⟩]⟩
def n53:NF:=⟨17,[4],
 .seq (.region [
 oP 4 (.mov (.c (.c .nilp)))])
 (kL [0,1] 0 (.seq (.seq (.region [
 mV 5 0,
 oP 6 (.call 73 [(.t 5),(cI 0),(cI 15)]),
 oP 7 (.un .not (.t 6)),
 mV 8 7,
 mG 9 1 8 false,
 oG 10 (.call 73 [(.t 9),(cI 0),(cI 255)]) 8 false,
 oG 11 (.un .not (.t 10)) 8 false,
 oP 12 (.pick (.t 8) (cB true) (.t 11))])
 (kL [0,1,12] 0 (.cond (.t 12)
 (.seq (.region [
 oP 4 (.mov (.c (.c .nilp)))])
 (.ret))
 (.skip))))
 (kL [0,1] 0 (.seq (.region [
 mV 13 0,
 mV 14 1,
 oP 15 (.build [(.int .i64 0),(.int .i64 0),.nils] [(0,(1,(.t 13))),(1,(1,(.t 14)))]),
 oP 16 (.box false 3 (.t 15)),
 mV 4 16])
 (.ret)))))⟩
def n403:NF:=⟨8,[2],
 .seq (.region [
 oP 2 (.mov (.c (.c .nilp)))])
 (kL [0] 0 (.seq (.region [
 mV 3 0,
 oP 4 (.min [(.t 3),(cI 10000)]),
 oP 5 (.max [(cI 1),(.t 4)]),
 oP 6 (.build [(.int .i64 0),(.int .i64 0)] [(0,(1,(.t 5)))]),
 oP 7 (.box false 2 (.t 6)),
 mV 2 7])
 (.ret)))⟩
def n58:NF:=⟨96,[8],
 .seq (.region [
 oP 4 (.box false 1 (.t 0)),
 oP 5 (.box false 1 (.t 1)),
 oP 8 (.mov (cB false))])
 (kL [2,3,4,5] 0 (.seq (.seq (.draw 0 [
 ⟨0,none,(oP 11 (lD 4)),[]⟩,
 ⟨1,none,(oP 12 (.bin .eql .ptr (.t 11) (.c (.c .nilp)))),[]⟩,
 ⟨2,none,(mV 13 12),[]⟩,
 ⟨3,none,(oG 14 (lD 5) 13 false),[]⟩,
 ⟨4,none,(oG 15 (.call 73 [(.t 14),(cI 0),(cI 15)]) 13 false),[]⟩,
 ⟨5,none,(oG 16 (.un .not (.t 15)) 13 false),[]⟩,
 ⟨6,none,(oP 17 (.pick (.t 13) (cB true) (.t 16))),[]⟩,
 ⟨7,none,(mV 18 17),[]⟩,
 ⟨8,none,(oG 19 (lD 5) 18 false),[]⟩,
 ⟨9,none,(oG 20 (lD 4) 18 false),[]⟩,
 ⟨10,none,(oG 21 (.nilck (.t 20)) 18 false),[]⟩,
 ⟨11,none,(oG 22 (.faddr 0 (.t 21)) 18 false),[]⟩,
 ⟨12,none,(oG 23 (lD 22) 18 false),[]⟩,
 ⟨13,none,(oG 24 (.bin .eql .num (.t 19) (.t 23)) 18 false),[]⟩,
 ⟨14,none,(oP 25 (.pick (.t 18) (cB true) (.t 24))),[]⟩,
 ⟨15,none,(mV 26 25),[]⟩,
 ⟨16,none,(mG 27 2 26 false),[]⟩,
 ⟨17,none,(oG 28 (.call 73 [(.t 27),(cI 0),(cI 255)]) 26 false),[]⟩,
 ⟨18,none,(oG 29 (.un .not (.t 28)) 26 false),[]⟩,
 ⟨19,none,(oP 30 (.pick (.t 26) (cB true) (.t 29))),[]⟩,
 ⟨20,none,(mV 31 30),[]⟩,
 ⟨21,none,(mG 32 3 31 false),[]⟩,
 ⟨22,none,(oG 33 (.bin .lss .num (.t 32) (cI 0)) 31 false),[]⟩,
 ⟨23,none,(oP 34 (.pick (.t 31) (cB true) (.t 33))),[]⟩])
 (kL [2,3,4,5,34] 0 (.cond (.t 34)
 (.seq (.region [
 oP 8 (.mov (cB false))])
 (.ret))
 (.skip))))
 (kL [2,3,4,5] 0 (.seq (.region [
 oP 35 (lD 4),
 oP 36 (.mkfn 77 [(.t 5)]),
 oP 37 (.call 76 [(.t 35),(.t 36)])])
 (kL [2,3,4,5] 0 (.seq (.seq (.region [
 mV 38 2,
 oP 39 (lD 4),
 oP 40 (.nilck (.t 39)),
 oP 41 (.faddr 1 (.t 40)),
 oP 42 (lD 41),
 oP 43 (.bin .geq .num (.t 38) (.t 42))])
 (kL [2,3,4,5,43] 0 (.cond (.t 43)
 (.seq (.region [
 oP 8 (.mov (cB false))])
 (.ret))
 (.skip))))
 (kL [2,3,4,5] 0 (.seq (.draw 1 [
 ⟨0,none,(oP 44 (lD 4)),[]⟩,
 ⟨1,none,(oP 45 (lD 4)),[]⟩,
 ⟨2,none,(oP 46 (.nilck (.t 45))),[]⟩,
 ⟨3,none,(oP 47 (.faddr 2 (.t 46))),[]⟩,
 ⟨4,none,(oP 48 (lD 47)),[]⟩,
 ⟨5,none,(mV 49 2),[]⟩,
 ⟨6,none,(oP 50 (lD 5)),[]⟩,
 ⟨7,none,(mV 51 3),[]⟩,
 ⟨8,none,(oP 52 (.build [(.int .i64 0),(.int .i64 0),(.int .i64 0)] [(0,(1,(.t 49))),(1,(1,(.t 50))),(2,(1,(.t 51)))])),[]⟩,
 ⟨9,(some 0),(oP 53 (.bslice false 3 1 [(.int .i64 0),(.int .i64 0),(.int .i64 0)] [(0,(3,(.t 52)))])),[]⟩,
 ⟨10,none,(oP 54 (.app 3 24 (.t 48) (.t 53))),[(0,(oP 44 (lD 4)))]⟩,
 ⟨11,none,(oP 55 (.nilck (.t 44))),[]⟩,
 ⟨12,none,(oP 56 (.faddr 2 (.t 55))),[]⟩,
 ⟨13,none,(oW (.store 1 (.t 56) (.t 54))),[]⟩])
 (kL [2,4,5] 0 (.seq (.region [
 oP 57 (lD 4),
 oP 58 (.nilck (.t 57)),
 oP 59 (.faddr 2 (.t 58)),
 oP 60 (lD 59),
 oP 61 (.call 78 [(.t 60),(.c (.c (.fn 79 [])))])])
 (kL [2,4,5] 0 (.seq (.draw 0 [
 ⟨0,none,(oP 62 (lD 4)),[]⟩,
 ⟨1,none,(oP 63 (lD 4)),[]⟩,
 ⟨2,none,(oP 64 (.nilck (.t 63))),[]⟩,
 ⟨3,none,(oP 65 (.faddr 1 (.t 64))),[]⟩,
 ⟨4,none,(oP 66 (lD 65)),[]⟩,
 ⟨5,none,(mV 67 2),[]⟩,
 ⟨6,none,(oP 68 (.bin .add .num (.t 67) (cI 1))),[]⟩,
 ⟨7,none,(oP 69 (.min [(.t 66),(.t 68)])),[]⟩,
 ⟨8,none,(oP 70 (.nilck (.t 62))),[]⟩,
 ⟨9,none,(oP 71 (.faddr 1 (.t 70))),[]⟩,
 ⟨10,none,(oW (.store 1 (.t 71) (.t 69))),[]⟩])
 (kL [4,5] 0 (.seq (.region [
 oP 72 (lD 4),
 oP 73 (.mkfn 80 [(.t 4)]),
 oP 74 (.call 76 [(.t 72),(.t 73)])])
 (kL [4,5] 0 (.seq (.seq (.region [
 oP 75 (lD 4),
 oP 76 (.nilck (.t 75)),
 oP 77 (.faddr 2 (.t 76)),
 oP 78 (lD 77),
 oP 79 (.len .sl (.t 78)),
 oP 80 (.bin .gtr .num (.t 79) (cI 3))])
 (kL [4,5,80] 0 (.cond (.t 80)
 (.draw 0 [
 ⟨0,none,(oP 81 (lD 4)),[]⟩,
 ⟨1,none,(oP 82 (lD 4)),[]⟩,
 ⟨2,none,(oP 83 (.nilck (.t 82))),[]⟩,
 ⟨3,none,(oP 84 (.faddr 2 (.t 83))),[]⟩,
 ⟨4,none,(oP 85 (lD 84)),[]⟩,
 ⟨5,none,(oP 86 (.slice 3 (.t 85) none (some (cI 3)) none)),[]⟩,
 ⟨6,none,(oP 87 (.nilck (.t 81))),[]⟩,
 ⟨7,none,(oP 88 (.faddr 2 (.t 87))),[]⟩,
 ⟨8,none,(oW (.store 1 (.t 88) (.t 86))),[]⟩])
 (.skip))))
 (kL [4,5] 0 (.seq (.region [
 oP 90 (lD 4),
 oP 91 (lD 5),
 oP 92 (.call 62 [(.t 90),(.t 91)]),
 mV 89 92,
 oP 93 (.ext (.t 89) 0),
 oP 94 (.ext (.t 89) 1),
 mV 9 93,
 mV 10 94])
 (kL [10] 0 (.seq (.region [
 mV 95 10,
 mV 8 95])
 (.ret)))))))))))))))))))))⟩
def n404:NF:=⟨20,[],
 .seq (.region [
 mV 6 0,
 oP 7 (.nilck (.t 6)),
 oP 8 (.faddr 10 (.t 7)),
 oP 9 (lD 8),
 mV 10 2,
 oP 11 (.call 414 [(.t 9),(.t 10)])])
 (kL [0,1] 0 (.seq (.region [
 mV 12 0,
 oP 13 (.nilck (.t 12)),
 oP 14 (.faddr 20 (.t 13)),
 oP 15 (lD 14),
 oP 16 (.call 415 [(.t 15)])])
 (kL [0,1] 0 (.region [
 mV 17 0,
 mV 18 1,
 oP 19 (.call 384 [(.t 17),(cI 7),(.t 18)])]))))⟩
def n60:NF:=⟨21,[2,3],
 .seq (.region [
 oP 2 (.mov (cI 0)),
 oP 3 (.mov (cB false))])
 (kL [0] 0 (.seq (.seq (.region [
 mV 4 0,
 oP 5 (.bin .eql .ptr (.t 4) (.c (.c .nilp))),
 mV 6 5,
 mG 7 0 6 false,
 oG 8 (.nilck (.t 7)) 6 false,
 oG 9 (.faddr 2 (.t 8)) 6 false,
 oG 10 (lD 9) 6 false,
 oG 11 (.len .sl (.t 10)) 6 false,
 oG 12 (.bin .eql .num (.t 11) (cI 0)) 6 false,
 oP 13 (.pick (.t 6) (cB true) (.t 12))])
 (kL [0,13] 0 (.cond (.t 13)
 (.seq (.region [
 oP 2 (.mov (cI 0)),
 oP 3 (.mov (cB false))])
 (.ret))
 (.skip))))
 (kL [0] 0 (.seq (.region [
 mV 14 0,
 oP 15 (.nilck (.t 14)),
 oP 16 (.faddr 2 (.t 15)),
 oP 17 (lD 16),
 oP 18 (.iaddr 3 (.t 17) (cI 0)),
 oP 19 (.faddr 1 (.t 18)),
 oP 20 (lD 19),
 mV 2 20,
 oP 3 (.mov (cB true))])
 (.ret)))))⟩
def n295b:Code:=
 .seq (.region [
 oP 4 (.box false 5 (.c (.agg [(.int .i64 0),(.int .i64 0),(.int .i64 0),(.int .i64 0),.nils])))])
 (kL [0,1,4] 0 (.seq (.region [
 mV 5 1,
 mV 6 0,
 oP 7 (.call 312 [(.t 6)]),
 oP 8 (.build [(.int .i64 0),(.int .i64 0),(.int .i64 0),(.int .i64 0),.nils] [(0,(1,(cI 1))),(1,(1,(.t 5))),(2,(1,(.t 7)))]),
 oW (.store 5 (.t 4) (.t 8))])
 (.ret)))
def n295:NF:=⟨9,[4],.fin n295b [⟨some 4,.load (some 5) (.t 4),none⟩]⟩
def n388:NF:=⟨16,[4],
 .seq (.region [
 oP 4 (.mov (cI 0))])
 (kL [0,1] 0 (.seq (.region [
 mV 6 0,
 mV 7 1,
 oP 8 (.bin .quo .num (.t 6) (.t 7)),
 mV 5 8])
 (kL [0,1,5] 0 (.seq (.seq (.region [
 mV 9 0,
 mV 10 1,
 oP 11 (.bin .rem .num (.t 9) (.t 10)),
 oP 12 (.bin .lss .num (.t 11) (cI 0))])
 (kL [5,12] 0 (.cond (.t 12)
 (.region [
 mV 13 5,
 oP 14 (.bin .sub .num (.t 13) (cI 1)),
 mV 5 14])
 (.skip))))
 (kL [5] 0 (.seq (.region [
 mV 15 5,
 mV 4 15])
 (.ret)))))))⟩
def n289:NF:=⟨39,[2],
 .seq (.region [
 oP 1 (.box true 6 (.t 0)),
 oP 2 (.mov (cB false))])
 (kL [1] 1 (.seq (.region [
 oP 3 (.faddr 0 (.t 1)),
 oP 4 (lD 3),
 oP 5 (.call 306 [(.t 4)]),
 mV 6 5,
 oG 7 (.faddr 1 (.t 1)) 6 true,
 oG 8 (lD 7) 6 true,
 oG 9 (.call 306 [(.t 8)]) 6 true,
 oP 10 (.pick (.t 6) (.t 9) (cB false)),
 mV 11 10,
 oG 12 (.faddr 0 (.t 1)) 11 true,
 oG 13 (lD 12) 11 true,
 oG 14 (.faddr 1 (.t 1)) 11 true,
 oG 15 (lD 14) 11 true,
 oG 16 (.bin .neq .num (.t 13) (.t 15)) 11 true,
 oP 17 (.pick (.t 11) (.t 16) (cB false)),
 mV 18 17,
 oG 19 (.faddr 2 (.t 1)) 18 true,
 oG 20 (lD 19) 18 true,
 oG 21 (.call 307 [(.t 20),(cI 0),(cI 70368744177663)]) 18 true,
 oP 22 (.pick (.t 18) (.t 21) (cB false)),
 mV 23 22,
 oG 24 (.faddr 3 (.t 1)) 23 true,
 oG 25 (lD 24) 23 true,
 oG 26 (.call 307 [(.t 25),(cI 0),(cI 15)]) 23 true,
 oP 27 (.pick (.t 23) (.t 26) (cB false)),
 mV 28 27,
 oG 29 (.faddr 4 (.t 1)) 28 true,
 oG 30 (lD 29) 28 true,
 oG 31 (.call 308 [(.t 30)]) 28 true,
 oP 32 (.pick (.t 28) (.t 31) (cB false)),
 mV 33 32,
 oG 34 (.faddr 5 (.t 1)) 33 true,
 oG 35 (lD 34) 33 true,
 oG 36 (.len .sl (.t 35)) 33 true,
 oG 37 (.call 307 [(.t 36),(cI 1),(cI 24)]) 33 true,
 oP 38 (.pick (.t 33) (.t 37) (cB false)),
 mV 2 38])
 (.ret)))⟩
def n290:NF:=⟨85,[],
 .seq (.seq (.region [
 mV 10 0,
 oP 11 (.bin .eql .ptr (.t 10) (.c (.c .nilp))),
 mV 12 11,
 mG 13 2 12 false,
 oG 14 (.call 309 [(.t 13)]) 12 false,
 oG 15 (.un .not (.t 14)) 12 false,
 oP 16 (.pick (.t 12) (cB true) (.t 15))])
 (kL [0,1,2,16] 0 (.cond (.t 16)
 (.ret)
 (.skip))))
 (kL [0,1,2] 0 (.seq (.region [
 mV 17 2,
 mV 6 17])
 (kL [0,1,6] 0 (.block 0 (.loop (kL [0,1,6] 0 (.seq (.seq (.region [
 mV 18 6,
 oP 19 (.bin .gtr .num (.t 18) (cI 0))])
 (kL [0,1,6,19] 0 (.cond (.t 19)
 (.skip)
 (.exit 0))))
 (kL [0,1,6] 0 (.block 1 (.seq (.seq (.region [
 mV 20 0,
 oP 21 (.nilck (.t 20)),
 oP 22 (.faddr 1 (.t 21)),
 oP 23 (lD 22),
 oP 24 (.bin .rem .num (.t 23) (cI 8)),
 oP 25 (.bin .eql .num (.t 24) (cI 0))])
 (kL [0,1,6,25] 0 (.cond (.t 25)
 (.region [
 mV 26 0,
 mV 27 0,
 oP 28 (.nilck (.t 27)),
 oP 29 (.faddr 0 (.t 28)),
 oP 30 (lD 29),
 oP 31 (.bslice true 1 1 [(.int .u8 0)] [(0,(1,(.c (.c (.int .u8 0)))))]),
 oP 32 (.app 1 1 (.t 30) (.t 31)),
 oP 33 (.nilck (.t 26)),
 oP 34 (.faddr 0 (.t 33)),
 oW (.store 1 (.t 34) (.t 32))])
 (.skip))))
 (kL [0,1,6] 0 (.seq (.region [
 mV 35 0,
 oP 36 (.nilck (.t 35)),
 oP 37 (.faddr 1 (.t 36)),
 oP 38 (lD 37),
 oP 39 (.bin .rem .num (.t 38) (cI 8)),
 oP 40 (.bin .sub .num (cI 8) (.t 39)),
 mV 7 40])
 (kL [0,1,6,7] 0 (.seq (.region [
 mV 41 7,
 mV 42 6,
 oP 43 (.min [(.t 41),(.t 42)]),
 mV 8 43])
 (kL [0,1,6,7,8] 0 (.seq (.draw 0 [
 ⟨0,none,(mV 44 1),[]⟩,
 ⟨1,none,(mV 45 6),[]⟩,
 ⟨2,none,(mV 46 8),[]⟩,
 ⟨3,none,(oP 47 (.bin .sub .num (.t 45) (.t 46))),[]⟩,
 ⟨4,none,(oP 48 (.bin .shr .num (.t 44) (.t 47))),[]⟩,
 ⟨5,none,(oP 49 (.conv (.toInt .u8) (.t 48))),[]⟩,
 ⟨6,none,(mV 50 8),[]⟩,
 ⟨7,none,(oP 51 (.bin .shl .num (.c (.c (.int .u8 1))) (.t 50))),[]⟩,
 ⟨8,none,(oP 52 (.bin .sub .num (.t 51) (.c (.c (.int .u8 1))))),[]⟩,
 ⟨9,none,(oP 53 (.bin .and .num (.t 49) (.t 52))),[]⟩,
 ⟨10,none,(mV 9 53),[]⟩])
 (kL [0,1,6,7,8,9] 0 (.seq (.draw 0 [
 ⟨0,none,(mV 54 0),[]⟩,
 ⟨1,none,(oP 55 (.nilck (.t 54))),[]⟩,
 ⟨2,none,(oP 56 (.faddr 0 (.t 55))),[]⟩,
 ⟨3,none,(oP 57 (lD 56)),[]⟩,
 ⟨4,none,(mV 58 0),[]⟩,
 ⟨5,none,(oP 59 (.nilck (.t 58))),[]⟩,
 ⟨6,none,(oP 60 (.faddr 0 (.t 59))),[]⟩,
 ⟨7,none,(oP 61 (lD 60)),[]⟩,
 ⟨8,none,(oP 62 (.len .sl (.t 61))),[]⟩,
 ⟨9,none,(oP 63 (.bin .sub .num (.t 62) (cI 1))),[]⟩,
 ⟨10,none,(oP 64 (iA 1 57 63)),[]⟩,
 ⟨11,none,(oP 65 (lD 64)),[]⟩,
 ⟨12,none,(mV 66 9),[]⟩,
 ⟨13,none,(mV 67 7),[]⟩,
 ⟨14,none,(mV 68 8),[]⟩,
 ⟨15,none,(oP 69 (.bin .sub .num (.t 67) (.t 68))),[]⟩,
 ⟨16,none,(oP 70 (.bin .shl .num (.t 66) (.t 69))),[]⟩,
 ⟨17,none,(oP 71 (.bin .or .num (.t 65) (.t 70))),[]⟩,
 ⟨18,none,(oP 72 (iA 1 57 63)),[]⟩,
 ⟨19,none,(oW (.store 1 (.t 72) (.t 71))),[]⟩])
 (kL [0,1,6,8] 0 (.region [
 mV 73 0,
 mV 74 0,
 oP 75 (.nilck (.t 74)),
 oP 76 (.faddr 1 (.t 75)),
 oP 77 (lD 76),
 mV 78 8,
 oP 79 (.bin .add .num (.t 77) (.t 78)),
 mV 80 6,
 mV 81 8,
 oP 82 (.bin .sub .num (.t 80) (.t 81)),
 oP 83 (.nilck (.t 73)),
 oP 84 (.faddr 1 (.t 83)),
 oW (.store 1 (.t 84) (.t 79)),
 mV 6 82]))))))))))))))))))))⟩
def n291:NF:=⟨17,[],
 .seq (.region [
 mV 6 1,
 oP 7 (.len .sl (.t 6)),
 oP 8 (.mov (cI 0))])
 (kL [0,6,7,8] 0 (.block 0 (.loop (kL [0,6,7,8] 0 (.seq (.region [
 oP 9 (.bin .lss .num (.t 8) (.t 7))])
 (kL [0,6,7,8,9] 0 (.seq (.cond (.t 9)
 (.skip)
 (.exit 0))
 (kL [0,6,7,8] 0 (.seq (.block 1 (.seq (.region [
 oP 10 (iA 1 6 8),
 oP 11 (lD 10),
 mV 5 11])
 (kL [0,5,6,7,8] 0 (.region [
 mV 12 0,
 mV 13 5,
 oP 14 (.conv (.toInt .u64) (.t 13)),
 oP 15 (.call 290 [(.t 12),(.t 14),(cI 8)])]))))
 (kL [0,6,7,8] 0 (.region [
 oP 16 (.bin .add .num (.t 8) (cI 1)),
 mV 8 16])))))))))))⟩
def n292:NF:=⟨10,[2],
 .seq (.region [
 oP 2 (.mov (.c (.c .nils)))])
 (kL [0] 0 (.seq (.seq (.region [
 mV 3 0,
 oP 4 (.bin .eql .ptr (.t 3) (.c (.c .nilp)))])
 (kL [0,4] 0 (.cond (.t 4)
 (.seq (.region [
 oP 2 (.mov (.c (.c .nils)))])
 (.ret))
 (.skip))))
 (kL [0] 0 (.seq (.region [
 mV 5 0,
 oP 6 (.nilck (.t 5)),
 oP 7 (.faddr 0 (.t 6)),
 oP 8 (lD 7),
 oP 9 (.app 1 1 (.c (.c .nils)) (.t 8)),
 mV 2 9])
 (.ret)))))⟩
def n293:NF:=⟨8,[2],
 .seq (.region [
 oP 2 (.mov (.c (.c .nils)))])
 (kL [0] 0 (.seq (.seq (.region [
 mV 3 0,
 oP 4 (.bin .eql .sl (.t 3) (.c (.c .nils)))])
 (kL [0,4] 0 (.cond (.t 4)
 (.seq (.region [
 oP 2 (.mov (.c (.c .nils)))])
 (.ret))
 (.skip))))
 (kL [0] 0 (.seq (.region [
 oP 5 (.bslice false 1 0 [(.int .u8 0)] []),
 mV 6 0,
 oP 7 (.app 1 1 (.t 5) (.t 6)),
 mV 2 7])
 (.ret)))))⟩
def n294:NF:=⟨19,[4],
 .seq (.region [
 oP 3 (.box false 1 (.t 1)),
 oP 4 (.mov (.c (.c .nils)))])
 (kL [0,3] 0 (.seq (.seq (.region [
 mV 6 0,
 oP 7 (.call 288 [(.t 6)]),
 oP 8 (.un .not (.t 7))])
 (kL [0,3,8] 0 (.cond (.t 8)
 (.seq (.region [
 oP 4 (.mov (.c (.c .nils)))])
 (.ret))
 (.skip))))
 (kL [0,3] 0 (.seq (.region [
 mV 9 0,
 oP 10 (.call 203 [(.t 9)]),
 oP 11 (.mkfn 310 [(.t 3)]),
 oP 12 (.call 311 [(.t 10),(.t 11)]),
 mV 5 12])
 (kL [0,5] 0 (.seq (.seq (.region [
 mV 13 5,
 oP 14 (.len .sl (.t 13)),
 oP 15 (.bin .eql .num (.t 14) (cI 0))])
 (kL [0,5,15] 0 (.cond (.t 15)
 (.seq (.region [
 mV 16 0,
 oP 17 (.call 203 [(.t 16)]),
 mV 4 17])
 (.ret))
 (.skip))))
 (kL [5] 0 (.seq (.region [
 mV 18 5,
 mV 4 18])
 (.ret)))))))))⟩
def n296:NF:=⟨33,[2,3,4],
 .seq (.region [
 oP 2 (.mov (.c (.c .nils))),
 oP 3 (.mov (cI 0)),
 oP 4 (.mov (cB false))])
 (kL [0] 0 (.seq (.region [
 mV 9 0,
 oP 10 (.nilck (.t 9)),
 oP 11 (.faddr 11 (.t 10)),
 oP 12 (lD 11),
 oP 13 (.call 313 [(.t 12),(cI 0)]),
 mV 8 13,
 oP 14 (.ext (.t 8) 0),
 oP 15 (.ext (.t 8) 1),
 mV 5 14,
 mV 6 15])
 (kL [0,5,6] 0 (.seq (.seq (.region [
 mV 16 6,
 oP 17 (.un .not (.t 16))])
 (kL [0,5,17] 0 (.cond (.t 17)
 (.seq (.region [
 oP 2 (.mov (.c (.c .nils))),
 oP 3 (.mov (cI 0)),
 oP 4 (.mov (cB false))])
 (.ret))
 (.skip))))
 (kL [0,5] 0 (.seq (.region [
 mV 18 0,
 oP 19 (.nilck (.t 18)),
 oP 20 (.faddr 11 (.t 19)),
 oP 21 (lD 20),
 oP 22 (.call 314 [(.t 21)]),
 oP 23 (.iaddr 1 (.t 22) (cI 0)),
 oP 24 (lD 23),
 mV 7 24])
 (kL [0,5,7] 0 (.seq (.seq (.region [
 mV 25 7,
 oP 26 (.bin .eql .num (.t 25) (cI 64))])
 (kL [0,5,7,26] 0 (.cond (.t 26)
 (.region [
 mV 27 0,
 oP 28 (.call 274 [(.t 27)]),
 mV 7 28])
 (.skip))))
 (kL [5,7] 0 (.seq (.region [
 mV 29 5,
 mV 30 7,
 mV 31 7,
 oP 32 (.bin .neq .num (.t 31) (cI 64)),
 mV 2 29,
 mV 3 30,
 mV 4 32])
 (.ret)))))))))))⟩
def n297:NF:=⟨16,[2],
 .seq (.region [
 oP 2 (.mov (cB false))])
 (kL [0] 0 (.seq (.draw 0 [
 ⟨0,none,(mV 3 0),[]⟩,
 ⟨1,none,(oP 4 (.bin .neq .ptr (.t 3) (.c (.c .nilp)))),[]⟩,
 ⟨2,none,(mV 5 4),[]⟩,
 ⟨3,none,(mG 6 0 5 true),[]⟩,
 ⟨4,none,(oG 7 (.nilck (.t 6)) 5 true),[]⟩,
 ⟨5,none,(oG 8 (.faddr 1 (.t 7)) 5 true),[]⟩,
 ⟨6,none,(oG 9 (lD 8) 5 true),[]⟩,
 ⟨7,none,(mG 10 0 5 true),[]⟩,
 ⟨8,none,(oG 11 (.nilck (.t 10)) 5 true),[]⟩,
 ⟨9,none,(oG 12 (.faddr 0 (.t 11)) 5 true),[]⟩,
 ⟨10,none,(oG 13 (lD 12) 5 true),[]⟩,
 ⟨11,none,(oG 14 (.bin .geq .num (.t 9) (.t 13)) 5 true),[]⟩,
 ⟨12,none,(oP 15 (.pick (.t 5) (.t 14) (cB false))),[]⟩,
 ⟨13,none,(mV 2 15),[]⟩])
 (.ret)))⟩
def n299:NF:=⟨39,[2,3],
 .seq (.region [
 oP 2 (.mov (.c (.c .nils))),
 oP 3 (.mov (cI 0))])
 (kL [0] 0 (.seq (.seq (.region [
 mV 7 0,
 oP 8 (.len .sl (.t 7)),
 oP 9 (.bin .gtr .num (.t 8) (cI 4)),
 mV 10 9,
 mG 11 0 10 false,
 oG 12 (.call 316 [(.t 11),(.c (.c (.fn 319 [])))]) 10 false,
 oP 13 (.pick (.t 10) (cB true) (.t 12))])
 (kL [0,13] 0 (.cond (.t 13)
 (.seq (.region [
 oP 2 (.mov (.c (.c .nils))),
 oP 3 (.mov (cI 1))])
 (.ret))
 (.skip))))
 (kL [0] 0 (.seq (.region [
 oP 14 (.build [.nils,(.int .i64 0)] []),
 oP 15 (.box false 2 (.t 14)),
 mV 4 15])
 (kL [0,4] 0 (.seq (.region [
 mV 16 4,
 mV 17 0,
 oP 18 (.len .sl (.t 17)),
 oP 19 (.conv (.toInt .u64) (.t 18)),
 oP 20 (.call 290 [(.t 16),(.t 19),(cI 8)])])
 (kL [0,4] 0 (.seq (.seq (.region [
 mV 21 0,
 oP 22 (.len .sl (.t 21)),
 oP 23 (.mov (cI 0))])
 (kL [4,21,22,23] 0 (.block 0 (.loop (kL [4,21,22,23] 0 (.seq (.region [
 oP 24 (.bin .lss .num (.t 23) (.t 22))])
 (kL [4,21,22,23,24] 0 (.seq (.cond (.t 24)
 (.skip)
 (.exit 0))
 (kL [4,21,22,23] 0 (.seq (.block 1 (.seq (.region [
 oP 25 (iA 5 21 23),
 oP 26 (.load (some 5) (.t 25)),
 oP 6 (.box true 5 (.c (.agg [(.int .i64 0),(.int .i64 0),(.int .i64 0),(.int .i64 0),.nils]))),
 oW (.store 5 (.t 6) (.t 26))])
 (kL [4,6,21,22,23] 1 (.seq (.region [
 mV 27 4,
 oP 28 (.faddr 0 (.t 6)),
 oP 29 (lD 28),
 oP 30 (.conv (.toInt .u64) (.t 29)),
 oP 31 (.call 290 [(.t 27),(.t 30),(cI 8)])])
 (kL [4,6,21,22,23] 1 (.region [
 oP 32 (.load (some 5) (.t 6)),
 oP 33 (.call 320 [(.t 32)]),
 mV 34 4,
 oP 35 (.inv [(218,321),(220,322),(222,323)] (.t 33) [(.t 34)])]))))))
 (kL [4,21,22,23] 0 (.region [
 oP 36 (.bin .add .num (.t 23) (cI 1)),
 mV 23 36]))))))))))))
 (kL [4] 0 (.seq (.region [
 mV 37 4,
 oP 38 (.call 292 [(.t 37)]),
 mV 2 38,
 oP 3 (.mov (cI 0))])
 (.ret)))))))))))⟩
def n300:NF:=⟨15,[2],
 .seq (.region [
 oP 2 (.mov (.c (.c .nils)))])
 (kL [0] 0 (.seq (.region [
 mV 4 0,
 oP 5 (.call 324 [(.t 4)]),
 mV 3 5])
 (kL [0,3] 0 (.seq (.region [
 mV 6 0,
 oP 7 (.call 293 [(.t 6)]),
 mV 8 3,
 oP 9 (.conv (.toInt .u8) (.t 8)),
 mV 10 3,
 oP 11 (.bin .shr .num (.t 10) (.c (.c (.int .u64 8)))),
 oP 12 (.conv (.toInt .u8) (.t 11)),
 oP 13 (.bslice true 1 2 [(.int .u8 0)] [(0,(1,(.t 9))),(1,(1,(.t 12)))]),
 oP 14 (.app 1 1 (.t 7) (.t 13)),
 mV 2 14])
 (.ret)))))⟩
def n302:NF:=⟨23,[4],
 .seq (.region [
 oP 4 (.mov (.c (.c (.int .u64 0))))])
 (kL [0,1] 0 (.seq (.region [
 oP 5 (.mov (.c (.c (.int .u64 0))))])
 (kL [0,1,5] 0 (.seq (.seq (.region [
 mV 8 0,
 mV 9 1,
 oP 10 (.call 284 [(.t 8),(.t 9)]),
 oP 11 (.len .sl (.t 10)),
 oP 12 (.mov (cI 0))])
 (kL [5,10,11,12] 0 (.block 0 (.loop (kL [5,10,11,12] 0 (.seq (.region [
 oP 13 (.bin .lss .num (.t 12) (.t 11))])
 (kL [5,10,11,12,13] 0 (.seq (.cond (.t 13)
 (.skip)
 (.exit 0))
 (kL [5,10,11,12] 0 (.seq (.block 1 (.seq (.region [
 oP 14 (iA 1 10 12),
 oP 15 (lD 14),
 mV 7 15])
 (kL [5,7,10,11,12] 0 (.region [
 mV 16 5,
 oP 17 (.bin .shl .num (.t 16) (.c (.c (.int .u64 8)))),
 mV 18 7,
 oP 19 (.conv (.toInt .u64) (.t 18)),
 oP 20 (.bin .or .num (.t 17) (.t 19)),
 mV 5 20]))))
 (kL [5,10,11,12] 0 (.region [
 oP 21 (.bin .add .num (.t 12) (cI 1)),
 mV 12 21]))))))))))))
 (kL [5] 0 (.seq (.region [
 mV 22 5,
 mV 4 22])
 (.ret)))))))⟩
def n44:NF:=⟨9,[2],
 .seq (.region [
 oP 2 (.mov (cB false))])
 (kL [0] 0 (.seq (.region [
 mV 3 0,
 oP 4 (.bin .geq .num (.t 3) (cI 0)),
 mV 5 4,
 mG 6 0 5 true,
 oG 7 (.bin .lss .num (.t 6) (cI 16)) 5 true,
 oP 8 (.pick (.t 5) (.t 7) (cB false)),
 mV 2 8])
 (.ret)))⟩
def n303:NF:=⟨95,[2],
 .seq (.region [
 oP 1 (.box true 5 (.t 0)),
 oP 2 (.mov (cB false))])
 (kL [1] 1 (.seq (.seq (.region [
 oP 5 (.faddr 0 (.t 1)),
 oP 6 (lD 5)])
 (kL [1,6] 1 (.block 0 (.seq (.region [
 oP 8 (.bin .eql .num (.t 6) (cI 1)),
 mV 7 8])
 (kL [1,6,7] 1 (.cond (.t 7)
 (.seq (.region [
 oP 9 (.faddr 1 (.t 1)),
 oP 10 (lD 9),
 oP 11 (.call 326 [(.t 10)]),
 mV 12 11,
 oG 13 (.faddr 2 (.t 1)) 12 true,
 oG 14 (lD 13) 12 true,
 oG 15 (.bin .geq .num (.t 14) (cI 0)) 12 true,
 oP 16 (.pick (.t 12) (.t 15) (cB false)),
 mV 17 16,
 oG 18 (.faddr 2 (.t 1)) 17 true,
 oG 19 (lD 18) 17 true,
 oG 20 (.bin .leq .num (.t 19) (cI 255)) 17 true,
 oP 21 (.pick (.t 17) (.t 20) (cB false)),
 mV 22 21,
 oG 23 (.faddr 3 (.t 1)) 22 true,
 oG 24 (lD 23) 22 true,
 oG 25 (.bin .eql .num (.t 24) (cI 0)) 22 true,
 oP 26 (.pick (.t 22) (.t 25) (cB false)),
 mV 27 26,
 oG 28 (.faddr 4 (.t 1)) 27 true,
 oG 29 (lD 28) 27 true,
 oG 30 (.len .sl (.t 29)) 27 true,
 oG 31 (.bin .eql .num (.t 30) (cI 0)) 27 true,
 oP 32 (.pick (.t 27) (.t 31) (cB false)),
 mV 2 32])
 (.ret))
 (.seq (.region [
 oP 34 (.bin .eql .num (.t 6) (cI 2)),
 mV 33 34])
 (kL [1,6,33] 1 (.cond (.t 33)
 (.seq (.region [
 oP 35 (.faddr 3 (.t 1)),
 oP 36 (lD 35),
 oP 37 (.bin .geq .num (.t 36) (cI (-32768))),
 mV 38 37,
 oG 39 (.faddr 3 (.t 1)) 38 true,
 oG 40 (lD 39) 38 true,
 oG 41 (.bin .leq .num (.t 40) (cI 32767)) 38 true,
 oP 42 (.pick (.t 38) (.t 41) (cB false)),
 mV 43 42,
 oG 44 (.faddr 1 (.t 1)) 43 true,
 oG 45 (lD 44) 43 true,
 oG 46 (.bin .eql .num (.t 45) (cI 0)) 43 true,
 oP 47 (.pick (.t 43) (.t 46) (cB false)),
 mV 48 47,
 oG 49 (.faddr 2 (.t 1)) 48 true,
 oG 50 (lD 49) 48 true,
 oG 51 (.bin .eql .num (.t 50) (cI 0)) 48 true,
 oP 52 (.pick (.t 48) (.t 51) (cB false)),
 mV 53 52,
 oG 54 (.faddr 4 (.t 1)) 53 true,
 oG 55 (lD 54) 53 true,
 oG 56 (.len .sl (.t 55)) 53 true,
 oG 57 (.bin .eql .num (.t 56) (cI 0)) 53 true,
 oP 58 (.pick (.t 53) (.t 57) (cB false)),
 mV 2 58])
 (.ret))
 (.seq (.seq (.region [
 oP 60 (.bin .eql .num (.t 6) (cI 3)),
 mV 59 60])
 (kL [1,6,59] 1 (.cond (.t 59)
 (.skip)
 (.region [
 oP 61 (.bin .eql .num (.t 6) (cI 4)),
 mV 59 61]))))
 (kL [1,59] 1 (.cond (.t 59)
 (.seq (.seq (.region [
 oP 62 (.faddr 4 (.t 1)),
 oP 63 (lD 62),
 oP 64 (.len .sl (.t 63)),
 oP 65 (.mov (cI 0))])
 (kL [1,63,64,65] 1 (.block 1 (.loop (kL [1,63,64,65] 1 (.seq (.region [
 oP 66 (.bin .lss .num (.t 65) (.t 64))])
 (kL [1,63,64,65,66] 1 (.seq (.cond (.t 66)
 (.skip)
 (.exit 1))
 (kL [1,63,64,65] 1 (.seq (.block 2 (.seq (.region [
 oP 67 (iA 1 63 65),
 oP 68 (lD 67),
 mV 4 68])
 (kL [1,4,63,64,65] 1 (.seq (.region [
 mV 69 4,
 oP 70 (.bin .lss .num (.t 69) (cI 0)),
 mV 71 70,
 mG 72 4 71 false,
 oG 73 (.bin .gtr .num (.t 72) (cI 255)) 71 false,
 oP 74 (.pick (.t 71) (cB true) (.t 73))])
 (kL [1,63,64,65,74] 1 (.cond (.t 74)
 (.seq (.region [
 oP 2 (.mov (cB false))])
 (.ret))
 (.skip)))))))
 (kL [1,63,64,65] 1 (.region [
 oP 75 (.bin .add .num (.t 65) (cI 1)),
 mV 65 75]))))))))))))
 (kL [1] 1 (.seq (.region [
 oP 76 (.faddr 4 (.t 1)),
 oP 77 (lD 76),
 oP 78 (.len .sl (.t 77)),
 oP 79 (.bin .leq .num (.t 78) (cI 16)),
 mV 80 79,
 oG 81 (.faddr 1 (.t 1)) 80 true,
 oG 82 (lD 81) 80 true,
 oG 83 (.bin .eql .num (.t 82) (cI 0)) 80 true,
 oP 84 (.pick (.t 80) (.t 83) (cB false)),
 mV 85 84,
 oG 86 (.faddr 2 (.t 1)) 85 true,
 oG 87 (lD 86) 85 true,
 oG 88 (.bin .eql .num (.t 87) (cI 0)) 85 true,
 oP 89 (.pick (.t 85) (.t 88) (cB false)),
 mV 90 89,
 oG 91 (.faddr 3 (.t 1)) 90 true,
 oG 92 (lD 91) 90 true,
 oG 93 (.bin .eql .num (.t 92) (cI 0)) 90 true,
 oP 94 (.pick (.t 90) (.t 93) (cB false)),
 mV 2 94])
 (.ret))))
 (.skip)))))))))))))
 (kL [] 0 (.seq (.region [
 oP 2 (.mov (cB false))])
 (.ret)))))⟩
def n304b:Code:=
 .seq (.region [
 oP 4 (.box false 5 (.c (.agg [(.int .i64 0),(.int .i64 0),(.int .i64 0),(.int .i64 0),.nils]))),
 oP 5 (.mov (cB false))])
 (kL [0,1,4] 0 (.seq (.seq (.region [
 mV 8 0,
 oP 9 (.len .sl (.t 8)),
 oP 10 (.mov (cI 0))])
 (kL [1,4,8,9,10] 0 (.block 0 (.loop (kL [1,4,8,9,10] 0 (.seq (.region [
 oP 11 (.bin .lss .num (.t 10) (.t 9))])
 (kL [1,4,8,9,10,11] 0 (.seq (.cond (.t 11)
 (.skip)
 (.exit 0))
 (kL [1,4,8,9,10] 0 (.seq (.block 1 (.seq (.region [
 oP 12 (iA 5 8 10),
 oP 13 (.load (some 5) (.t 12)),
 oP 7 (.box true 5 (.c (.agg [(.int .i64 0),(.int .i64 0),(.int .i64 0),(.int .i64 0),.nils]))),
 oW (.store 5 (.t 7) (.t 13))])
 (kL [1,4,7,8,9,10] 1 (.seq (.region [
 oP 14 (.faddr 0 (.t 7)),
 oP 15 (lD 14),
 mV 16 1,
 oP 17 (.bin .eql .num (.t 15) (.t 16))])
 (kL [1,4,7,8,9,10,17] 1 (.cond (.t 17)
 (.seq (.region [
 oP 18 (.load (some 5) (.t 7)),
 oW (.store 5 (.t 4) (.t 18)),
 oP 5 (.mov (cB true))])
 (.ret))
 (.skip)))))))
 (kL [1,4,8,9,10] 0 (.region [
 oP 19 (.bin .add .num (.t 10) (cI 1)),
 mV 10 19]))))))))))))
 (kL [4] 0 (.seq (.region [
 oP 20 (.build [(.int .i64 0),(.int .i64 0),(.int .i64 0),(.int .i64 0),.nils] []),
 oW (.store 5 (.t 4) (.t 20)),
 oP 5 (.mov (cB false))])
 (.ret)))))
def n304:NF:=⟨21,[4,5],.fin n304b [⟨some 4,.load (some 5) (.t 4),none⟩]⟩
def n437:NF:=⟨23,[4],
 .seq (.region [
 oP 4 (.mov (.c (.c .nils)))])
 (kL [0,1] 0 (.seq (.region [
 oP 5 (.mov (.c (.c .nils)))])
 (kL [0,1,5] 0 (.seq (.seq (.region [
 mV 7 1,
 oP 8 (.bin .sub .num (.t 7) (cI 1)),
 mV 6 8])
 (kL [0,5,6] 0 (.block 0 (.loop (kL [0,5,6] 0 (.seq (.seq (.region [
 mV 9 6,
 oP 10 (.bin .geq .num (.t 9) (cI 0))])
 (kL [0,5,6,10] 0 (.cond (.t 10)
 (.skip)
 (.exit 0))))
 (kL [0,5,6] 0 (.seq (.block 1 (.region [
 mV 13 5,
 mV 14 0,
 mV 15 6,
 oP 16 (.bin .mul .num (cI 8) (.t 15)),
 oP 17 (.conv (.toInt .u64) (.t 16)),
 oP 18 (.bin .shr .num (.t 14) (.t 17)),
 oP 19 (.conv (.toInt .u8) (.t 18)),
 oP 20 (.bslice true 1 1 [(.int .u8 0)] [(0,(1,(.t 19)))]),
 oP 21 (.app 1 1 (.t 13) (.t 20)),
 mV 5 21]))
 (kL [0,5,6] 0 (.region [
 mV 11 6,
 oP 12 (.bin .sub .num (.t 11) (cI 1)),
 mV 6 12]))))))))))
 (kL [5] 0 (.seq (.region [
 mV 22 5,
 mV 4 22])
 (.ret)))))))⟩
def n325:NF:=⟨29,[2],
 .seq (.region [
 oP 2 (.mov (.c (.c (.int .u16 0))))])
 (kL [0] 0 (.seq (.region [
 oP 3 (.mov (.c (.c (.int .u16 0))))])
 (kL [0,3] 0 (.seq (.seq (.region [
 mV 6 0,
 oP 7 (.len .sl (.t 6)),
 oP 8 (.mov (cI 0))])
 (kL [3,6,7,8] 0 (.block 0 (.loop (kL [3,6,7,8] 0 (.seq (.region [
 oP 9 (.bin .lss .num (.t 8) (.t 7))])
 (kL [3,6,7,8,9] 0 (.seq (.cond (.t 9)
 (.skip)
 (.exit 0))
 (kL [3,6,7,8] 0 (.seq (.block 1 (.seq (.region [
 oP 10 (iA 1 6 8),
 oP 11 (lD 10),
 mV 5 11])
 (kL [3,5,6,7,8] 0 (.seq (.region [
 mV 12 3,
 mV 13 5,
 oP 14 (.conv (.toInt .u16) (.t 13)),
 oP 15 (.bin .xor .num (.t 12) (.t 14)),
 mV 3 15])
 (kL [3,6,7,8] 0 (.seq (.region [
 oP 16 (.mov (cI 0))])
 (kL [3,6,7,8,16] 0 (.block 2 (.loop (kL [3,6,7,8,16] 0 (.seq (.region [
 oP 17 (.bin .lss .num (.t 16) (cI 8))])
 (kL [3,6,7,8,16,17] 0 (.seq (.cond (.t 17)
 (.skip)
 (.exit 2))
 (kL [3,6,7,8,16] 0 (.seq (.block 3 (.seq (.region [
 mV 18 3,
 oP 19 (.bin .and .num (.t 18) (.c (.c (.int .u16 1)))),
 oP 20 (.bin .eql .num (.t 19) (.c (.c (.int .u16 1))))])
 (kL [3,6,7,8,16,20] 0 (.cond (.t 20)
 (.region [
 mV 21 3,
 oP 22 (.bin .shr .num (.t 21) (.c (.c (.int .u64 1)))),
 oP 23 (.bin .xor .num (.t 22) (.c (.c (.int .u16 33800)))),
 mV 3 23])
 (.region [
 mV 24 3,
 oP 25 (.bin .shr .num (.t 24) (.c (.c (.int .u64 1)))),
 mV 3 25])))))
 (kL [3,6,7,8,16] 0 (.region [
 oP 26 (.bin .add .num (.t 16) (cI 1)),
 mV 16 26])))))))))))))))))
 (kL [3,6,7,8] 0 (.region [
 oP 27 (.bin .add .num (.t 8) (cI 1)),
 mV 8 27]))))))))))))
 (kL [3] 0 (.seq (.region [
 mV 28 3,
 mV 2 28])
 (.ret)))))))⟩
def n400:NF:=⟨28,[4,5],
 .seq (.region [
 oP 4 (.mov (.c (.c .nils))),
 oP 5 (.mov (cB false))])
 (kL [0,1] 0 (.seq (.region [
 mV 9 0,
 mV 10 1,
 oP 11 (.call 313 [(.t 9),(.t 10)]),
 mV 8 11,
 oP 12 (.ext (.t 8) 0),
 oP 13 (.ext (.t 8) 1),
 mV 6 12,
 mV 7 13])
 (kL [0,1,6,7] 0 (.seq (.seq (.region [
 mV 14 7])
 (kL [0,1,6,7,14] 0 (.cond (.t 14)
 (.region [
 mV 15 0,
 mV 16 0,
 oP 17 (.nilck (.t 16)),
 oP 18 (.faddr 1 (.t 17)),
 oP 19 (lD 18),
 mV 20 1,
 mV 21 1,
 oP 22 (.bin .add .num (.t 21) (cI 1)),
 oP 23 (.call 412 [(.t 19),(.t 20),(.t 22)]),
 oP 24 (.nilck (.t 15)),
 oP 25 (.faddr 1 (.t 24)),
 oW (.store 1 (.t 25) (.t 23))])
 (.skip))))
 (kL [6,7] 0 (.seq (.region [
 mV 26 6,
 mV 27 7,
 mV 4 26,
 mV 5 27])
 (.ret)))))))⟩
def n401b:Code:=
 .seq (.region [
 oP 2 (.box false 6 (.c (.agg [(.int .i64 0),(.int .i64 0),(.int .i64 0),(.int .i64 0),.nils,.nils]))),
 oP 3 (.mov (cI 0))])
 (kL [0,2] 0 (.seq (.region [
 mV 11 0,
 oP 12 (.call 395 [(.t 11)]),
 mV 4 12])
 (kL [2,4] 0 (.seq (.region [
 mV 13 4,
 oP 14 (.call 413 [(.t 13)]),
 mV 15 4,
 oP 16 (.call 413 [(.t 15)]),
 mV 17 4,
 oP 18 (.call 406 [(.t 17),(cI 48)]),
 oP 19 (.conv (.toInt .i64) (.t 18)),
 mV 20 4,
 oP 21 (.call 413 [(.t 20)]),
 oP 22 (.build [(.int .i64 0),(.int .i64 0),(.int .i64 0),(.int .i64 0),.nils,.nils] [(0,(1,(.t 14))),(1,(1,(.t 16))),(2,(1,(.t 19))),(3,(1,(.t 21)))]),
 oP 5 (.box true 6 (.c (.agg [(.int .i64 0),(.int .i64 0),(.int .i64 0),(.int .i64 0),.nils,.nils]))),
 oW (.store 6 (.t 5) (.t 22))])
 (kL [2,4,5] 1 (.seq (.region [
 mV 23 4,
 oP 24 (.call 413 [(.t 23)]),
 mV 6 24])
 (kL [2,4,5,6] 1 (.seq (.seq (.region [
 mV 25 6,
 oP 26 (.bin .gtr .num (.t 25) (cI 16))])
 (kL [2,4,5,6,26] 1 (.cond (.t 26)
 (.seq (.region [
 oP 27 (.build [(.int .i64 0),(.int .i64 0),(.int .i64 0),(.int .i64 0),.nils,.nils] []),
 oW (.store 6 (.t 2) (.t 27)),
 oP 3 (.mov (cI 3))])
 (.ret))
 (.skip))))
 (kL [2,4,5,6] 1 (.seq (.seq (.region [
 mV 28 4,
 mV 29 6,
 oP 30 (.call 397 [(.t 28),(.t 29)]),
 oP 31 (.len .sl (.t 30)),
 oP 32 (.mov (cI 0))])
 (kL [2,4,5,30,31,32] 1 (.block 0 (.loop (kL [2,4,5,30,31,32] 1 (.seq (.region [
 oP 33 (.bin .lss .num (.t 32) (.t 31))])
 (kL [2,4,5,30,31,32,33] 1 (.seq (.cond (.t 33)
 (.skip)
 (.exit 0))
 (kL [2,4,5,30,31,32] 1 (.seq (.block 1 (.seq (.region [
 oP 34 (iA 1 30 32),
 oP 35 (lD 34),
 mV 8 35])
 (kL [2,4,5,8,30,31,32] 1 (.region [
 oP 36 (.faddr 4 (.t 5)),
 oP 37 (lD 36),
 mV 38 8,
 oP 39 (.conv (.toInt .i64) (.t 38)),
 oP 40 (.bslice true 1 1 [(.int .i64 0)] [(0,(1,(.t 39)))]),
 oP 41 (.app 1 8 (.t 37) (.t 40)),
 oP 42 (.faddr 4 (.t 5)),
 oW (.store 1 (.t 42) (.t 41))]))))
 (kL [2,4,5,30,31,32] 1 (.region [
 oP 43 (.bin .add .num (.t 32) (cI 1)),
 mV 32 43]))))))))))))
 (kL [2,4,5] 1 (.seq (.region [
 mV 44 4,
 oP 45 (.call 413 [(.t 44)]),
 mV 9 45])
 (kL [2,4,5,9] 1 (.seq (.block 2 (.seq (.region [
 mV 47 4,
 oP 48 (.call 398 [(.t 47)]),
 oP 49 (.bin .eql .num (.t 48) (cI 2)),
 mV 46 49])
 (kL [2,4,5,9,46] 1 (.cond (.t 46)
 (.seq (.region [
 oP 50 (.build [(.int .i64 0),(.int .i64 0),(.int .i64 0),(.int .i64 0),.nils,.nils] []),
 oW (.store 6 (.t 2) (.t 50)),
 oP 3 (.mov (cI 2))])
 (.ret))
 (.seq (.region [
 mV 52 9,
 oP 53 (.call 307 [(.t 52),(cI 1),(cI 24)]),
 oP 54 (.un .not (.t 53)),
 mV 51 54])
 (kL [2,4,5,9,51] 1 (.cond (.t 51)
 (.seq (.region [
 oP 55 (.build [(.int .i64 0),(.int .i64 0),(.int .i64 0),(.int .i64 0),.nils,.nils] []),
 oW (.store 6 (.t 2) (.t 55)),
 oP 3 (.mov (cI 3))])
 (.ret))
 (.skip))))))))
 (kL [2,4,5,9] 1 (.seq (.region [
 mV 56 4,
 mV 57 9,
 oP 58 (.call 397 [(.t 56),(.t 57)]),
 oP 59 (.faddr 5 (.t 5)),
 oW (.store 1 (.t 59) (.t 58))])
 (kL [2,4,5] 1 (.seq (.seq (.region [
 mV 60 4,
 oP 61 (.call 398 [(.t 60)]),
 mV 10 61])
 (kL [2,5,10] 1 (.block 3 (.seq (.region [
 mV 63 10,
 oP 64 (.bin .neq .num (.t 63) (cI 0)),
 mV 62 64])
 (kL [2,5,10,62] 1 (.cond (.t 62)
 (.seq (.region [
 oP 65 (.build [(.int .i64 0),(.int .i64 0),(.int .i64 0),(.int .i64 0),.nils,.nils] []),
 mV 66 10,
 oW (.store 6 (.t 2) (.t 65)),
 mV 3 66])
 (.ret))
 (.seq (.region [
 oP 68 (.load (some 6) (.t 5)),
 oP 69 (.call 289 [(.t 68)]),
 oP 70 (.un .not (.t 69)),
 mV 67 70])
 (kL [2,5,67] 1 (.cond (.t 67)
 (.seq (.region [
 oP 71 (.build [(.int .i64 0),(.int .i64 0),(.int .i64 0),(.int .i64 0),.nils,.nils] []),
 oW (.store 6 (.t 2) (.t 71)),
 oP 3 (.mov (cI 3))])
 (.ret))
 (.skip))))))))))
 (kL [2,5] 1 (.seq (.region [
 oP 72 (.load (some 6) (.t 5)),
 oW (.store 6 (.t 2) (.t 72)),
 oP 3 (.mov (cI 0))])
 (.ret)))))))))))))))))))))
def n401:NF:=⟨73,[2,3],.fin n401b [⟨some 2,.load (some 6) (.t 2),none⟩]⟩
def n74:NF:=⟨11,[],
 .seq (.region [
 mV 3 0,
 oP 4 (.len .sl (.t 3)),
 mV 2 4])
 (kL [0,2] 0 (.region [
 mV 5 0,
 mV 6 2,
 mV 7 2,
 oP 8 (.conv (.toInt .u64) (.t 7)),
 oP 9 (.call 82 [(.t 8)]),
 oP 10 (.call 83 [(.t 5),(cI 0),(.t 6),(.t 9)])]))⟩
def n76:NF:=⟨13,[],
 .region [
 mV 4 0,
 mV 5 0,
 oP 6 (.nilck (.t 5)),
 oP 7 (.faddr 2 (.t 6)),
 oP 8 (lD 7),
 mV 9 1,
 oP 10 (.call 84 [(.t 8),(.t 9)]),
 oP 11 (.nilck (.t 4)),
 oP 12 (.faddr 2 (.t 11)),
 oW (.store 1 (.t 12) (.t 10))]⟩
def n75:NF:=⟨8,[3],
 .seq (.region [
 oP 2 (.box true 3 (.t 0)),
 oP 3 (.mov (cB false))])
 (kL [1,2] 1 (.seq (.region [
 oP 4 (.faddr 2 (.t 2)),
 oP 5 (lD 4),
 oP 6 (lD 1),
 oP 7 (.bin .leq .num (.t 5) (.t 6)),
 mV 3 7])
 (.ret)))⟩
def n288:NF:=⟨34,[2],
 .seq (.region [
 oP 2 (.mov (cB false))])
 (kL [0] 0 (.seq (.seq (.region [
 mV 5 0,
 oP 6 (.len .sl (.t 5)),
 oP 7 (.mov (cI 0))])
 (kL [0,5,6,7] 0 (.block 0 (.loop (kL [0,5,6,7] 0 (.seq (.region [
 oP 8 (.bin .lss .num (.t 7) (.t 6))])
 (kL [0,5,6,7,8] 0 (.seq (.cond (.t 8)
 (.skip)
 (.exit 0))
 (kL [0,5,6,7] 0 (.seq (.block 1 (.seq (.region [
 mV 9 7,
 oP 10 (iA 1 5 7),
 oP 11 (lD 10),
 mV 3 9,
 mV 4 11])
 (kL [0,3,4,5,6,7] 0 (.seq (.region [
 mV 12 4,
 oP 13 (.bin .lss .num (.t 12) (cI 0)),
 mV 14 13,
 mG 15 4 14 false,
 oG 16 (.bin .gtr .num (.t 15) (cI 31)) 14 false,
 oP 17 (.pick (.t 14) (cB true) (.t 16)),
 mV 18 17,
 mG 19 0 18 false,
 mG 20 3 18 false,
 oG 21 (.slice 1 (.t 19) none (some (.t 20)) none) 18 false,
 mG 22 4 18 false,
 oG 23 (.call 305 [(.t 21),(.t 22)]) 18 false,
 oP 24 (.pick (.t 18) (cB true) (.t 23))])
 (kL [0,5,6,7,24] 0 (.cond (.t 24)
 (.seq (.region [
 oP 2 (.mov (cB false))])
 (.ret))
 (.skip)))))))
 (kL [0,5,6,7] 0 (.region [
 oP 25 (.bin .add .num (.t 7) (cI 1)),
 mV 7 25]))))))))))))
 (kL [0] 0 (.seq (.region [
 mV 26 0,
 oP 27 (.len .sl (.t 26)),
 oP 28 (.bin .geq .num (.t 27) (cI 1)),
 mV 29 28,
 mG 30 0 29 true,
 oG 31 (.len .sl (.t 30)) 29 true,
 oG 32 (.bin .leq .num (.t 31) (cI 16)) 29 true,
 oP 33 (.pick (.t 29) (.t 32) (cB false)),
 mV 2 33])
 (.ret)))))⟩
def n386:NF:=⟨26,[4],
 .seq (.region [
 oP 4 (.mov (cB false))])
 (kL [0,1] 0 (.seq (.seq (.region [
 mV 6 0,
 oP 7 (.len .sl (.t 6)),
 mV 8 1,
 oP 9 (.len .sl (.t 8)),
 oP 10 (.bin .neq .num (.t 7) (.t 9))])
 (kL [0,1,10] 0 (.cond (.t 10)
 (.seq (.region [
 oP 4 (.mov (cB false))])
 (.ret))
 (.skip))))
 (kL [0,1] 0 (.seq (.seq (.region [
 mV 11 0,
 oP 12 (.len .sl (.t 11)),
 oP 13 (.mov (cI 0))])
 (kL [0,1,12,13] 0 (.block 0 (.loop (kL [0,1,12,13] 0 (.seq (.region [
 oP 14 (.bin .lss .num (.t 13) (.t 12))])
 (kL [0,1,12,13,14] 0 (.seq (.cond (.t 14)
 (.skip)
 (.exit 0))
 (kL [0,1,12,13] 0 (.seq (.block 1 (.seq (.region [
 mV 15 13,
 mV 5 15])
 (kL [0,1,5,12,13] 0 (.seq (.draw 0 [
 ⟨0,none,(mV 16 0),[]⟩,
 ⟨1,none,(mV 17 5),[]⟩,
 ⟨2,none,(oP 18 (iA 1 16 17)),[]⟩,
 ⟨3,none,(oP 19 (lD 18)),[]⟩,
 ⟨4,none,(mV 20 1),[]⟩,
 ⟨5,none,(mV 21 5),[]⟩,
 ⟨6,none,(oP 22 (iA 1 20 21)),[]⟩,
 ⟨7,none,(oP 23 (lD 22)),[]⟩,
 ⟨8,none,(oP 24 (.bin .neq .num (.t 19) (.t 23))),[]⟩])
 (kL [0,1,12,13,24] 0 (.cond (.t 24)
 (.seq (.region [
 oP 4 (.mov (cB false))])
 (.ret))
 (.skip)))))))
 (kL [0,1,12,13] 0 (.region [
 oP 25 (.bin .add .num (.t 13) (cI 1)),
 mV 13 25]))))))))))))
 (kL [] 0 (.seq (.region [
 oP 4 (.mov (cB true))])
 (.ret)))))))⟩
def n406:NF:=⟨25,[4],
 .seq (.region [
 oP 4 (.mov (.c (.c (.int .u64 0))))])
 (kL [0,1] 0 (.seq (.seq (.region [
 mV 6 1,
 oP 7 (.call 309 [(.t 6)]),
 oP 8 (.un .not (.t 7)),
 mV 9 8,
 mG 10 0 9 false,
 mG 11 1 9 false,
 oG 12 (.call 408 [(.t 10),(.t 11)]) 9 false,
 oG 13 (.un .not (.t 12)) 9 false,
 oP 14 (.pick (.t 9) (cB true) (.t 13))])
 (kL [0,1,14] 0 (.cond (.t 14)
 (.seq (.region [
 oP 4 (.mov (.c (.c (.int .u64 0))))])
 (.ret))
 (.skip))))
 (kL [0,1] 0 (.seq (.region [
 oP 5 (.mov (.c (.c (.int .u64 0))))])
 (kL [0,1,5] 0 (.seq (.seq (.region [
 mV 15 1,
 oP 16 (.mov (cI 0))])
 (kL [0,5,15,16] 0 (.block 0 (.loop (kL [0,5,15,16] 0 (.seq (.region [
 oP 17 (.bin .lss .num (.t 16) (.t 15))])
 (kL [0,5,15,16,17] 0 (.seq (.cond (.t 17)
 (.skip)
 (.exit 0))
 (kL [0,5,15,16] 0 (.seq (.block 1 (.region [
 mV 18 5,
 oP 19 (.bin .shl .num (.t 18) (.c (.c (.int .u64 1)))),
 mV 20 0,
 oP 21 (.call 422 [(.t 20)]),
 oP 22 (.bin .or .num (.t 19) (.t 21)),
 mV 5 22]))
 (kL [0,5,15,16] 0 (.region [
 oP 23 (.bin .add .num (.t 16) (cI 1)),
 mV 16 23]))))))))))))
 (kL [5] 0 (.seq (.region [
 mV 24 5,
 mV 4 24])
 (.ret)))))))))⟩
def n408:NF:=⟨20,[4],
 .seq (.region [
 oP 4 (.mov (cB false))])
 (kL [0,1] 0 (.seq (.seq (.region [
 mV 5 0,
 oP 6 (.bin .eql .ptr (.t 5) (.c (.c .nilp))),
 mV 7 6,
 mG 8 0 7 false,
 oG 9 (.nilck (.t 8)) 7 false,
 oG 10 (.faddr 2 (.t 9)) 7 false,
 oG 11 (lD 10) 7 false,
 oG 12 (.bin .neq .num (.t 11) (cI 0)) 7 false,
 oP 13 (.pick (.t 7) (cB true) (.t 12))])
 (kL [0,1,13] 0 (.cond (.t 13)
 (.seq (.region [
 oP 4 (.mov (cB false))])
 (.ret))
 (.skip))))
 (kL [0,1] 0 (.seq (.seq (.region [
 mV 14 1,
 mV 15 0,
 oP 16 (.call 409 [(.t 15)]),
 oP 17 (.bin .gtr .num (.t 14) (.t 16))])
 (kL [0,17] 0 (.cond (.t 17)
 (.seq (.region [
 mV 18 0,
 oP 19 (.call 423 [(.t 18),(cI 2)])])
 (kL [] 0 (.seq (.region [
 oP 4 (.mov (cB false))])
 (.ret))))
 (.skip))))
 (kL [] 0 (.seq (.region [
 oP 4 (.mov (cB true))])
 (.ret)))))))⟩
def n407:NF:=⟨9,[2],
 .seq (.region [
 oP 2 (.mov (.c (.c .nils)))])
 (kL [0] 0 (.seq (.seq (.region [
 mV 3 0,
 oP 4 (.bin .eql .ptr (.t 3) (.c (.c .nilp)))])
 (kL [0,4] 0 (.cond (.t 4)
 (.seq (.region [
 oP 2 (.mov (.c (.c .nils)))])
 (.ret))
 (.skip))))
 (kL [0] 0 (.seq (.region [
 mV 5 0,
 oP 6 (.nilck (.t 5)),
 oP 7 (.faddr 0 (.t 6)),
 oP 8 (lD 7),
 mV 2 8])
 (.ret)))))⟩
def n409:NF:=⟨16,[2],
 .seq (.region [
 oP 2 (.mov (cI 0))])
 (kL [0] 0 (.seq (.seq (.region [
 mV 3 0,
 oP 4 (.bin .eql .ptr (.t 3) (.c (.c .nilp)))])
 (kL [0,4] 0 (.cond (.t 4)
 (.seq (.region [
 oP 2 (.mov (cI 0))])
 (.ret))
 (.skip))))
 (kL [0] 0 (.seq (.draw 0 [
 ⟨0,none,(mV 5 0),[]⟩,
 ⟨1,none,(oP 6 (.nilck (.t 5))),[]⟩,
 ⟨2,none,(oP 7 (.faddr 0 (.t 6))),[]⟩,
 ⟨3,none,(oP 8 (lD 7)),[]⟩,
 ⟨4,none,(oP 9 (.len .sl (.t 8))),[]⟩,
 ⟨5,none,(oP 10 (.bin .mul .num (cI 8) (.t 9))),[]⟩,
 ⟨6,none,(mV 11 0),[]⟩,
 ⟨7,none,(oP 12 (.nilck (.t 11))),[]⟩,
 ⟨8,none,(oP 13 (.faddr 1 (.t 12))),[]⟩,
 ⟨9,none,(oP 14 (lD 13)),[]⟩,
 ⟨10,none,(oP 15 (.bin .sub .num (.t 10) (.t 14))),[]⟩,
 ⟨11,none,(mV 2 15),[]⟩])
 (.ret)))))⟩
def n410:NF:=⟨6,[2],
 .seq (.region [
 oP 2 (.mov (cB false))])
 (kL [0] 0 (.seq (.region [
 mV 3 0,
 oP 4 (.call 398 [(.t 3)]),
 oP 5 (.bin .eql .num (.t 4) (cI 2)),
 mV 2 5])
 (.ret)))⟩
def n411b:Code:=
 .seq (.region [
 oP 2 (.box false 5 (.c (.agg [(.int .i64 0),(.int .i64 0),(.int .i64 0),(.int .i64 0),.nils]))),
 oP 3 (.mov (cI 0))])
 (kL [0,2] 0 (.seq (.region [
 mV 7 0,
 oP 8 (.call 406 [(.t 7),(cI 8)]),
 oP 9 (.conv (.toInt .i64) (.t 8)),
 mV 4 9])
 (kL [0,2,4] 0 (.seq (.seq (.region [
 mV 10 0,
 oP 11 (.call 410 [(.t 10)])])
 (kL [0,2,4,11] 0 (.cond (.t 11)
 (.seq (.region [
 oP 12 (.build [(.int .i64 0),(.int .i64 0),(.int .i64 0),(.int .i64 0),.nils] []),
 oW (.store 5 (.t 2) (.t 12)),
 oP 3 (.mov (cI 2))])
 (.ret))
 (.skip))))
 (kL [0,2,4] 0 (.seq (.seq (.region [
 mV 13 4,
 oP 14 (.build [(.int .i64 0),(.int .i64 0),(.int .i64 0),(.int .i64 0),.nils] [(0,(1,(.t 13)))]),
 oP 15 (.call 320 [(.t 14)]),
 oP 16 (.isnil false (.t 15))])
 (kL [0,2,4,16] 0 (.cond (.t 16)
 (.seq (.region [
 oP 17 (.build [(.int .i64 0),(.int .i64 0),(.int .i64 0),(.int .i64 0),.nils] []),
 oW (.store 5 (.t 2) (.t 17)),
 oP 3 (.mov (cI 3))])
 (.ret))
 (.skip))))
 (kL [0,2,4] 0 (.seq (.region [
 mV 18 0,
 oP 19 (.call 406 [(.t 18),(cI 8)]),
 oP 20 (.conv (.toInt .i64) (.t 19)),
 mV 5 20])
 (kL [0,2,4,5] 0 (.seq (.seq (.region [
 mV 21 0,
 oP 22 (.call 410 [(.t 21)])])
 (kL [0,2,4,5,22] 0 (.cond (.t 22)
 (.seq (.region [
 oP 23 (.build [(.int .i64 0),(.int .i64 0),(.int .i64 0),(.int .i64 0),.nils] []),
 oW (.store 5 (.t 2) (.t 23)),
 oP 3 (.mov (cI 2))])
 (.ret))
 (.skip))))
 (kL [0,2,4,5] 0 (.seq (.seq (.region [
 mV 24 4,
 mV 25 5,
 oP 26 (.call 424 [(.t 24),(.t 25)]),
 oP 27 (.un .not (.t 26))])
 (kL [0,2,4,5,27] 0 (.cond (.t 27)
 (.seq (.region [
 oP 28 (.build [(.int .i64 0),(.int .i64 0),(.int .i64 0),(.int .i64 0),.nils] []),
 oW (.store 5 (.t 2) (.t 28)),
 oP 3 (.mov (cI 3))])
 (.ret))
 (.skip))))
 (kL [0,2,4,5] 0 (.seq (.region [
 mV 29 0,
 mV 30 4,
 mV 31 5,
 oP 32 (.call 425 [(.t 29),(.t 30),(.t 31)]),
 oP 6 (.box true 5 (.c (.agg [(.int .i64 0),(.int .i64 0),(.int .i64 0),(.int .i64 0),.nils]))),
 oW (.store 5 (.t 6) (.t 32))])
 (kL [0,2,6] 1 (.seq (.seq (.region [
 mV 33 0,
 oP 34 (.call 410 [(.t 33)])])
 (kL [2,6,34] 1 (.cond (.t 34)
 (.seq (.region [
 oP 35 (.build [(.int .i64 0),(.int .i64 0),(.int .i64 0),(.int .i64 0),.nils] []),
 oW (.store 5 (.t 2) (.t 35)),
 oP 3 (.mov (cI 2))])
 (.ret))
 (.skip))))
 (kL [2,6] 1 (.seq (.region [
 oP 36 (.load (some 5) (.t 6)),
 oW (.store 5 (.t 2) (.t 36)),
 oP 3 (.mov (cI 0))])
 (.ret)))))))))))))))))))
def n411:NF:=⟨37,[2,3],.fin n411b [⟨some 2,.load (some 5) (.t 2),none⟩]⟩
def n315:NF:=⟨9,[2],
 .seq (.region [
 oP 2 (.mov (cB false))])
 (kL [0] 0 (.seq (.region [
 mV 3 0,
 oP 4 (.bin .geq .num (.t 3) (cI 0)),
 mV 5 4,
 mG 6 0 5 true,
 oG 7 (.bin .lss .num (.t 6) (cI 16)) 5 true,
 oP 8 (.pick (.t 5) (.t 7) (cB false)),
 mV 2 8])
 (.ret)))⟩
def n316:NF:=⟨9,[4],
 .seq (.region [
 oP 4 (.mov (cB false))])
 (kL [0,1] 0 (.seq (.region [
 mV 5 0,
 mV 6 1,
 oP 7 (.call 329 [(.t 5),(.t 6)]),
 oP 8 (.bin .geq .num (.t 7) (cI 0)),
 mV 4 8])
 (.ret)))⟩
def n317:NF:=⟨6,[2],
 .seq (.region [
 oP 1 (.box true 5 (.t 0)),
 oP 2 (.mov (cB false))])
 (kL [1] 1 (.seq (.region [
 oP 3 (.load (some 5) (.t 1)),
 oP 4 (.call 330 [(.t 3)]),
 oP 5 (.un .not (.t 4)),
 mV 2 5])
 (.ret)))⟩
def n330:NF:=⟨20,[2],
 .seq (.region [
 oP 1 (.box true 5 (.t 0)),
 oP 2 (.mov (cB false))])
 (kL [1] 1 (.seq (.region [
 oP 4 (.load (some 5) (.t 1)),
 oP 5 (.call 320 [(.t 4)]),
 mV 3 5])
 (kL [1,3] 1 (.seq (.draw 0 [
 ⟨0,none,(mV 6 3),[]⟩,
 ⟨1,none,(oP 7 (.isnil true (.t 6))),[]⟩,
 ⟨2,none,(mV 8 7),[]⟩,
 ⟨3,none,(mG 9 3 8 true),[]⟩,
 ⟨4,none,(oG 10 (.inv [(218,331),(220,332),(222,333)] (.t 9) []) 8 true),[]⟩,
 ⟨5,none,(oP 11 (.pick (.t 8) (.t 10) (cB false))),[]⟩,
 ⟨6,none,(mV 12 11),[]⟩,
 ⟨7,none,(oG 13 (.load (some 5) (.t 1)) 12 true),[]⟩,
 ⟨8,none,(oG 14 (.faddr 0 (.t 1)) 12 true),[]⟩,
 ⟨9,none,(oG 15 (lD 14) 12 true),[]⟩,
 ⟨10,none,(mG 16 3 12 true),[]⟩,
 ⟨11,none,(oG 17 (.call 334 [(.t 15),(.t 16)]) 12 true),[(7,(oG 13 (.load (some 5) (.t 1)) 12 true))]⟩,
 ⟨12,none,(oG 18 (.call 335 [(.t 13),(.t 17)]) 12 true),[]⟩,
 ⟨13,none,(oP 19 (.pick (.t 12) (.t 18) (cB false))),[]⟩,
 ⟨14,none,(mV 2 19),[]⟩])
 (.ret)))))⟩
def n318:NF:=⟨50,[2],
 .seq (.region [
 oP 1 (.box true 6 (.t 0)),
 oP 2 (.mov (cB false))])
 (kL [1] 1 (.seq (.region [
 oP 7 (.faddr 4 (.t 1)),
 oP 8 (lD 7),
 oP 9 (.call 336 [(.t 8),(cI 1)]),
 mV 6 9,
 oP 10 (.ext (.t 6) 0),
 oP 11 (.ext (.t 6) 1),
 oP 3 (.box true 5 (.c (.agg [(.int .i64 0),(.int .i64 0),(.int .i64 0),(.int .i64 0),.nils]))),
 oW (.store 5 (.t 3) (.t 10)),
 mV 4 11])
 (kL [1,4] 1 (.seq (.region [
 oP 12 (.faddr 2 (.t 1)),
 oP 13 (lD 12),
 oP 14 (.bin .neq .num (.t 13) (cI 64)),
 mV 5 14])
 (kL [1,4,5] 1 (.seq (.seq (.region [
 oP 15 (.faddr 0 (.t 1)),
 oP 16 (lD 15)])
 (kL [1,4,5,16] 1 (.block 0 (.seq (.seq (.region [
 oP 18 (.bin .eql .num (.t 16) (cI 2)),
 mV 17 18])
 (kL [1,4,5,16,17] 1 (.cond (.t 17)
 (.skip)
 (.region [
 oP 19 (.bin .eql .num (.t 16) (cI 4)),
 mV 17 19]))))
 (kL [1,4,5,16,17] 1 (.cond (.t 17)
 (.seq (.region [
 mV 20 5,
 mV 21 20,
 oG 22 (.faddr 5 (.t 1)) 21 true,
 oG 23 (lD 22) 21 true,
 oG 24 (.len .sl (.t 23)) 21 true,
 oG 25 (.bin .eql .num (.t 24) (cI 0)) 21 true,
 oP 26 (.pick (.t 21) (.t 25) (cB false)),
 mV 2 26])
 (.ret))
 (.seq (.region [
 oP 28 (.bin .eql .num (.t 16) (cI 3)),
 mV 27 28])
 (kL [1,4,5,16,27] 1 (.cond (.t 27)
 (.seq (.region [
 mV 29 5,
 oP 30 (.un .not (.t 29)),
 mV 31 30,
 oG 32 (.faddr 5 (.t 1)) 31 true,
 oG 33 (lD 32) 31 true,
 oG 34 (.len .sl (.t 33)) 31 true,
 oG 35 (.bin .eql .num (.t 34) (cI 0)) 31 true,
 oP 36 (.pick (.t 31) (.t 35) (cB false)),
 mV 37 36,
 mG 38 4 37 true,
 oP 39 (.pick (.t 37) (.t 38) (cB false)),
 mV 2 39])
 (.ret))
 (.seq (.seq (.region [
 oP 41 (.bin .eql .num (.t 16) (cI 1)),
 mV 40 41])
 (kL [1,5,16,40] 1 (.cond (.t 40)
 (.skip)
 (.region [
 oP 42 (.bin .eql .num (.t 16) (cI 5)),
 mV 40 42]))))
 (kL [1,5,40] 1 (.cond (.t 40)
 (.seq (.region [
 mV 43 5,
 mV 44 43,
 oG 45 (.faddr 5 (.t 1)) 44 true,
 oG 46 (lD 45) 44 true,
 oG 47 (.len .sl (.t 46)) 44 true,
 oG 48 (.bin .gtr .num (.t 47) (cI 0)) 44 true,
 oP 49 (.pick (.t 44) (.t 48) (cB false)),
 mV 2 49])
 (.ret))
 (.skip)))))))))))))
 (kL [] 0 (.seq (.region [
 oP 2 (.mov (cB false))])
 (.ret)))))))))⟩
def n73:NF:=⟨15,[6],
 .seq (.region [
 oP 6 (.mov (cB false))])
 (kL [0,1,2] 0 (.seq (.region [
 mV 7 0,
 mV 8 1,
 oP 9 (.bin .geq .num (.t 7) (.t 8)),
 mV 10 9,
 mG 11 0 10 true,
 mG 12 2 10 true,
 oG 13 (.bin .leq .num (.t 11) (.t 12)) 10 true,
 oP 14 (.pick (.t 10) (.t 13) (cB false)),
 mV 6 14])
 (.ret)))⟩
def n77:NF:=⟨8,[3],
 .seq (.region [
 oP 2 (.box true 3 (.t 0)),
 oP 3 (.mov (cB false))])
 (kL [1,2] 1 (.seq (.region [
 oP 4 (.faddr 1 (.t 2)),
 oP 5 (lD 4),
 oP 6 (lD 1),
 oP 7 (.bin .eql .num (.t 5) (.t 6)),
 mV 3 7])
 (.ret)))⟩
def n78:NF:=⟨14,[],
 .seq (.region [
 mV 5 0,
 oP 6 (.len .sl (.t 5)),
 mV 4 6])
 (kL [0,1,4] 0 (.region [
 mV 7 0,
 mV 8 4,
 mV 9 4,
 oP 10 (.conv (.toInt .u64) (.t 9)),
 oP 11 (.call 82 [(.t 10)]),
 mV 12 1,
 oP 13 (.call 85 [(.t 7),(cI 0),(.t 8),(.t 11),(.t 12)])]))⟩
def n79:NF:=⟨17,[4],
 .seq (.region [
 oP 2 (.box true 3 (.t 0)),
 oP 3 (.box true 3 (.t 1)),
 oP 4 (.mov (cI 0))])
 (kL [2,3] 2 (.seq (.draw 1 [
 ⟨0,none,(oP 5 (.faddr 0 (.t 2))),[]⟩,
 ⟨1,none,(oP 6 (lD 5)),[]⟩,
 ⟨2,none,(oP 7 (.faddr 0 (.t 3))),[]⟩,
 ⟨3,none,(oP 8 (lD 7)),[]⟩,
 ⟨5,none,(oP 10 (.faddr 1 (.t 2))),[]⟩,
 ⟨6,none,(oP 11 (lD 10)),[]⟩,
 ⟨7,none,(oP 12 (.faddr 1 (.t 3))),[]⟩,
 ⟨8,none,(oP 13 (lD 12)),[]⟩,
 ⟨4,none,(oP 9 (.call 46 [(.t 6),(.t 8)])),[(6,(oP 11 (lD 10))),(8,(oP 13 (lD 12)))]⟩,
 ⟨9,none,(oP 14 (.call 46 [(.t 11),(.t 13)])),[]⟩,
 ⟨10,(some 0),(oP 15 (.bslice false 1 2 [(.int .i64 0)] [(0,(1,(.t 9))),(1,(1,(.t 14)))])),[]⟩,
 ⟨11,none,(oP 16 (.call 86 [(.t 15)])),[]⟩,
 ⟨12,none,(mV 4 16),[]⟩])
 (.ret)))⟩
def n80:NF:=⟨11,[3],
 .seq (.region [
 oP 2 (.box true 3 (.t 0)),
 oP 3 (.mov (cB false))])
 (kL [1,2] 1 (.seq (.draw 0 [
 ⟨0,none,(oP 4 (.faddr 0 (.t 2))),[]⟩,
 ⟨1,none,(oP 5 (lD 4)),[]⟩,
 ⟨2,none,(oP 6 (lD 1)),[]⟩,
 ⟨3,none,(oP 7 (.nilck (.t 6))),[]⟩,
 ⟨4,none,(oP 8 (.faddr 1 (.t 7))),[]⟩,
 ⟨5,none,(oP 9 (lD 8)),[]⟩,
 ⟨6,none,(oP 10 (.bin .geq .num (.t 5) (.t 9))),[]⟩,
 ⟨7,none,(mV 3 10),[]⟩])
 (.ret)))⟩
def n62:NF:=⟨26,[4,5],
 .seq (.region [
 oP 4 (.mov (cI 0)),
 oP 5 (.mov (cB false))])
 (kL [0,1] 0 (.seq (.seq (.region [
 mV 8 0,
 oP 9 (.bin .eql .ptr (.t 8) (.c (.c .nilp)))])
 (kL [0,1,9] 0 (.cond (.t 9)
 (.seq (.region [
 oP 4 (.mov (cI 0)),
 oP 5 (.mov (cB false))])
 (.ret))
 (.skip))))
 (kL [0,1] 0 (.seq (.seq (.region [
 mV 10 0,
 oP 11 (.nilck (.t 10)),
 oP 12 (.faddr 2 (.t 11)),
 oP 13 (lD 12),
 oP 14 (.len .sl (.t 13)),
 oP 15 (.mov (cI 0))])
 (kL [1,13,14,15] 0 (.block 0 (.loop (kL [1,13,14,15] 0 (.seq (.region [
 oP 16 (.bin .lss .num (.t 15) (.t 14))])
 (kL [1,13,14,15,16] 0 (.seq (.cond (.t 16)
 (.skip)
 (.exit 0))
 (kL [1,13,14,15] 0 (.seq (.block 1 (.seq (.region [
 oP 17 (iA 3 13 15),
 oP 18 (.load (some 3) (.t 17)),
 oP 7 (.box true 3 (.c (.agg [(.int .i64 0),(.int .i64 0),(.int .i64 0)]))),
 oW (.store 3 (.t 7) (.t 18))])
 (kL [1,7,13,14,15] 1 (.seq (.region [
 oP 19 (.faddr 1 (.t 7)),
 oP 20 (lD 19),
 mV 21 1,
 oP 22 (.bin .eql .num (.t 20) (.t 21))])
 (kL [1,7,13,14,15,22] 1 (.cond (.t 22)
 (.seq (.region [
 oP 23 (.faddr 0 (.t 7)),
 oP 24 (lD 23),
 mV 4 24,
 oP 5 (.mov (cB true))])
 (.ret))
 (.skip)))))))
 (kL [1,13,14,15] 0 (.region [
 oP 25 (.bin .add .num (.t 15) (cI 1)),
 mV 15 25]))))))))))))
 (kL [] 0 (.seq (.region [
 oP 4 (.mov (cI 0)),
 oP 5 (.mov (cB false))])
 (.ret)))))))⟩
def n414:NF:=⟨17,[],
 .seq (.region [
 mV 4 0,
 oP 5 (.bin .neq .ptr (.t 4) (.c (.c .nilp)))])
 (kL [0,1,5] 0 (.cond (.t 5)
 (.draw 0 [
 ⟨0,none,(mV 6 0),[]⟩,
 ⟨1,none,(mV 7 0),[]⟩,
 ⟨2,none,(oP 8 (.nilck (.t 7))),[]⟩,
 ⟨3,none,(oP 9 (.faddr 0 (.t 8))),[]⟩,
 ⟨4,none,(oP 10 (lD 9)),[]⟩,
 ⟨5,none,(mV 11 1),[]⟩,
 ⟨6,none,(oP 12 (.call 402 [(.t 11),(cI 1000000)])),[(4,(oP 10 (lD 9)))]⟩,
 ⟨7,none,(oP 13 (.bin .add .num (.t 10) (.t 12))),[]⟩,
 ⟨8,none,(oP 14 (.call 402 [(.t 13),(cI 1000000000000)])),[]⟩,
 ⟨9,none,(oP 15 (.nilck (.t 6))),[]⟩,
 ⟨10,none,(oP 16 (.faddr 0 (.t 15))),[]⟩,
 ⟨11,none,(oW (.store 1 (.t 16) (.t 14))),[]⟩])
 (.skip)))⟩
def n415:NF:=⟨7,[],
 .seq (.region [
 mV 2 0,
 oP 3 (.bin .neq .ptr (.t 2) (.c (.c .nilp)))])
 (kL [0,3] 0 (.cond (.t 3)
 (.region [
 mV 4 0,
 oP 5 (.nilck (.t 4)),
 oP 6 (.faddr 1 (.t 5)),
 oW (.store 1 (.t 6) (cI 0))])
 (.skip)))⟩
def n306:NF:=⟨5,[2],
 .seq (.region [
 oP 2 (.mov (cB false))])
 (kL [0] 0 (.seq (.region [
 mV 3 0,
 oP 4 (.call 307 [(.t 3),(cI 0),(cI 15)]),
 mV 2 4])
 (.ret)))⟩
def n307:NF:=⟨15,[6],
 .seq (.region [
 oP 6 (.mov (cB false))])
 (kL [0,1,2] 0 (.seq (.region [
 mV 7 0,
 mV 8 1,
 oP 9 (.bin .geq .num (.t 7) (.t 8)),
 mV 10 9,
 mG 11 0 10 true,
 mG 12 2 10 true,
 oG 13 (.bin .leq .num (.t 11) (.t 12)) 10 true,
 oP 14 (.pick (.t 10) (.t 13) (cB false)),
 mV 6 14])
 (.ret)))⟩
def n308:NF:=⟨26,[2],
 .seq (.region [
 oP 2 (.mov (cB false))])
 (kL [0] 0 (.seq (.seq (.region [
 mV 5 0,
 oP 6 (.len .sl (.t 5)),
 oP 7 (.mov (cI 0))])
 (kL [0,5,6,7] 0 (.block 0 (.loop (kL [0,5,6,7] 0 (.seq (.region [
 oP 8 (.bin .lss .num (.t 7) (.t 6))])
 (kL [0,5,6,7,8] 0 (.seq (.cond (.t 8)
 (.skip)
 (.exit 0))
 (kL [0,5,6,7] 0 (.seq (.block 1 (.seq (.region [
 mV 9 7,
 oP 10 (iA 1 5 7),
 oP 11 (lD 10),
 mV 3 9,
 mV 4 11])
 (kL [0,3,4,5,6,7] 0 (.seq (.region [
 mV 12 4,
 oP 13 (.call 306 [(.t 12)]),
 oP 14 (.un .not (.t 13)),
 mV 15 14,
 mG 16 0 15 false,
 mG 17 3 15 false,
 oG 18 (.slice 1 (.t 16) none (some (.t 17)) none) 15 false,
 mG 19 4 15 false,
 oG 20 (.call 305 [(.t 18),(.t 19)]) 15 false,
 oP 21 (.pick (.t 15) (cB true) (.t 20))])
 (kL [0,5,6,7,21] 0 (.cond (.t 21)
 (.seq (.region [
 oP 2 (.mov (cB false))])
 (.ret))
 (.skip)))))))
 (kL [0,5,6,7] 0 (.region [
 oP 22 (.bin .add .num (.t 7) (cI 1)),
 mV 7 22]))))))))))))
 (kL [0] 0 (.seq (.region [
 mV 23 0,
 oP 24 (.len .sl (.t 23)),
 oP 25 (.bin .leq .num (.t 24) (cI 16)),
 mV 2 25])
 (.ret)))))⟩
def n309:NF:=⟨9,[2],
 .seq (.region [
 oP 2 (.mov (cB false))])
 (kL [0] 0 (.seq (.region [
 mV 3 0,
 oP 4 (.bin .geq .num (.t 3) (cI 0)),
 mV 5 4,
 mG 6 0 5 true,
 oG 7 (.bin .leq .num (.t 6) (cI 64)) 5 true,
 oP 8 (.pick (.t 5) (.t 7) (cB false)),
 mV 2 8])
 (.ret)))⟩
def n311:NF:=⟨42,[4],
 .seq (.region [
 oP 4 (.mov (.c (.c .nils)))])
 (kL [0,1] 0 (.seq (.region [
 mV 8 0,
 mV 9 1,
 oP 10 (.call 328 [(.t 8),(.t 9)]),
 mV 5 10])
 (kL [0,1,5] 0 (.seq (.seq (.region [
 mV 11 5,
 oP 12 (.bin .eql .num (.t 11) (cI (-1)))])
 (kL [0,1,5,12] 0 (.cond (.t 12)
 (.seq (.region [
 mV 13 0,
 mV 4 13])
 (.ret))
 (.skip))))
 (kL [0,1,5] 0 (.seq (.seq (.region [
 mV 14 5,
 oP 15 (.bin .add .num (.t 14) (cI 1)),
 mV 6 15])
 (kL [0,1,5,6] 0 (.block 0 (.loop (kL [0,1,5,6] 0 (.seq (.seq (.region [
 mV 16 6,
 mV 17 0,
 oP 18 (.len .sl (.t 17)),
 oP 19 (.bin .lss .num (.t 16) (.t 18))])
 (kL [0,1,5,6,19] 0 (.cond (.t 19)
 (.skip)
 (.exit 0))))
 (kL [0,1,5,6] 0 (.seq (.block 1 (.seq (.region [
 mV 22 0,
 mV 23 6,
 oP 24 (iA 1 22 23),
 oP 25 (lD 24),
 mV 7 25])
 (kL [0,1,5,6,7] 0 (.seq (.region [
 mV 26 1,
 mV 27 7,
 oP 28 (.dyn (.t 26) [(.t 27)]),
 oP 29 (.un .not (.t 28))])
 (kL [0,1,5,6,7,29] 0 (.cond (.t 29)
 (.seq (.region [
 mV 30 0,
 mV 31 5,
 mV 32 7,
 oP 33 (iA 1 30 31),
 oW (.store 1 (.t 33) (.t 32))])
 (kL [0,1,5,6] 0 (.region [
 mV 34 5,
 oP 35 (.bin .add .num (.t 34) (cI 1)),
 mV 5 35])))
 (.skip)))))))
 (kL [0,1,5,6] 0 (.region [
 mV 20 6,
 oP 21 (.bin .add .num (.t 20) (cI 1)),
 mV 6 21]))))))))))
 (kL [0,5] 0 (.seq (.region [
 mV 36 0,
 mV 37 5,
 oP 38 (.slice 1 (.t 36) (some (.t 37)) none none),
 oW (.clear 1 [(.int .i64 0)] (.t 38))])
 (kL [0,5] 0 (.seq (.region [
 mV 39 0,
 mV 40 5,
 oP 41 (.slice 1 (.t 39) none (some (.t 40)) none),
 mV 4 41])
 (.ret)))))))))))⟩
def n310:NF:=⟨9,[3],
 .seq (.region [
 oP 3 (.mov (cB false))])
 (kL [0,1] 0 (.seq (.region [
 oP 4 (lD 1),
 mV 5 0,
 oP 6 (.bin .shr .num (.t 4) (.t 5)),
 oP 7 (.bin .and .num (.t 6) (.c (.c (.int .u32 1)))),
 oP 8 (.bin .eql .num (.t 7) (.c (.c (.int .u32 1)))),
 mV 3 8])
 (.ret)))⟩
def n313:NF:=⟨30,[4,5],
 .seq (.region [
 oP 4 (.mov (.c (.c .nils))),
 oP 5 (.mov (cB false))])
 (kL [0,1] 0 (.seq (.seq (.region [
 mV 6 0,
 oP 7 (.bin .eql .ptr (.t 6) (.c (.c .nilp))),
 mV 8 7,
 mG 9 1 8 false,
 oG 10 (.bin .lss .num (.t 9) (cI 0)) 8 false,
 oP 11 (.pick (.t 8) (cB true) (.t 10)),
 mV 12 11,
 mG 13 1 12 false,
 mG 14 0 12 false,
 oG 15 (.nilck (.t 14)) 12 false,
 oG 16 (.faddr 1 (.t 15)) 12 false,
 oG 17 (lD 16) 12 false,
 oG 18 (.len .sl (.t 17)) 12 false,
 oG 19 (.bin .geq .num (.t 13) (.t 18)) 12 false,
 oP 20 (.pick (.t 12) (cB true) (.t 19))])
 (kL [0,1,20] 0 (.cond (.t 20)
 (.seq (.region [
 oP 4 (.mov (.c (.c .nils))),
 oP 5 (.mov (cB false))])
 (.ret))
 (.skip))))
 (kL [0,1] 0 (.seq (.region [
 mV 21 0,
 oP 22 (.nilck (.t 21)),
 oP 23 (.faddr 1 (.t 22)),
 oP 24 (lD 23),
 mV 25 1,
 oP 26 (iA 2 24 25),
 oP 27 (.faddr 1 (.t 26)),
 oP 28 (lD 27),
 oP 29 (.call 293 [(.t 28)]),
 mV 4 29,
 oP 5 (.mov (cB true))])
 (.ret)))))⟩
def n314:NF:=⟨24,[2],
 .seq (.region [
 oP 2 (.mov (.c (.c .nils)))])
 (kL [0] 0 (.seq (.seq (.region [
 mV 6 0,
 oP 7 (.bin .eql .ptr (.t 6) (.c (.c .nilp)))])
 (kL [0,7] 0 (.cond (.t 7)
 (.seq (.region [
 oP 2 (.mov (.c (.c .nils)))])
 (.ret))
 (.skip))))
 (kL [0] 0 (.seq (.region [
 oP 3 (.mov (.c (.c .nils)))])
 (kL [0,3] 0 (.seq (.seq (.region [
 mV 8 0,
 oP 9 (.nilck (.t 8)),
 oP 10 (.faddr 1 (.t 9)),
 oP 11 (lD 10),
 oP 12 (.len .sl (.t 11)),
 oP 13 (.mov (cI 0))])
 (kL [3,11,12,13] 0 (.block 0 (.loop (kL [3,11,12,13] 0 (.seq (.region [
 oP 14 (.bin .lss .num (.t 13) (.t 12))])
 (kL [3,11,12,13,14] 0 (.seq (.cond (.t 14)
 (.skip)
 (.exit 0))
 (kL [3,11,12,13] 0 (.seq (.block 1 (.seq (.region [
 oP 15 (iA 2 11 13),
 oP 16 (.load (some 2) (.t 15)),
 oP 5 (.box true 2 (.c (.agg [(.int .i64 0),.nils]))),
 oW (.store 2 (.t 5) (.t 16))])
 (kL [3,5,11,12,13] 1 (.region [
 mV 17 3,
 oP 18 (.faddr 0 (.t 5)),
 oP 19 (lD 18),
 oP 20 (.bslice true 1 1 [(.int .i64 0)] [(0,(1,(.t 19)))]),
 oP 21 (.app 1 8 (.t 17) (.t 20)),
 mV 3 21]))))
 (kL [3,11,12,13] 0 (.region [
 oP 22 (.bin .add .num (.t 13) (cI 1)),
 mV 13 22]))))))))))))
 (kL [3] 0 (.seq (.region [
 mV 23 3,
 mV 2 23])
 (.ret)))))))))⟩
def n319:NF:=⟨6,[2],
 .seq (.region [
 oP 1 (.box true 5 (.t 0)),
 oP 2 (.mov (cB false))])
 (kL [1] 1 (.seq (.region [
 oP 3 (.load (some 5) (.t 1)),
 oP 4 (.call 330 [(.t 3)]),
 oP 5 (.un .not (.t 4)),
 mV 2 5])
 (.ret)))⟩
def n320:NF:=⟨26,[2],
 .seq (.region [
 oP 1 (.box true 5 (.t 0)),
 oP 2 (.mov (.c (.c .nili)))])
 (kL [1] 1 (.seq (.seq (.region [
 oP 3 (.faddr 0 (.t 1)),
 oP 4 (lD 3)])
 (kL [1,4] 1 (.block 0 (.seq (.region [
 oP 6 (.bin .eql .num (.t 4) (cI 1)),
 mV 5 6])
 (kL [1,4,5] 1 (.cond (.t 5)
 (.seq (.region [
 oP 7 (.faddr 1 (.t 1)),
 oP 8 (lD 7),
 oP 9 (.faddr 2 (.t 1)),
 oP 10 (lD 9),
 oP 11 (.build [(.int .i64 0),(.int .i64 0)] [(0,(1,(.t 8))),(1,(1,(.t 10)))]),
 oP 12 (.mkif 218 (.t 11)),
 mV 2 12])
 (.ret))
 (.seq (.region [
 oP 14 (.bin .eql .num (.t 4) (cI 2)),
 mV 13 14])
 (kL [1,4,13] 1 (.cond (.t 13)
 (.seq (.region [
 oP 15 (.faddr 3 (.t 1)),
 oP 16 (lD 15),
 oP 17 (.build [(.int .i64 0)] [(0,(1,(.t 16)))]),
 oP 18 (.mkif 220 (.t 17)),
 mV 2 18])
 (.ret))
 (.seq (.seq (.region [
 oP 20 (.bin .eql .num (.t 4) (cI 3)),
 mV 19 20])
 (kL [1,4,19] 1 (.cond (.t 19)
 (.skip)
 (.region [
 oP 21 (.bin .eql .num (.t 4) (cI 4)),
 mV 19 21]))))
 (kL [1,19] 1 (.cond (.t 19)
 (.seq (.region [
 oP 22 (.faddr 4 (.t 1)),
 oP 23 (lD 22),
 oP 24 (.build [.nils] [(0,(1,(.t 23)))]),
 oP 25 (.mkif 222 (.t 24)),
 mV 2 25])
 (.ret))
 (.skip)))))))))))))
 (kL [] 0 (.seq (.region [
 oP 2 (.mov (.c (.c .nili)))])
 (.ret)))))⟩
def n324:NF:=⟨28,[2],
 .seq (.region [
 oP 2 (.mov (.c (.c (.int .u16 0))))])
 (kL [0] 0 (.seq (.region [
 oP 3 (.mov (.c (.c (.int .u16 0))))])
 (kL [0,3] 0 (.seq (.seq (.region [
 mV 6 0,
 oP 7 (.len .sl (.t 6)),
 oP 8 (.mov (cI 0))])
 (kL [3,6,7,8] 0 (.block 0 (.loop (kL [3,6,7,8] 0 (.seq (.region [
 oP 9 (.bin .lss .num (.t 8) (.t 7))])
 (kL [3,6,7,8,9] 0 (.seq (.cond (.t 9)
 (.skip)
 (.exit 0))
 (kL [3,6,7,8] 0 (.seq (.block 1 (.seq (.region [
 oP 10 (iA 1 6 8),
 oP 11 (lD 10),
 mV 5 11])
 (kL [3,5,6,7,8] 0 (.seq (.region [
 mV 12 3,
 mV 13 5,
 oP 14 (.conv (.toInt .u16) (.t 13)),
 oP 15 (.bin .xor .num (.t 12) (.t 14)),
 mV 3 15])
 (kL [3,6,7,8] 0 (.seq (.region [
 oP 16 (.mov (cI 0))])
 (kL [3,6,7,8,16] 0 (.block 2 (.loop (kL [3,6,7,8,16] 0 (.seq (.region [
 oP 17 (.bin .lss .num (.t 16) (cI 8))])
 (kL [3,6,7,8,16,17] 0 (.seq (.cond (.t 17)
 (.skip)
 (.exit 2))
 (kL [3,6,7,8,16] 0 (.seq (.block 3 (.region [
 mV 18 3,
 oP 19 (.bin .shr .num (.t 18) (.c (.c (.int .u64 1)))),
 mV 20 3,
 oP 21 (.bin .and .num (.t 20) (.c (.c (.int .u16 1)))),
 oP 22 (.un .neg (.t 21)),
 oP 23 (.bin .and .num (.c (.c (.int .u16 33800))) (.t 22)),
 oP 24 (.bin .xor .num (.t 19) (.t 23)),
 mV 3 24]))
 (kL [3,6,7,8,16] 0 (.region [
 oP 25 (.bin .add .num (.t 16) (cI 1)),
 mV 16 25])))))))))))))))))
 (kL [3,6,7,8] 0 (.region [
 oP 26 (.bin .add .num (.t 8) (cI 1)),
 mV 8 26]))))))))))))
 (kL [3] 0 (.seq (.region [
 mV 27 3,
 mV 2 27])
 (.ret)))))))⟩
def n326:NF:=⟨9,[2],
 .seq (.region [
 oP 2 (.mov (cB false))])
 (kL [0] 0 (.seq (.region [
 mV 3 0,
 oP 4 (.bin .geq .num (.t 3) (cI 0)),
 mV 5 4,
 mG 6 0 5 true,
 oG 7 (.bin .lss .num (.t 6) (cI 1099511627776)) 5 true,
 oP 8 (.pick (.t 5) (.t 7) (cB false)),
 mV 2 8])
 (.ret)))⟩
def n412:NF:=⟨33,[6],
 .seq (.region [
 oP 6 (.mov (.c (.c .nils)))])
 (kL [0,1,2] 0 (.seq (.region [
 mV 8 0,
 mV 9 1,
 mV 10 2,
 mV 11 0,
 oP 12 (.len .sl (.t 11)),
 oP 13 (.slice 2 (.t 8) (some (.t 9)) (some (.t 10)) (some (.t 12)))])
 (kL [0,1,2] 0 (.seq (.seq (.region [
 mV 14 1,
 mV 15 2,
 oP 16 (.bin .eql .num (.t 14) (.t 15))])
 (kL [0,1,2,16] 0 (.cond (.t 16)
 (.seq (.region [
 mV 17 0,
 mV 6 17])
 (.ret))
 (.skip))))
 (kL [0,1,2] 0 (.seq (.region [
 mV 18 0,
 oP 19 (.len .sl (.t 18)),
 mV 7 19])
 (kL [0,1,2,7] 0 (.seq (.draw 0 [
 ⟨0,none,(mV 20 0),[]⟩,
 ⟨1,none,(mV 21 1),[]⟩,
 ⟨2,none,(oP 22 (.slice 2 (.t 20) none (some (.t 21)) none)),[]⟩,
 ⟨3,none,(mV 23 0),[]⟩,
 ⟨4,none,(mV 24 2),[]⟩,
 ⟨5,none,(oP 25 (.slice 2 (.t 23) (some (.t 24)) none none)),[]⟩,
 ⟨6,none,(oP 26 (.app 2 32 (.t 22) (.t 25))),[]⟩,
 ⟨7,none,(mV 0 26),[]⟩])
 (kL [0,7] 0 (.seq (.region [
 mV 27 0,
 mV 28 0,
 oP 29 (.len .sl (.t 28)),
 mV 30 7,
 oP 31 (.slice 2 (.t 27) (some (.t 29)) (some (.t 30)) none),
 oW (.clear 2 [(.int .i64 0),.nils] (.t 31))])
 (kL [0] 0 (.seq (.region [
 mV 32 0,
 mV 6 32])
 (.ret)))))))))))))⟩
def n413:NF:=⟨6,[2],
 .seq (.region [
 oP 2 (.mov (cI 0))])
 (kL [0] 0 (.seq (.region [
 mV 3 0,
 oP 4 (.call 406 [(.t 3),(cI 8)]),
 oP 5 (.conv (.toInt .i64) (.t 4)),
 mV 2 5])
 (.ret)))⟩
def n83:NF:=⟨134,[],
 .seq (.region [
 oP 8 (.mov (cB true))])
 (kL [0,1,2,3,8] 0 (.seq (.region [
 oP 9 (.mov (cB true))])
 (kL [0,1,2,3,8,9] 0 (.block 0 (.loop (kL [0,1,2,3,8,9] 0 (.block 1 (.seq (.region [
 mV 19 2,
 mV 20 1,
 oP 21 (.bin .sub .num (.t 19) (.t 20)),
 mV 10 21])
 (kL [0,1,2,3,8,9,10] 0 (.seq (.seq (.region [
 mV 22 10,
 oP 23 (.bin .leq .num (.t 22) (cI 12))])
 (kL [0,1,2,3,8,9,10,23] 0 (.cond (.t 23)
 (.seq (.region [
 mV 24 0,
 mV 25 1,
 mV 26 2,
 oP 27 (.call 87 [(.t 24),(.t 25),(.t 26)])])
 (.ret))
 (.skip))))
 (kL [0,1,2,3,8,9,10] 0 (.seq (.seq (.region [
 mV 28 3,
 oP 29 (.bin .eql .num (.t 28) (cI 0))])
 (kL [0,1,2,3,8,9,10,29] 0 (.cond (.t 29)
 (.seq (.region [
 mV 30 0,
 mV 31 1,
 mV 32 2,
 oP 33 (.call 1000000 [(.t 30),(.t 31),(.t 32)])])
 (.ret))
 (.skip))))
 (kL [0,1,2,3,8,9,10] 0 (.seq (.seq (.region [
 mV 34 8,
 oP 35 (.un .not (.t 34))])
 (kL [0,1,2,3,8,9,10,35] 0 (.cond (.t 35)
 (.seq (.region [
 mV 36 0,
 mV 37 1,
 mV 38 2,
 oP 39 (.call 1000000 [(.t 36),(.t 37),(.t 38)])])
 (kL [0,1,2,3,8,9,10] 0 (.region [
 mV 40 3,
 oP 41 (.bin .sub .num (.t 40) (cI 1)),
 mV 3 41])))
 (.skip))))
 (kL [0,1,2,3,8,9,10] 0 (.seq (.region [
 mV 43 0,
 mV 44 1,
 mV 45 2,
 oP 46 (.call 1000000 [(.t 43),(.t 44),(.t 45)]),
 mV 42 46,
 oP 47 (.ext (.t 42) 0),
 oP 48 (.ext (.t 42) 1),
 mV 11 47,
 mV 12 48])
 (kL [0,1,2,3,8,9,10,11,12] 0 (.seq (.seq (.region [
 mV 49 12,
 oP 50 (.bin .eql .num (.t 49) (cI 2))])
 (kL [0,1,2,3,8,9,10,11,12,50] 0 (.cond (.t 50)
 (.seq (.region [
 mV 51 0,
 mV 52 1,
 mV 53 2,
 oP 54 (.call 1000000 [(.t 51),(.t 52),(.t 53)])])
 (kL [0,1,2,3,8,9,10,11] 0 (.seq (.region [
 mV 55 2,
 oP 56 (.bin .sub .num (.t 55) (cI 1)),
 mV 57 11,
 mV 58 1,
 oP 59 (.bin .sub .num (.t 57) (.t 58)),
 oP 60 (.bin .sub .num (.t 56) (.t 59)),
 mV 11 60])
 (kL [0,1,2,3,8,9,10,11] 0 (.region [
 oP 12 (.mov (cI 1))])))))
 (.skip))))
 (kL [0,1,2,3,8,9,10,11,12] 0 (.seq (.seq (.region [
 mV 61 8,
 mV 62 61,
 mG 63 9 62 true,
 oP 64 (.pick (.t 62) (.t 63) (cB false)),
 mV 65 64,
 mG 66 12 65 true,
 oG 67 (.bin .eql .num (.t 66) (cI 1)) 65 true,
 oP 68 (.pick (.t 65) (.t 67) (cB false))])
 (kL [0,1,2,3,8,9,10,11,68] 0 (.cond (.t 68)
 (.seq (.region [
 mV 69 0,
 mV 70 1,
 mV 71 2,
 oP 72 (.call 1000000 [(.t 69),(.t 70),(.t 71)])])
 (kL [0,1,2,3,8,9,10,11,72] 0 (.cond (.t 72)
 (.ret)
 (.skip))))
 (.skip))))
 (kL [0,1,2,3,8,9,10,11] 0 (.seq (.seq (.draw 0 [
 ⟨0,none,(mV 73 1),[]⟩,
 ⟨1,none,(oP 74 (.bin .gtr .num (.t 73) (cI 0))),[]⟩,
 ⟨2,none,(mV 75 74),[]⟩,
 ⟨3,none,(mG 76 0 75 true),[]⟩,
 ⟨4,none,(mG 77 1 75 true),[]⟩,
 ⟨5,none,(oG 78 (.bin .sub .num (.t 77) (cI 1)) 75 true),[]⟩,
 ⟨6,none,(oG 79 (iA 1 76 78) 75 true),[]⟩,
 ⟨7,none,(oG 80 (lD 79) 75 true),[]⟩,
 ⟨8,none,(mG 81 0 75 true),[]⟩,
 ⟨9,none,(mG 82 11 75 true),[]⟩,
 ⟨10,none,(oG 83 (iA 1 81 82) 75 true),[]⟩,
 ⟨11,none,(oG 84 (lD 83) 75 true),[]⟩,
 ⟨12,none,(oG 85 (.call 93 [(.t 80),(.t 84)]) 75 true),[]⟩,
 ⟨13,none,(oG 86 (.un .not (.t 85)) 75 true),[]⟩,
 ⟨14,none,(oP 87 (.pick (.t 75) (.t 86) (cB false))),[]⟩])
 (kL [0,1,2,3,8,9,10,11,87] 0 (.cond (.t 87)
 (.seq (.region [
 mV 88 0,
 mV 89 1,
 mV 90 2,
 mV 91 11,
 oP 92 (.call 1000000 [(.t 88),(.t 89),(.t 90),(.t 91)]),
 mV 13 92])
 (kL [0,2,3,8,9,13] 0 (.seq (.region [
 mV 93 13,
 mV 1 93])
 (.exit 1))))
 (.skip))))
 (kL [0,1,2,3,10,11] 0 (.seq (.region [
 mV 95 0,
 mV 96 1,
 mV 97 2,
 mV 98 11,
 oP 99 (.call 1000000 [(.t 95),(.t 96),(.t 97),(.t 98)]),
 mV 94 99,
 oP 100 (.ext (.t 94) 0),
 oP 101 (.ext (.t 94) 1),
 mV 14 100,
 mV 15 101])
 (kL [0,1,2,3,10,14,15] 0 (.seq (.region [
 mV 102 15,
 mV 9 102])
 (kL [0,1,2,3,9,10,14] 0 (.seq (.region [
 mV 103 14,
 mV 104 1,
 oP 105 (.bin .sub .num (.t 103) (.t 104)),
 mV 106 2,
 mV 107 14,
 oP 108 (.bin .sub .num (.t 106) (.t 107)),
 mV 16 105,
 mV 17 108])
 (kL [0,1,2,3,9,10,14,16,17] 0 (.seq (.region [
 mV 109 10,
 oP 110 (.bin .quo .num (.t 109) (cI 8)),
 mV 18 110])
 (kL [0,1,2,3,9,14,16,17,18] 0 (.seq (.region [
 mV 111 16,
 mV 112 17,
 oP 113 (.bin .lss .num (.t 111) (.t 112))])
 (kL [0,1,2,3,9,14,16,17,18,113] 0 (.cond (.t 113)
 (.seq (.region [
 mV 114 16,
 mV 115 18,
 oP 116 (.bin .geq .num (.t 114) (.t 115)),
 mV 8 116])
 (kL [0,1,2,3,8,9,14] 0 (.seq (.region [
 mV 117 0,
 mV 118 1,
 mV 119 14,
 mV 120 3,
 oP 121 (.call 83 [(.t 117),(.t 118),(.t 119),(.t 120)])])
 (kL [0,2,3,8,9,14] 0 (.region [
 mV 122 14,
 oP 123 (.bin .add .num (.t 122) (cI 1)),
 mV 1 123])))))
 (.seq (.region [
 mV 124 17,
 mV 125 18,
 oP 126 (.bin .geq .num (.t 124) (.t 125)),
 mV 8 126])
 (kL [0,1,2,3,8,9,14] 0 (.seq (.region [
 mV 127 0,
 mV 128 14,
 oP 129 (.bin .add .num (.t 128) (cI 1)),
 mV 130 2,
 mV 131 3,
 oP 132 (.call 83 [(.t 127),(.t 129),(.t 130),(.t 131)])])
 (kL [0,1,3,8,9,14] 0 (.region [
 mV 133 14,
 mV 2 133])))))))))))))))))))))))))))))))))))))))⟩
def n82:NF:=⟨8,[2],
 .seq (.region [
 oP 2 (.mov (cI 0))])
 (kL [0] 0 (.seq (.cond (cB false)
 (.seq (.region [
 mV 3 0,
 oP 4 (.conv (.toInt .u32) (.t 3)),
 oP 5 (.call 1000000 [(.t 4)]),
 mV 2 5])
 (.ret))
 (.skip))
 (kL [0] 0 (.seq (.region [
 mV 6 0,
 oP 7 (.call 97 [(.t 6)]),
 mV 2 7])
 (.ret)))))⟩
def n84:NF:=⟨42,[4],
 .seq (.region [
 oP 4 (.mov (.c (.c .nils)))])
 (kL [0,1] 0 (.seq (.region [
 mV 8 0,
 mV 9 1,
 oP 10 (.call 98 [(.t 8),(.t 9)]),
 mV 5 10])
 (kL [0,1,5] 0 (.seq (.seq (.region [
 mV 11 5,
 oP 12 (.bin .eql .num (.t 11) (cI (-1)))])
 (kL [0,1,5,12] 0 (.cond (.t 12)
 (.seq (.region [
 mV 13 0,
 mV 4 13])
 (.ret))
 (.skip))))
 (kL [0,1,5] 0 (.seq (.seq (.region [
 mV 14 5,
 oP 15 (.bin .add .num (.t 14) (cI 1)),
 mV 6 15])
 (kL [0,1,5,6] 0 (.block 0 (.loop (kL [0,1,5,6] 0 (.seq (.seq (.region [
 mV 16 6,
 mV 17 0,
 oP 18 (.len .sl (.t 17)),
 oP 19 (.bin .lss .num (.t 16) (.t 18))])
 (kL [0,1,5,6,19] 0 (.cond (.t 19)
 (.skip)
 (.exit 0))))
 (kL [0,1,5,6] 0 (.seq (.block 1 (.seq (.region [
 mV 22 0,
 mV 23 6,
 oP 24 (iA 3 22 23),
 oP 25 (.load (some 3) (.t 24)),
 oP 7 (.box true 3 (.c (.agg [(.int .i64 0),(.int .i64 0),(.int .i64 0)]))),
 oW (.store 3 (.t 7) (.t 25))])
 (kL [0,1,5,6,7] 1 (.seq (.region [
 mV 26 1,
 oP 27 (.load (some 3) (.t 7)),
 oP 28 (.dyn (.t 26) [(.t 27)]),
 oP 29 (.un .not (.t 28))])
 (kL [0,1,5,6,7,29] 1 (.cond (.t 29)
 (.seq (.region [
 mV 30 0,
 mV 31 5,
 oP 32 (.load (some 3) (.t 7)),
 oP 33 (iA 3 30 31),
 oW (.store 3 (.t 33) (.t 32))])
 (kL [0,1,5,6] 0 (.region [
 mV 34 5,
 oP 35 (.bin .add .num (.t 34) (cI 1)),
 mV 5 35])))
 (.skip)))))))
 (kL [0,1,5,6] 0 (.region [
 mV 20 6,
 oP 21 (.bin .add .num (.t 20) (cI 1)),
 mV 6 21]))))))))))
 (kL [0,5] 0 (.seq (.region [
 mV 36 0,
 mV 37 5,
 oP 38 (.slice 3 (.t 36) (some (.t 37)) none none),
 oW (.clear 3 [(.int .i64 0),(.int .i64 0),(.int .i64 0)] (.t 38))])
 (kL [0,5] 0 (.seq (.region [
 mV 39 0,
 mV 40 5,
 oP 41 (.slice 3 (.t 39) none (some (.t 40)) none),
 mV 4 41])
 (.ret)))))))))))⟩
def n305:NF:=⟨9,[4],
 .seq (.region [
 oP 4 (.mov (cB false))])
 (kL [0,1] 0 (.seq (.region [
 mV 5 0,
 mV 6 1,
 oP 7 (.call 327 [(.t 5),(.t 6)]),
 oP 8 (.bin .geq .num (.t 7) (cI 0)),
 mV 4 8])
 (.ret)))⟩
def n422:NF:=⟨32,[2],
 .seq (.region [
 oP 2 (.mov (.c (.c (.int .u64 0))))])
 (kL [0] 0 (.seq (.draw 0 [
 ⟨0,none,(mV 4 0),[]⟩,
 ⟨1,none,(oP 5 (.nilck (.t 4))),[]⟩,
 ⟨2,none,(oP 6 (.faddr 0 (.t 5))),[]⟩,
 ⟨3,none,(oP 7 (lD 6)),[]⟩,
 ⟨4,none,(mV 8 0),[]⟩,
 ⟨5,none,(oP 9 (.nilck (.t 8))),[]⟩,
 ⟨6,none,(oP 10 (.faddr 1 (.t 9))),[]⟩,
 ⟨7,none,(oP 11 (lD 10)),[]⟩,
 ⟨8,none,(oP 12 (.bin .quo .num (.t 11) (cI 8))),[]⟩,
 ⟨9,none,(oP 13 (iA 1 7 12)),[]⟩,
 ⟨10,none,(oP 14 (lD 13)),[]⟩,
 ⟨11,none,(mV 15 0),[]⟩,
 ⟨12,none,(oP 16 (.nilck (.t 15))),[]⟩,
 ⟨13,none,(oP 17 (.faddr 1 (.t 16))),[]⟩,
 ⟨14,none,(oP 18 (lD 17)),[]⟩,
 ⟨15,none,(oP 19 (.bin .rem .num (.t 18) (cI 8))),[]⟩,
 ⟨16,none,(oP 20 (.bin .sub .num (cI 7) (.t 19))),[]⟩,
 ⟨17,none,(oP 21 (.bin .shr .num (.t 14) (.t 20))),[]⟩,
 ⟨18,none,(oP 22 (.bin .and .num (.t 21) (.c (.c (.int .u8 1))))),[]⟩,
 ⟨19,none,(mV 3 22),[]⟩])
 (kL [0,3] 0 (.seq (.region [
 mV 23 0,
 oP 24 (.nilck (.t 23)),
 oP 25 (.faddr 1 (.t 24)),
 oP 26 (lD 25),
 oP 27 (.bin .add .num (.t 26) (cI 1)),
 oP 28 (.nilck (.t 23)),
 oP 29 (.faddr 1 (.t 28)),
 oW (.store 1 (.t 29) (.t 27))])
 (kL [3] 0 (.seq (.region [
 mV 30 3,
 oP 31 (.conv (.toInt .u64) (.t 30)),
 mV 2 31])
 (.ret)))))))⟩
def n423:NF:=⟨14,[],
 .region [
 mV 4 0,
 mV 5 0,
 mV 6 0,
 mV 7 1,
 oP 8 (.nilck (.t 4)),
 oP 9 (.faddr 2 (.t 8)),
 oW (.store 1 (.t 9) (.t 7)),
 oP 10 (.nilck (.t 5)),
 oP 11 (.faddr 0 (.t 10)),
 oW (.store 1 (.t 11) (.c (.c .nils))),
 oP 12 (.nilck (.t 6)),
 oP 13 (.faddr 1 (.t 12)),
 oW (.store 1 (.t 13) (cI 0))]⟩
def n424:NF:=⟨22,[4],
 .seq (.region [
 oP 4 (.mov (cB false))])
 (kL [0,1] 0 (.seq (.seq (.region [
 mV 6 0,
 oP 7 (.build [(.int .i64 0),(.int .i64 0),(.int .i64 0),(.int .i64 0),.nils] [(0,(1,(.t 6)))]),
 oP 8 (.call 320 [(.t 7)]),
 mV 5 8])
 (kL [1,5] 0 (.seq (.region [
 mV 9 5])
 (kL [1,9] 0 (.block 0 (.seq (.region [
 oP 10 (.assert 218 (.agg [(.int .i64 0),(.int .i64 0)]) (.t 9)),
 oP 11 (.ext (.t 10) 1),
 oP 12 (.ext (.t 10) 0)])
 (kL [1,9,11] 0 (.cond (.t 11)
 (.seq (.region [
 mV 13 1,
 oP 14 (.bin .eql .num (.t 13) (cI 6)),
 mV 4 14])
 (.ret))
 (.seq (.region [
 oP 15 (.assert 220 (.agg [(.int .i64 0)]) (.t 9)),
 oP 16 (.ext (.t 15) 1),
 oP 17 (.ext (.t 15) 0)])
 (kL [1,16] 0 (.cond (.t 16)
 (.seq (.region [
 mV 18 1,
 oP 19 (.bin .eql .num (.t 18) (cI 2)),
 mV 4 19])
 (.ret))
 (.skip))))))))))))
 (kL [1] 0 (.seq (.region [
 mV 20 1,
 oP 21 (.bin .leq .num (.t 20) (cI 16)),
 mV 4 21])
 (.ret)))))⟩
def n425b:Code:=
 .seq (.region [
 oP 6 (.box false 5 (.c (.agg [(.int .i64 0),(.int .i64 0),(.int .i64 0),(.int .i64 0),.nils])))])
 (kL [0,1,2,6] 0 (.seq (.region [
 mV 15 1,
 oP 16 (.build [(.int .i64 0),(.int .i64 0),(.int .i64 0),(.int .i64 0),.nils] [(0,(1,(.t 15)))]),
 oP 17 (.call 320 [(.t 16)]),
 mV 7 17])
 (kL [0,1,2,6,7] 0 (.seq (.seq (.region [
 mV 19 7,
 oP 20 (.assert 218 (.agg [(.int .i64 0),(.int .i64 0)]) (.t 19)),
 mV 18 20,
 oP 21 (.ext (.t 18) 0),
 oP 22 (.ext (.t 18) 1),
 oP 8 (.box true 2 (.c (.agg [(.int .i64 0),(.int .i64 0)]))),
 oW (.store 2 (.t 8) (.t 21)),
 mV 9 22])
 (kL [0,1,2,6,7,9] 0 (.seq (.region [
 mV 23 9])
 (kL [0,1,2,6,7,23] 0 (.cond (.t 23)
 (.seq (.region [
 mV 24 1,
 mV 25 0,
 oP 26 (.call 406 [(.t 25),(cI 40)]),
 oP 27 (.conv (.toInt .i64) (.t 26)),
 mV 28 0,
 oP 29 (.call 406 [(.t 28),(cI 8)]),
 oP 30 (.conv (.toInt .i64) (.t 29)),
 oP 31 (.build [(.int .i64 0),(.int .i64 0)] [(0,(1,(.t 27))),(1,(1,(.t 30)))]),
 oP 32 (.mkif 218 (.t 31)),
 oP 33 (.call 334 [(.t 24),(.t 32)]),
 oW (.store 5 (.t 6) (.t 33))])
 (.ret))
 (.skip))))))
 (kL [0,1,2,6,7] 0 (.seq (.seq (.region [
 mV 35 7,
 oP 36 (.assert 220 (.agg [(.int .i64 0)]) (.t 35)),
 mV 34 36,
 oP 37 (.ext (.t 34) 0),
 oP 38 (.ext (.t 34) 1),
 oP 10 (.box true 1 (.c (.agg [(.int .i64 0)]))),
 oW (.store 1 (.t 10) (.t 37)),
 mV 11 38])
 (kL [0,1,2,6,11] 0 (.seq (.region [
 mV 39 11])
 (kL [0,1,2,6,39] 0 (.cond (.t 39)
 (.seq (.region [
 mV 40 1,
 mV 41 0,
 oP 42 (.call 406 [(.t 41),(cI 16)]),
 oP 43 (.conv (.toInt .i16) (.t 42)),
 oP 44 (.conv (.toInt .i64) (.t 43)),
 oP 45 (.build [(.int .i64 0)] [(0,(1,(.t 44)))]),
 oP 46 (.mkif 220 (.t 45)),
 oP 47 (.call 334 [(.t 40),(.t 46)]),
 oW (.store 5 (.t 6) (.t 47))])
 (.ret))
 (.skip))))))
 (kL [0,1,2,6] 0 (.seq (.region [
 oP 12 (.mov (.c (.c .nils)))])
 (kL [0,1,2,6,12] 0 (.seq (.seq (.region [
 mV 48 0,
 mV 49 2,
 oP 50 (.call 397 [(.t 48),(.t 49)]),
 oP 51 (.len .sl (.t 50)),
 oP 52 (.mov (cI 0))])
 (kL [1,6,12,50,51,52] 0 (.block 0 (.loop (kL [1,6,12,50,51,52] 0 (.seq (.region [
 oP 53 (.bin .lss .num (.t 52) (.t 51))])
 (kL [1,6,12,50,51,52,53] 0 (.seq (.cond (.t 53)
 (.skip)
 (.exit 0))
 (kL [1,6,12,50,51,52] 0 (.seq (.block 1 (.seq (.region [
 oP 54 (iA 1 50 52),
 oP 55 (lD 54),
 mV 14 55])
 (kL [1,6,12,14,50,51,52] 0 (.region [
 mV 56 12,
 mV 57 14,
 oP 58 (.conv (.toInt .i64) (.t 57)),
 oP 59 (.bslice true 1 1 [(.int .i64 0)] [(0,(1,(.t 58)))]),
 oP 60 (.app 1 8 (.t 56) (.t 59)),
 mV 12 60]))))
 (kL [1,6,12,50,51,52] 0 (.region [
 oP 61 (.bin .add .num (.t 52) (cI 1)),
 mV 52 61]))))))))))))
 (kL [1,6,12] 0 (.seq (.region [
 mV 62 1,
 mV 63 12,
 oP 64 (.build [.nils] [(0,(1,(.t 63)))]),
 oP 65 (.mkif 222 (.t 64)),
 oP 66 (.call 334 [(.t 62),(.t 65)]),
 oW (.store 5 (.t 6) (.t 66))])
 (.ret)))))))))))))
def n425:NF:=⟨67,[6],.fin n425b [⟨some 6,.load (some 5) (.t 6),none⟩]⟩
def n329:NF:=⟨19,[4],
 .seq (.region [
 oP 4 (.mov (cI 0))])
 (kL [0,1] 0 (.seq (.seq (.region [
 mV 6 0,
 oP 7 (.len .sl (.t 6)),
 oP 8 (.mov (cI 0))])
 (kL [0,1,7,8] 0 (.block 0 (.loop (kL [0,1,7,8] 0 (.seq (.region [
 oP 9 (.bin .lss .num (.t 8) (.t 7))])
 (kL [0,1,7,8,9] 0 (.seq (.cond (.t 9)
 (.skip)
 (.exit 0))
 (kL [0,1,7,8] 0 (.seq (.block 1 (.seq (.region [
 mV 10 8,
 mV 5 10])
 (kL [0,1,5,7,8] 0 (.seq (.region [
 mV 11 1,
 mV 12 0,
 mV 13 5,
 oP 14 (iA 5 12 13),
 oP 15 (.load (some 5) (.t 14)),
 oP 16 (.dyn (.t 11) [(.t 15)])])
 (kL [0,1,5,7,8,16] 0 (.cond (.t 16)
 (.seq (.region [
 mV 17 5,
 mV 4 17])
 (.ret))
 (.skip)))))))
 (kL [0,1,7,8] 0 (.region [
 oP 18 (.bin .add .num (.t 8) (cI 1)),
 mV 8 18]))))))))))))
 (kL [] 0 (.seq (.region [
 oP 4 (.mov (cI (-1)))])
 (.ret)))))⟩
def n335:NF:=⟨38,[4],
 .seq (.region [
 oP 2 (.box true 5 (.t 0)),
 oP 3 (.box true 5 (.t 1)),
 oP 4 (.mov (cB false))])
 (kL [2,3] 2 (.seq (.region [
 oP 5 (.faddr 0 (.t 2)),
 oP 6 (lD 5),
 oP 7 (.faddr 0 (.t 3)),
 oP 8 (lD 7),
 oP 9 (.bin .eql .num (.t 6) (.t 8)),
 mV 10 9,
 oG 11 (.faddr 1 (.t 2)) 10 true,
 oG 12 (lD 11) 10 true,
 oG 13 (.faddr 1 (.t 3)) 10 true,
 oG 14 (lD 13) 10 true,
 oG 15 (.bin .eql .num (.t 12) (.t 14)) 10 true,
 oP 16 (.pick (.t 10) (.t 15) (cB false)),
 mV 17 16,
 oG 18 (.faddr 2 (.t 2)) 17 true,
 oG 19 (lD 18) 17 true,
 oG 20 (.faddr 2 (.t 3)) 17 true,
 oG 21 (lD 20) 17 true,
 oG 22 (.bin .eql .num (.t 19) (.t 21)) 17 true,
 oP 23 (.pick (.t 17) (.t 22) (cB false)),
 mV 24 23,
 oG 25 (.faddr 3 (.t 2)) 24 true,
 oG 26 (lD 25) 24 true,
 oG 27 (.faddr 3 (.t 3)) 24 true,
 oG 28 (lD 27) 24 true,
 oG 29 (.bin .eql .num (.t 26) (.t 28)) 24 true,
 oP 30 (.pick (.t 24) (.t 29) (cB false)),
 mV 31 30,
 oG 32 (.faddr 4 (.t 2)) 31 true,
 oG 33 (lD 32) 31 true,
 oG 34 (.faddr 4 (.t 3)) 31 true,
 oG 35 (lD 34) 31 true,
 oG 36 (.call 337 [(.t 33),(.t 35)]) 31 true,
 oP 37 (.pick (.t 31) (.t 36) (cB false)),
 mV 4 37])
 (.ret)))⟩
def n334b:Code:=
 .seq (.region [
 oP 4 (.box false 5 (.c (.agg [(.int .i64 0),(.int .i64 0),(.int .i64 0),(.int .i64 0),.nils])))])
 (kL [0,1,4] 0 (.seq (.region [
 mV 12 0,
 oP 13 (.build [(.int .i64 0),(.int .i64 0),(.int .i64 0),(.int .i64 0),.nils] [(0,(1,(.t 12)))]),
 oP 5 (.box true 5 (.c (.agg [(.int .i64 0),(.int .i64 0),(.int .i64 0),(.int .i64 0),.nils]))),
 oW (.store 5 (.t 5) (.t 13))])
 (kL [1,4,5] 1 (.seq (.seq (.region [
 mV 15 1,
 oP 16 (.assert 218 (.agg [(.int .i64 0),(.int .i64 0)]) (.t 15)),
 mV 14 16,
 oP 17 (.ext (.t 14) 0),
 oP 18 (.ext (.t 14) 1),
 oP 6 (.box true 2 (.c (.agg [(.int .i64 0),(.int .i64 0)]))),
 oW (.store 2 (.t 6) (.t 17)),
 mV 7 18])
 (kL [1,4,5,6,7] 2 (.seq (.region [
 mV 19 7])
 (kL [1,4,5,6,19] 2 (.cond (.t 19)
 (.draw 0 [
 ⟨0,none,(oP 20 (.faddr 0 (.t 6))),[]⟩,
 ⟨1,none,(oP 21 (lD 20)),[]⟩,
 ⟨2,none,(oP 22 (.faddr 1 (.t 6))),[]⟩,
 ⟨3,none,(oP 23 (lD 22)),[]⟩,
 ⟨4,none,(oP 24 (.faddr 1 (.t 5))),[]⟩,
 ⟨5,none,(oW (.store 1 (.t 24) (.t 21))),[(3,(oP 23 (lD 22)))]⟩,
 ⟨6,none,(oP 25 (.faddr 2 (.t 5))),[]⟩,
 ⟨7,none,(oW (.store 1 (.t 25) (.t 23))),[]⟩])
 (.skip))))))
 (kL [1,4,5] 1 (.seq (.seq (.region [
 mV 27 1,
 oP 28 (.assert 220 (.agg [(.int .i64 0)]) (.t 27)),
 mV 26 28,
 oP 29 (.ext (.t 26) 0),
 oP 30 (.ext (.t 26) 1),
 oP 8 (.box true 1 (.c (.agg [(.int .i64 0)]))),
 oW (.store 1 (.t 8) (.t 29)),
 mV 9 30])
 (kL [1,4,5,8,9] 2 (.seq (.region [
 mV 31 9])
 (kL [1,4,5,8,31] 2 (.cond (.t 31)
 (.region [
 oP 32 (.faddr 0 (.t 8)),
 oP 33 (lD 32),
 oP 34 (.faddr 3 (.t 5)),
 oW (.store 1 (.t 34) (.t 33))])
 (.skip))))))
 (kL [1,4,5] 1 (.seq (.seq (.region [
 mV 36 1,
 oP 37 (.assert 222 (.agg [.nils]) (.t 36)),
 mV 35 37,
 oP 38 (.ext (.t 35) 0),
 oP 39 (.ext (.t 35) 1),
 oP 10 (.box true 1 (.c (.agg [.nils]))),
 oW (.store 1 (.t 10) (.t 38)),
 mV 11 39])
 (kL [4,5,10,11] 2 (.seq (.region [
 mV 40 11])
 (kL [4,5,10,40] 2 (.cond (.t 40)
 (.region [
 oP 41 (.faddr 0 (.t 10)),
 oP 42 (lD 41),
 oP 43 (.faddr 4 (.t 5)),
 oW (.store 1 (.t 43) (.t 42))])
 (.skip))))))
 (kL [4,5] 1 (.seq (.region [
 oP 44 (.load (some 5) (.t 5)),
 oW (.store 5 (.t 4) (.t 44))])
 (.ret)))))))))))
def n334:NF:=⟨45,[4],.fin n334b [⟨some 4,.load (some 5) (.t 4),none⟩]⟩
def n85:NF:=⟨148,[],
 .seq (.region [
 oP 10 (.mov (cB true))])
 (kL [0,1,2,3,4,10] 0 (.seq (.region [
 oP 11 (.mov (cB true))])
 (kL [0,1,2,3,4,10,11] 0 (.block 0 (.loop (kL [0,1,2,3,4,10,11] 0 (.block 1 (.seq (.region [
 mV 21 2,
 mV 22 1,
 oP 23 (.bin .sub .num (.t 21) (.t 22)),
 mV 12 23])
 (kL [0,1,2,3,4,10,11,12] 0 (.seq (.seq (.region [
 mV 24 12,
 oP 25 (.bin .leq .num (.t 24) (cI 12))])
 (kL [0,1,2,3,4,10,11,12,25] 0 (.cond (.t 25)
 (.seq (.region [
 mV 26 0,
 mV 27 1,
 mV 28 2,
 mV 29 4,
 oP 30 (.call 99 [(.t 26),(.t 27),(.t 28),(.t 29)])])
 (.ret))
 (.skip))))
 (kL [0,1,2,3,4,10,11,12] 0 (.seq (.seq (.region [
 mV 31 3,
 oP 32 (.bin .eql .num (.t 31) (cI 0))])
 (kL [0,1,2,3,4,10,11,12,32] 0 (.cond (.t 32)
 (.seq (.region [
 mV 33 0,
 mV 34 1,
 mV 35 2,
 mV 36 4,
 oP 37 (.call 1000000 [(.t 33),(.t 34),(.t 35),(.t 36)])])
 (.ret))
 (.skip))))
 (kL [0,1,2,3,4,10,11,12] 0 (.seq (.seq (.region [
 mV 38 10,
 oP 39 (.un .not (.t 38))])
 (kL [0,1,2,3,4,10,11,12,39] 0 (.cond (.t 39)
 (.seq (.region [
 mV 40 0,
 mV 41 1,
 mV 42 2,
 mV 43 4,
 oP 44 (.call 1000000 [(.t 40),(.t 41),(.t 42),(.t 43)])])
 (kL [0,1,2,3,4,10,11,12] 0 (.region [
 mV 45 3,
 oP 46 (.bin .sub .num (.t 45) (cI 1)),
 mV 3 46])))
 (.skip))))
 (kL [0,1,2,3,4,10,11,12] 0 (.seq (.region [
 mV 48 0,
 mV 49 1,
 mV 50 2,
 mV 51 4,
 oP 52 (.call 1000000 [(.t 48),(.t 49),(.t 50),(.t 51)]),
 mV 47 52,
 oP 53 (.ext (.t 47) 0),
 oP 54 (.ext (.t 47) 1),
 mV 13 53,
 mV 14 54])
 (kL [0,1,2,3,4,10,11,12,13,14] 0 (.seq (.seq (.region [
 mV 55 14,
 oP 56 (.bin .eql .num (.t 55) (cI 2))])
 (kL [0,1,2,3,4,10,11,12,13,14,56] 0 (.cond (.t 56)
 (.seq (.region [
 mV 57 0,
 mV 58 1,
 mV 59 2,
 mV 60 4,
 oP 61 (.call 1000000 [(.t 57),(.t 58),(.t 59),(.t 60)])])
 (kL [0,1,2,3,4,10,11,12,13] 0 (.seq (.region [
 mV 62 2,
 oP 63 (.bin .sub .num (.t 62) (cI 1)),
 mV 64 13,
 mV 65 1,
 oP 66 (.bin .sub .num (.t 64) (.t 65)),
 oP 67 (.bin .sub .num (.t 63) (.t 66)),
 mV 13 67])
 (kL [0,1,2,3,4,10,11,12,13] 0 (.region [
 oP 14 (.mov (cI 1))])))))
 (.skip))))
 (kL [0,1,2,3,4,10,11,12,13,14] 0 (.seq (.seq (.region [
 mV 68 10,
 mV 69 68,
 mG 70 11 69 true,
 oP 71 (.pick (.t 69) (.t 70) (cB false)),
 mV 72 71,
 mG 73 14 72 true,
 oG 74 (.bin .eql .num (.t 73) (cI 1)) 72 true,
 oP 75 (.pick (.t 72) (.t 74) (cB false))])
 (kL [0,1,2,3,4,10,11,12,13,75] 0 (.cond (.t 75)
 (.seq (.region [
 mV 76 0,
 mV 77 1,
 mV 78 2,
 mV 79 4,
 oP 80 (.call 1000000 [(.t 76),(.t 77),(.t 78),(.t 79)])])
 (kL [0,1,2,3,4,10,11,12,13,80] 0 (.cond (.t 80)
 (.ret)
 (.skip))))
 (.skip))))
 (kL [0,1,2,3,4,10,11,12,13] 0 (.seq (.seq (.draw 0 [
 ⟨0,none,(mV 81 1),[]⟩,
 ⟨1,none,(oP 82 (.bin .gtr .num (.t 81) (cI 0))),[]⟩,
 ⟨2,none,(mV 83 82),[]⟩,
 ⟨3,none,(mG 84 4 83 true),[]⟩,
 ⟨4,none,(mG 85 0 83 true),[]⟩,
 ⟨5,none,(mG 86 1 83 true),[]⟩,
 ⟨6,none,(oG 87 (.bin .sub .num (.t 86) (cI 1)) 83 true),[]⟩,
 ⟨7,none,(oG 88 (iA 3 85 87) 83 true),[]⟩,
 ⟨8,none,(oG 89 (.load (some 3) (.t 88)) 83 true),[]⟩,
 ⟨9,none,(mG 90 0 83 true),[]⟩,
 ⟨10,none,(mG 91 13 83 true),[]⟩,
 ⟨11,none,(oG 92 (iA 3 90 91) 83 true),[]⟩,
 ⟨12,none,(oG 93 (.load (some 3) (.t 92)) 83 true),[]⟩,
 ⟨13,none,(oG 94 (.dyn (.t 84) [(.t 89),(.t 93)]) 83 true),[]⟩,
 ⟨14,none,(oG 95 (.bin .lss .num (.t 94) (cI 0)) 83 true),[]⟩,
 ⟨15,none,(oG 96 (.un .not (.t 95)) 83 true),[]⟩,
 ⟨16,none,(oP 97 (.pick (.t 83) (.t 96) (cB false))),[]⟩])
 (kL [0,1,2,3,4,10,11,12,13,97] 0 (.cond (.t 97)
 (.seq (.region [
 mV 98 0,
 mV 99 1,
 mV 100 2,
 mV 101 13,
 mV 102 4,
 oP 103 (.call 1000000 [(.t 98),(.t 99),(.t 100),(.t 101),(.t 102)]),
 mV 15 103])
 (kL [0,2,3,4,10,11,15] 0 (.seq (.region [
 mV 104 15,
 mV 1 104])
 (.exit 1))))
 (.skip))))
 (kL [0,1,2,3,4,12,13] 0 (.seq (.region [
 mV 106 0,
 mV 107 1,
 mV 108 2,
 mV 109 13,
 mV 110 4,
 oP 111 (.call 1000000 [(.t 106),(.t 107),(.t 108),(.t 109),(.t 110)]),
 mV 105 111,
 oP 112 (.ext (.t 105) 0),
 oP 113 (.ext (.t 105) 1),
 mV 16 112,
 mV 17 113])
 (kL [0,1,2,3,4,12,16,17] 0 (.seq (.region [
 mV 114 17,
 mV 11 114])
 (kL [0,1,2,3,4,11,12,16] 0 (.seq (.region [
 mV 115 16,
 mV 116 1,
 oP 117 (.bin .sub .num (.t 115) (.t 116)),
 mV 118 2,
 mV 119 16,
 oP 120 (.bin .sub .num (.t 118) (.t 119)),
 mV 18 117,
 mV 19 120])
 (kL [0,1,2,3,4,11,12,16,18,19] 0 (.seq (.region [
 mV 121 12,
 oP 122 (.bin .quo .num (.t 121) (cI 8)),
 mV 20 122])
 (kL [0,1,2,3,4,11,16,18,19,20] 0 (.seq (.region [
 mV 123 18,
 mV 124 19,
 oP 125 (.bin .lss .num (.t 123) (.t 124))])
 (kL [0,1,2,3,4,11,16,18,19,20,125] 0 (.cond (.t 125)
 (.seq (.region [
 mV 126 18,
 mV 127 20,
 oP 128 (.bin .geq .num (.t 126) (.t 127)),
 mV 10 128])
 (kL [0,1,2,3,4,10,11,16] 0 (.seq (.region [
 mV 129 0,
 mV 130 1,
 mV 131 16,
 mV 132 3,
 mV 133 4,
 oP 134 (.call 85 [(.t 129),(.t 130),(.t 131),(.t 132),(.t 133)])])
 (kL [0,2,3,4,10,11,16] 0 (.region [
 mV 135 16,
 oP 136 (.bin .add .num (.t 135) (cI 1)),
 mV 1 136])))))
 (.seq (.region [
 mV 137 19,
 mV 138 20,
 oP 139 (.bin .geq .num (.t 137) (.t 138)),
 mV 10 139])
 (kL [0,1,2,3,4,10,11,16] 0 (.seq (.region [
 mV 140 0,
 mV 141 16,
 oP 142 (.bin .add .num (.t 141) (cI 1)),
 mV 143 2,
 mV 144 3,
 mV 145 4,
 oP 146 (.call 85 [(.t 140),(.t 142),(.t 143),(.t 144),(.t 145)])])
 (kL [0,1,3,4,10,11,16] 0 (.region [
 mV 147 16,
 mV 2 147])))))))))))))))))))))))))))))))))))))))⟩
def n86:NF:=⟨18,[2],
 .seq (.region [
 oP 2 (.mov (cI 0))])
 (kL [0] 0 (.seq (.region [
 oP 3 (.mov (cI 0))])
 (kL [0,3] 0 (.seq (.seq (.region [
 mV 6 0,
 oP 7 (.len .sl (.t 6)),
 oP 8 (.mov (cI 0))])
 (kL [3,6,7,8] 0 (.block 0 (.loop (kL [3,6,7,8] 0 (.seq (.region [
 oP 9 (.bin .lss .num (.t 8) (.t 7))])
 (kL [3,6,7,8,9] 0 (.seq (.cond (.t 9)
 (.skip)
 (.exit 0))
 (kL [3,6,7,8] 0 (.seq (.block 1 (.seq (.region [
 oP 10 (iA 1 6 8),
 oP 11 (lD 10),
 mV 5 11])
 (kL [3,5,6,7,8] 0 (.seq (.region [
 mV 12 5,
 mV 13 3,
 oP 14 (.bin .neq .num (.t 12) (.t 13))])
 (kL [3,5,6,7,8,14] 0 (.cond (.t 14)
 (.seq (.region [
 mV 15 5,
 mV 2 15])
 (.ret))
 (.skip)))))))
 (kL [3,6,7,8] 0 (.region [
 oP 16 (.bin .add .num (.t 8) (cI 1)),
 mV 8 16]))))))))))))
 (kL [3] 0 (.seq (.region [
 mV 17 3,
 mV 2 17])
 (.ret)))))))⟩
def n46:NF:=⟨20,[4],
 .seq (.region [
 oP 4 (.mov (cI 0))])
 (kL [0,1] 0 (.seq (.region [
 mV 7 0,
 oP 8 (.call 47 [(.t 7)]),
 mV 5 8])
 (kL [0,1,5] 0 (.seq (.region [
 mV 9 1,
 oP 10 (.call 47 [(.t 9)]),
 mV 6 10])
 (kL [0,1,5,6] 0 (.seq (.seq (.region [
 mV 11 5])
 (kL [0,1,6,11] 0 (.cond (.t 11)
 (.seq (.seq (.region [
 mV 12 6])
 (kL [12] 0 (.cond (.t 12)
 (.seq (.region [
 oP 4 (.mov (cI 0))])
 (.ret))
 (.skip))))
 (kL [] 0 (.seq (.region [
 oP 4 (.mov (cI (-1)))])
 (.ret))))
 (.skip))))
 (kL [0,1,6] 0 (.seq (.seq (.region [
 mV 13 6])
 (kL [0,1,13] 0 (.cond (.t 13)
 (.seq (.region [
 oP 4 (.mov (cI 1))])
 (.ret))
 (.skip))))
 (kL [0,1] 0 (.seq (.seq (.region [
 mV 14 0,
 mV 15 1,
 oP 16 (.bin .lss .num (.t 14) (.t 15))])
 (kL [0,1,16] 0 (.cond (.t 16)
 (.seq (.region [
 oP 4 (.mov (cI (-1)))])
 (.ret))
 (.skip))))
 (kL [0,1] 0 (.seq (.seq (.region [
 mV 17 0,
 mV 18 1,
 oP 19 (.bin .gtr .num (.t 17) (.t 18))])
 (kL [19] 0 (.cond (.t 19)
 (.seq (.region [
 oP 4 (.mov (cI 1))])
 (.ret))
 (.skip))))
 (kL [] 0 (.seq (.region [
 oP 4 (.mov (cI 0))])
 (.ret)))))))))))))))⟩
def n338:NF:=⟨9,[4],
 .seq (.region [
 oP 4 (.mov (cB false))])
 (kL [0,1] 0 (.seq (.region [
 mV 5 0,
 mV 6 1,
 oP 7 (.call 328 [(.t 5),(.t 6)]),
 oP 8 (.bin .geq .num (.t 7) (cI 0)),
 mV 4 8])
 (.ret)))⟩
def n328:NF:=⟨19,[4],
 .seq (.region [
 oP 4 (.mov (cI 0))])
 (kL [0,1] 0 (.seq (.seq (.region [
 mV 6 0,
 oP 7 (.len .sl (.t 6)),
 oP 8 (.mov (cI 0))])
 (kL [0,1,7,8] 0 (.block 0 (.loop (kL [0,1,7,8] 0 (.seq (.region [
 oP 9 (.bin .lss .num (.t 8) (.t 7))])
 (kL [0,1,7,8,9] 0 (.seq (.cond (.t 9)
 (.skip)
 (.exit 0))
 (kL [0,1,7,8] 0 (.seq (.block 1 (.seq (.region [
 mV 10 8,
 mV 5 10])
 (kL [0,1,5,7,8] 0 (.seq (.region [
 mV 11 1,
 mV 12 0,
 mV 13 5,
 oP 14 (iA 1 12 13),
 oP 15 (lD 14),
 oP 16 (.dyn (.t 11) [(.t 15)])])
 (kL [0,1,5,7,8,16] 0 (.cond (.t 16)
 (.seq (.region [
 mV 17 5,
 mV 4 17])
 (.ret))
 (.skip)))))))
 (kL [0,1,7,8] 0 (.region [
 oP 18 (.bin .add .num (.t 8) (cI 1)),
 mV 8 18]))))))))))))
 (kL [] 0 (.seq (.region [
 oP 4 (.mov (cI (-1)))])
 (.ret)))))⟩
def n87:NF:=⟨49,[],
 .seq (.region [
 mV 8 1,
 oP 9 (.bin .add .num (.t 8) (cI 1)),
 mV 6 9])
 (kL [0,1,2,6] 0 (.block 0 (.loop (kL [0,1,2,6] 0 (.seq (.seq (.region [
 mV 10 6,
 mV 11 2,
 oP 12 (.bin .lss .num (.t 10) (.t 11))])
 (kL [0,1,2,6,12] 0 (.cond (.t 12)
 (.skip)
 (.exit 0))))
 (kL [0,1,2,6] 0 (.seq (.block 1 (.seq (.region [
 mV 15 6,
 mV 7 15])
 (kL [0,1,2,6,7] 0 (.block 2 (.loop (kL [0,1,2,6,7] 0 (.seq (.seq (.draw 0 [
 ⟨0,none,(mV 16 7),[]⟩,
 ⟨1,none,(mV 17 1),[]⟩,
 ⟨2,none,(oP 18 (.bin .gtr .num (.t 16) (.t 17))),[]⟩,
 ⟨3,none,(mV 19 18),[]⟩,
 ⟨4,none,(mG 20 0 19 true),[]⟩,
 ⟨5,none,(mG 21 7 19 true),[]⟩,
 ⟨6,none,(oG 22 (iA 1 20 21) 19 true),[]⟩,
 ⟨7,none,(oG 23 (lD 22) 19 true),[]⟩,
 ⟨8,none,(mG 24 0 19 true),[]⟩,
 ⟨9,none,(mG 25 7 19 true),[]⟩,
 ⟨10,none,(oG 26 (.bin .sub .num (.t 25) (cI 1)) 19 true),[]⟩,
 ⟨11,none,(oG 27 (iA 1 24 26) 19 true),[]⟩,
 ⟨12,none,(oG 28 (lD 27) 19 true),[]⟩,
 ⟨13,none,(oG 29 (.call 93 [(.t 23),(.t 28)]) 19 true),[]⟩,
 ⟨14,none,(oP 30 (.pick (.t 19) (.t 29) (cB false))),[]⟩])
 (kL [0,1,2,6,7,30] 0 (.cond (.t 30)
 (.skip)
 (.exit 2))))
 (kL [0,1,2,6,7] 0 (.seq (.block 3 (.draw 0 [
 ⟨0,none,(mV 33 0),[]⟩,
 ⟨1,none,(mV 34 7),[]⟩,
 ⟨2,none,(mV 35 0),[]⟩,
 ⟨3,none,(mV 36 7),[]⟩,
 ⟨4,none,(oP 37 (.bin .sub .num (.t 36) (cI 1))),[]⟩,
 ⟨5,none,(mV 38 0),[]⟩,
 ⟨6,none,(mV 39 7),[]⟩,
 ⟨7,none,(oP 40 (.bin .sub .num (.t 39) (cI 1))),[]⟩,
 ⟨8,none,(oP 41 (iA 1 38 40)),[]⟩,
 ⟨9,none,(oP 42 (lD 41)),[]⟩,
 ⟨10,none,(mV 43 0),[]⟩,
 ⟨11,none,(mV 44 7),[]⟩,
 ⟨12,none,(oP 45 (iA 1 43 44)),[]⟩,
 ⟨13,none,(oP 46 (lD 45)),[]⟩,
 ⟨14,none,(oP 47 (iA 1 33 34)),[]⟩,
 ⟨15,none,(oW (.store 1 (.t 47) (.t 42))),[]⟩,
 ⟨16,none,(oP 48 (iA 1 35 37)),[]⟩,
 ⟨17,none,(oW (.store 1 (.t 48) (.t 46))),[]⟩]))
 (kL [0,1,2,6,7] 0 (.region [
 mV 31 7,
 oP 32 (.bin .sub .num (.t 31) (cI 1)),
 mV 7 32])))))))))))
 (kL [0,1,2,6] 0 (.region [
 mV 13 6,
 oP 14 (.bin .add .num (.t 13) (cI 1)),
 mV 6 14])))))))))⟩
def n93:NF:=⟨17,[4],
 .seq (.region [
 oP 4 (.mov (cB false))])
 (kL [0,1] 0 (.seq (.region [
 mV 5 0,
 oP 6 (.call 47 [(.t 5)]),
 mV 7 6,
 mG 8 1 7 true,
 oG 9 (.call 47 [(.t 8)]) 7 true,
 oG 10 (.un .not (.t 9)) 7 true,
 oP 11 (.pick (.t 7) (.t 10) (cB false)),
 mV 12 11,
 mG 13 0 12 false,
 mG 14 1 12 false,
 oG 15 (.bin .lss .num (.t 13) (.t 14)) 12 false,
 oP 16 (.pick (.t 12) (cB true) (.t 15)),
 mV 4 16])
 (.ret)))⟩
def n97:NF:=⟨25,[2],
 .seq (.region [
 oP 2 (.mov (cI 0))])
 (kL [0,2] 0 (.seq (.seq (.region [
 mV 3 0,
 oP 4 (.bin .geq .num (.t 3) (.c (.c (.int .u64 4294967296))))])
 (kL [0,2,4] 0 (.cond (.t 4)
 (.seq (.region [
 mV 5 0,
 oP 6 (.bin .shr .num (.t 5) (.c (.c (.int .u64 32)))),
 mV 0 6])
 (kL [0] 0 (.region [
 oP 2 (.mov (cI 32))])))
 (.skip))))
 (kL [0,2] 0 (.seq (.seq (.region [
 mV 7 0,
 oP 8 (.bin .geq .num (.t 7) (.c (.c (.int .u64 65536))))])
 (kL [0,2,8] 0 (.cond (.t 8)
 (.seq (.region [
 mV 9 0,
 oP 10 (.bin .shr .num (.t 9) (.c (.c (.int .u64 16)))),
 mV 0 10])
 (kL [0,2] 0 (.region [
 mV 11 2,
 oP 12 (.bin .add .num (.t 11) (cI 16)),
 mV 2 12])))
 (.skip))))
 (kL [0,2] 0 (.seq (.seq (.region [
 mV 13 0,
 oP 14 (.bin .geq .num (.t 13) (.c (.c (.int .u64 256))))])
 (kL [0,2,14] 0 (.cond (.t 14)
 (.seq (.region [
 mV 15 0,
 oP 16 (.bin .shr .num (.t 15) (.c (.c (.int .u64 8)))),
 mV 0 16])
 (kL [0,2] 0 (.region [
 mV 17 2,
 oP 18 (.bin .add .num (.t 17) (cI 8)),
 mV 2 18])))
 (.skip))))
 (kL [0,2] 0 (.seq (.region [
 mV 19 2,
 mV 20 0,
 oP 21 (.conv (.toInt .u8) (.t 20)),
 oP 22 (.indexS (.c (.c (.str (bs [0,1,2,2,3,3,3,3,4,4,4,4,4,4,4,4,5,5,5,5,5,5,5,5,5,5,5,5,5,5,5,5,6,6,6,6,6,6,6,6,6,6,6,6,6,6,6,6,6,6,6,6,6,6,6,6,6,6,6,6,6,6,6,6,7,7,7,7,7,7,7,7,7,7,7,7,7,7,7,7,7,7,7,7,7,7,7,7,7,7,7,7,7,7,7,7,7,7,7,7,7,7,7,7,7,7,7,7,7,7,7,7,7,7,7,7,7,7,7,7,7,7,7,7,7,7,7,7,8,8,8,8,8,8,8,8,8,8,8,8,8,8,8,8,8,8,8,8,8,8,8,8,8,8,8,8,8,8,8,8,8,8,8,8,8,8,8,8,8,8,8,8,8,8,8,8,8,8,8,8,8,8,8,8,8,8,8,8,8,8,8,8,8,8,8,8,8,8,8,8,8,8,8,8,8,8,8,8,8,8,8,8,8,8,8,8,8,8,8,8,8,8,8,8,8,8,8,8,8,8,8,8,8,8,8,8,8,8,8,8,8,8,8,8,8,8,8,8,8,8,8,8,8,8,8,8])))) (.t 21)),
 oP 23 (.conv (.toInt .i64) (.t 22)),
 oP 24 (.bin .add .num (.t 19) (.t 23)),
 mV 2 24])
 (.ret)))))))))⟩
def n98:NF:=⟨19,[4],
 .seq (.region [
 oP 4 (.mov (cI 0))])
 (kL [0,1] 0 (.seq (.seq (.region [
 mV 6 0,
 oP 7 (.len .sl (.t 6)),
 oP 8 (.mov (cI 0))])
 (kL [0,1,7,8] 0 (.block 0 (.loop (kL [0,1,7,8] 0 (.seq (.region [
 oP 9 (.bin .lss .num (.t 8) (.t 7))])
 (kL [0,1,7,8,9] 0 (.seq (.cond (.t 9)
 (.skip)
 (.exit 0))
 (kL [0,1,7,8] 0 (.seq (.block 1 (.seq (.region [
 mV 10 8,
 mV 5 10])
 (kL [0,1,5,7,8] 0 (.seq (.region [
 mV 11 1,
 mV 12 0,
 mV 13 5,
 oP 14 (iA 3 12 13),
 oP 15 (.load (some 3) (.t 14)),
 oP 16 (.dyn (.t 11) [(.t 15)])])
 (kL [0,1,5,7,8,16] 0 (.cond (.t 16)
 (.seq (.region [
 mV 17 5,
 mV 4 17])
 (.ret))
 (.skip)))))))
 (kL [0,1,7,8] 0 (.region [
 oP 18 (.bin .add .num (.t 8) (cI 1)),
 mV 8 18]))))))))))))
 (kL [] 0 (.seq (.region [
 oP 4 (.mov (cI (-1)))])
 (.ret)))))⟩
def n327:NF:=⟨19,[4],
 .seq (.region [
 oP 4 (.mov (cI 0))])
 (kL [0,1] 0 (.seq (.seq (.region [
 mV 6 0,
 oP 7 (.len .sl (.t 6)),
 oP 8 (.mov (cI 0))])
 (kL [0,1,7,8] 0 (.block 0 (.loop (kL [0,1,7,8] 0 (.seq (.region [
 oP 9 (.bin .lss .num (.t 8) (.t 7))])
 (kL [0,1,7,8,9] 0 (.seq (.cond (.t 9)
 (.skip)
 (.exit 0))
 (kL [0,1,7,8] 0 (.seq (.block 1 (.seq (.region [
 mV 10 8,
 mV 5 10])
 (kL [0,1,5,7,8] 0 (.seq (.region [
 mV 11 1,
 mV 12 0,
 mV 13 5,
 oP 14 (iA 1 12 13),
 oP 15 (lD 14),
 oP 16 (.bin .eql .num (.t 11) (.t 15))])
 (kL [0,1,5,7,8,16] 0 (.cond (.t 16)
 (.seq (.region [
 mV 17 5,
 mV 4 17])
 (.ret))
 (.skip)))))))
 (kL [0,1,7,8] 0 (.region [
 oP 18 (.bin .add .num (.t 8) (cI 1)),
 mV 8 18]))))))))))))
 (kL [] 0 (.seq (.region [
 oP 4 (.mov (cI (-1)))])
 (.ret)))))⟩
def n337:NF:=⟨26,[4],
 .seq (.region [
 oP 4 (.mov (cB false))])
 (kL [0,1] 0 (.seq (.seq (.region [
 mV 6 0,
 oP 7 (.len .sl (.t 6)),
 mV 8 1,
 oP 9 (.len .sl (.t 8)),
 oP 10 (.bin .neq .num (.t 7) (.t 9))])
 (kL [0,1,10] 0 (.cond (.t 10)
 (.seq (.region [
 oP 4 (.mov (cB false))])
 (.ret))
 (.skip))))
 (kL [0,1] 0 (.seq (.seq (.region [
 mV 11 0,
 oP 12 (.len .sl (.t 11)),
 oP 13 (.mov (cI 0))])
 (kL [0,1,12,13] 0 (.block 0 (.loop (kL [0,1,12,13] 0 (.seq (.region [
 oP 14 (.bin .lss .num (.t 13) (.t 12))])
 (kL [0,1,12,13,14] 0 (.seq (.cond (.t 14)
 (.skip)
 (.exit 0))
 (kL [0,1,12,13] 0 (.seq (.block 1 (.seq (.region [
 mV 15 13,
 mV 5 15])
 (kL [0,1,5,12,13] 0 (.seq (.draw 0 [
 ⟨0,none,(mV 16 0),[]⟩,
 ⟨1,none,(mV 17 5),[]⟩,
 ⟨2,none,(oP 18 (iA 1 16 17)),[]⟩,
 ⟨3,none,(oP 19 (lD 18)),[]⟩,
 ⟨4,none,(mV 20 1),[]⟩,
 ⟨5,none,(mV 21 5),[]⟩,
 ⟨6,none,(oP 22 (iA 1 20 21)),[]⟩,
 ⟨7,none,(oP 23 (lD 22)),[]⟩,
 ⟨8,none,(oP 24 (.bin .neq .num (.t 19) (.t 23))),[]⟩])
 (kL [0,1,12,13,24] 0 (.cond (.t 24)
 (.seq (.region [
 oP 4 (.mov (cB false))])
 (.ret))
 (.skip)))))))
 (kL [0,1,12,13] 0 (.region [
 oP 25 (.bin .add .num (.t 13) (cI 1)),
 mV 13 25]))))))))))))
 (kL [] 0 (.seq (.region [
 oP 4 (.mov (cB true))])
 (.ret)))))))⟩
def n99:NF:=⟨53,[],
 .seq (.region [
 mV 10 1,
 oP 11 (.bin .add .num (.t 10) (cI 1)),
 mV 8 11])
 (kL [0,1,2,3,8] 0 (.block 0 (.loop (kL [0,1,2,3,8] 0 (.seq (.seq (.region [
 mV 12 8,
 mV 13 2,
 oP 14 (.bin .lss .num (.t 12) (.t 13))])
 (kL [0,1,2,3,8,14] 0 (.cond (.t 14)
 (.skip)
 (.exit 0))))
 (kL [0,1,2,3,8] 0 (.seq (.block 1 (.seq (.region [
 mV 17 8,
 mV 9 17])
 (kL [0,1,2,3,8,9] 0 (.block 2 (.loop (kL [0,1,2,3,8,9] 0 (.seq (.seq (.draw 0 [
 ⟨0,none,(mV 18 9),[]⟩,
 ⟨1,none,(mV 19 1),[]⟩,
 ⟨2,none,(oP 20 (.bin .gtr .num (.t 18) (.t 19))),[]⟩,
 ⟨3,none,(mV 21 20),[]⟩,
 ⟨4,none,(mG 22 3 21 true),[]⟩,
 ⟨5,none,(mG 23 0 21 true),[]⟩,
 ⟨6,none,(mG 24 9 21 true),[]⟩,
 ⟨7,none,(oG 25 (iA 3 23 24) 21 true),[]⟩,
 ⟨8,none,(oG 26 (.load (some 3) (.t 25)) 21 true),[]⟩,
 ⟨9,none,(mG 27 0 21 true),[]⟩,
 ⟨10,none,(mG 28 9 21 true),[]⟩,
 ⟨11,none,(oG 29 (.bin .sub .num (.t 28) (cI 1)) 21 true),[]⟩,
 ⟨12,none,(oG 30 (iA 3 27 29) 21 true),[]⟩,
 ⟨13,none,(oG 31 (.load (some 3) (.t 30)) 21 true),[]⟩,
 ⟨14,none,(oG 32 (.dyn (.t 22) [(.t 26),(.t 31)]) 21 true),[]⟩,
 ⟨15,none,(oG 33 (.bin .lss .num (.t 32) (cI 0)) 21 true),[]⟩,
 ⟨16,none,(oP 34 (.pick (.t 21) (.t 33) (cB false))),[]⟩])
 (kL [0,1,2,3,8,9,34] 0 (.cond (.t 34)
 (.skip)
 (.exit 2))))
 (kL [0,1,2,3,8,9] 0 (.seq (.block 3 (.draw 0 [
 ⟨0,none,(mV 37 0),[]⟩,
 ⟨1,none,(mV 38 9),[]⟩,
 ⟨2,none,(mV 39 0),[]⟩,
 ⟨3,none,(mV 40 9),[]⟩,
 ⟨4,none,(oP 41 (.bin .sub .num (.t 40) (cI 1))),[]⟩,
 ⟨5,none,(mV 42 0),[]⟩,
 ⟨6,none,(mV 43 9),[]⟩,
 ⟨7,none,(oP 44 (.bin .sub .num (.t 43) (cI 1))),[]⟩,
 ⟨8,none,(oP 45 (iA 3 42 44)),[]⟩,
 ⟨9,none,(oP 46 (.load (some 3) (.t 45))),[]⟩,
 ⟨10,none,(mV 47 0),[]⟩,
 ⟨11,none,(mV 48 9),[]⟩,
 ⟨12,none,(oP 49 (iA 3 47 48)),[]⟩,
 ⟨13,none,(oP 50 (.load (some 3) (.t 49))),[]⟩,
 ⟨14,none,(oP 51 (iA 3 37 38)),[]⟩,
 ⟨15,none,(oW (.store 3 (.t 51) (.t 46))),[]⟩,
 ⟨16,none,(oP 52 (iA 3 39 41)),[]⟩,
 ⟨17,none,(oW (.store 3 (.t 52) (.t 50))),[]⟩]))
 (kL [0,1,2,3,8,9] 0 (.region [
 mV 35 9,
 oP 36 (.bin .sub .num (.t 35) (cI 1)),
 mV 9 36])))))))))))
 (kL [0,1,2,3,8] 0 (.region [
 mV 15 8,
 oP 16 (.bin .add .num (.t 15) (cI 1)),
 mV 8 16])))))))))⟩
def n47:NF:=⟨6,[2],
 .seq (.region [
 oP 2 (.mov (cB false))])
 (kL [0] 0 (.seq (.region [
 mV 3 0,
 mV 4 0,
 oP 5 (.bin .neq .num (.t 3) (.t 4)),
 mV 2 5])
 (.ret)))⟩
def n331:NF:=⟨21,[2],
 .seq (.region [
 oP 1 (.box true 2 (.t 0)),
 oP 2 (.mov (cB false))])
 (kL [1] 1 (.seq (.region [
 oP 3 (.faddr 0 (.t 1)),
 oP 4 (lD 3),
 oP 5 (.bin .geq .num (.t 4) (cI 0)),
 mV 6 5,
 oG 7 (.faddr 0 (.t 1)) 6 true,
 oG 8 (lD 7) 6 true,
 oG 9 (.bin .lss .num (.t 8) (cI 1099511627776)) 6 true,
 oP 10 (.pick (.t 6) (.t 9) (cB false)),
 mV 11 10,
 oG 12 (.faddr 1 (.t 1)) 11 true,
 oG 13 (lD 12) 11 true,
 oG 14 (.bin .geq .num (.t 13) (cI 0)) 11 true,
 oP 15 (.pick (.t 11) (.t 14) (cB false)),
 mV 16 15,
 oG 17 (.faddr 1 (.t 1)) 16 true,
 oG 18 (lD 17) 16 true,
 oG 19 (.bin .leq .num (.t 18) (cI 255)) 16 true,
 oP 20 (.pick (.t 16) (.t 19) (cB false)),
 mV 2 20])
 (.ret)))⟩
def n321:NF:=⟨16,[],
 .seq (.region [
 oP 2 (.box true 2 (.t 0))])
 (kL [1,2] 1 (.seq (.region [
 mV 4 1,
 oP 5 (.call 290 [(.t 4),(.c (.c (.int .u64 6))),(cI 8)])])
 (kL [1,2] 1 (.seq (.region [
 mV 6 1,
 oP 7 (.faddr 0 (.t 2)),
 oP 8 (lD 7),
 oP 9 (.conv (.toInt .u64) (.t 8)),
 oP 10 (.call 290 [(.t 6),(.t 9),(cI 40)])])
 (kL [1,2] 1 (.region [
 mV 11 1,
 oP 12 (.faddr 1 (.t 2)),
 oP 13 (lD 12),
 oP 14 (.conv (.toInt .u64) (.t 13)),
 oP 15 (.call 290 [(.t 11),(.t 14),(cI 8)])]))))))⟩
def n332:NF:=⟨11,[2],
 .seq (.region [
 oP 1 (.box true 1 (.t 0)),
 oP 2 (.mov (cB false))])
 (kL [1] 1 (.seq (.region [
 oP 3 (.faddr 0 (.t 1)),
 oP 4 (lD 3),
 oP 5 (.bin .geq .num (.t 4) (cI (-32768))),
 mV 6 5,
 oG 7 (.faddr 0 (.t 1)) 6 true,
 oG 8 (lD 7) 6 true,
 oG 9 (.bin .leq .num (.t 8) (cI 32767)) 6 true,
 oP 10 (.pick (.t 6) (.t 9) (cB false)),
 mV 2 10])
 (.ret)))⟩
def n322:NF:=⟨11,[],
 .seq (.region [
 oP 2 (.box true 1 (.t 0))])
 (kL [1,2] 1 (.seq (.region [
 mV 4 1,
 oP 5 (.call 290 [(.t 4),(.c (.c (.int .u64 2))),(cI 8)])])
 (kL [1,2] 1 (.region [
 mV 6 1,
 oP 7 (.faddr 0 (.t 2)),
 oP 8 (lD 7),
 oP 9 (.conv (.toInt .u64) (.t 8)),
 oP 10 (.call 290 [(.t 6),(.t 9),(cI 16)])]))))⟩
def n333:NF:=⟨13,[2],
 .seq (.region [
 oP 1 (.box true 1 (.t 0)),
 oP 2 (.mov (cB false))])
 (kL [1] 1 (.seq (.region [
 oP 3 (.faddr 0 (.t 1)),
 oP 4 (lD 3),
 oP 5 (.len .sl (.t 4)),
 oP 6 (.bin .leq .num (.t 5) (cI 16)),
 mV 7 6,
 oG 8 (.faddr 0 (.t 1)) 7 true,
 oG 9 (lD 8) 7 true,
 oG 10 (.call 338 [(.t 9),(.c (.c (.fn 339 [])))]) 7 true,
 oG 11 (.un .not (.t 10)) 7 true,
 oP 12 (.pick (.t 7) (.t 11) (cB false)),
 mV 2 12])
 (.ret)))⟩
def n323:NF:=⟨24,[],
 .seq (.region [
 oP 2 (.box true 1 (.t 0))])
 (kL [1,2] 1 (.seq (.region [
 mV 6 1,
 oP 7 (.faddr 0 (.t 2)),
 oP 8 (lD 7),
 oP 9 (.len .sl (.t 8)),
 oP 10 (.conv (.toInt .u64) (.t 9)),
 oP 11 (.call 290 [(.t 6),(.t 10),(cI 8)])])
 (kL [1,2] 1 (.seq (.region [
 oP 12 (.faddr 0 (.t 2)),
 oP 13 (lD 12),
 oP 14 (.len .sl (.t 13)),
 oP 15 (.mov (cI 0))])
 (kL [1,13,14,15] 0 (.block 0 (.loop (kL [1,13,14,15] 0 (.seq (.region [
 oP 16 (.bin .lss .num (.t 15) (.t 14))])
 (kL [1,13,14,15,16] 0 (.seq (.cond (.t 16)
 (.skip)
 (.exit 0))
 (kL [1,13,14,15] 0 (.seq (.block 1 (.seq (.region [
 oP 17 (iA 1 13 15),
 oP 18 (lD 17),
 mV 5 18])
 (kL [1,5,13,14,15] 0 (.region [
 mV 19 1,
 mV 20 5,
 oP 21 (.conv (.toInt .u64) (.t 20)),
 oP 22 (.call 290 [(.t 19),(.t 21),(cI 8)])]))))
 (kL [1,13,14,15] 0 (.region [
 oP 23 (.bin .add .num (.t 15) (cI 1)),
 mV 15 23])))))))))))))))⟩
def n339:NF:=⟨9,[2],
 .seq (.region [
 oP 2 (.mov (cB false))])
 (kL [0] 0 (.seq (.region [
 mV 3 0,
 oP 4 (.bin .lss .num (.t 3) (cI 0)),
 mV 5 4,
 mG 6 0 5 false,
 oG 7 (.bin .gtr .num (.t 6) (cI 255)) 5 false,
 oP 8 (.pick (.t 5) (cB true) (.t 7)),
 mV 2 8])
 (.ret)))⟩
def N0:Nat→Option NF
 | 44=>some n44
 | 46=>some n46
 | 47=>some n47
 | 53=>some n53
 | 56=>some n56
 | 58=>some n58
 | 60=>some n60
 | 62=>some n62
 | 64=>some n64
 | 66=>some n66
 | 73=>some n73
 | 74=>some n74
 | 75=>some n75
 | 76=>some n76
 | 77=>some n77
 | 78=>some n78
 | 79=>some n79
 | 80=>some n80
 | 82=>some n82
 | 83=>some n83
 | 84=>some n84
 | 85=>some n85
 | 86=>some n86
 | 87=>some n87
 | 93=>some n93
 | 97=>some n97
 | 98=>some n98
 | 99=>some n99
 | 203=>some n203
 | 258=>some n258
 | 259=>some n259
 | 260=>some n260
 | 261=>some n261
 | 262=>some n262
 | 263=>some n263
 | 264=>some n264
 | 265=>some n265
 | 266=>some n266
 | 267=>some n267
 | 268=>some n268
 | 269=>some n269
 | 270=>some n270
 | 271=>some n271
 | 272=>some n272
 | 273=>some n273
 | 274=>some n274
 | 275=>some n275
 | 276=>some n276
 | 277=>some n277
 | 278=>some n278
 | 279=>some n279
 | 280=>some n280
 | 281=>some n281
 | 282=>some n282
 | 283=>some n283
 | 284=>some n284
 | 285=>some n285
 | 286=>some n286
 | 287=>some n287
 | 288=>some n288
 | 289=>some n289
 | 290=>some n290
 | 291=>some n291
 | 292=>some n292
 | 293=>some n293
 | 294=>some n294
 | 295=>some n295
 | 296=>some n296
 | 297=>some n297
 | 298=>some n298
 | 299=>some n299
 | 300=>some n300
 | 301=>some n301
 | 302=>some n302
 | 303=>some n303
 | 304=>some n304
 | 305=>some n305
 | 306=>some n306
 | 307=>some n307
 | 308=>some n308
 | 309=>some n309
 | 310=>some n310
 | 311=>some n311
 | 312=>some n312
 | 313=>some n313
 | 314=>some n314
 | 315=>some n315
 | 316=>some n316
 | 317=>some n317
 | 318=>some n318
 | 319=>some n319
 | 320=>some n320
 | 321=>some n321
 | 322=>some n322
 | 323=>some n323
 | 324=>some n324
 | 325=>some n325
 | 326=>some n326
 | 327=>some n327
 | 328=>some n328
 | 329=>some n329
 | 330=>some n330
 | 331=>some n331
 | 332=>some n332
 | 333=>some n333
 | 334=>some n334
 | 335=>some n335
 | 336=>some n336
 | 337=>some n337
 | 338=>some n338
 | 339=>some n339
 | 341=>some n341
 | 342=>some n342
 | 343=>some n343
 | 345=>some n345
 | 346=>some n346
 | 372=>some n372
 | 375=>some n375
 | 376=>some n376
 | 378=>some n378
 | 379=>some n379
 | 380=>some n380
 | 382=>some n382
 | 383=>some n383
 | 384=>some n384
 | 385=>some n385
 | 386=>some n386
 | 387=>some n387
 | 388=>some n388
 | 390=>some n390
 | 391=>some n391
 | 392=>some n392
 | 394=>some n394
 | 395=>some n395
 | 396=>some n396
 | 397=>some n397
 | 398=>some n398
 | 399=>some n399
 | 400=>some n400
 | 401=>some n401
 | 402=>some n402
 | 403=>some n403
 | 404=>some n404
 | 406=>some n406
 | 407=>some n407
 | 408=>some n408
 | 409=>some n409
 | 410=>some n410
 | 411=>some n411
 | 412=>some n412
 | 413=>some n413
 | 414=>some n414
 | 415=>some n415
 | 422=>some n422
 | 423=>some n423
 | 424=>some n424
 | 425=>some n425
 | 434=>some n434
 | 435=>some n435
 | 436=>some n436
 | 437=>some n437
 | 439=>some n439
 | 442=>some n442
 | _=>none
abbrev N:Nat→Option NF:=withF N0 258 awakeN
end
end Camp
