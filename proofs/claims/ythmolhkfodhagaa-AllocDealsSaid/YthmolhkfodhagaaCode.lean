/- Functions of the program, as the machine runs them. Printed by a program of mine (ncode.py). -/
import Derived.Test.YthmolhkfodhagaaEngF
import Derived.Test.YthmolhkfodhagaaUseA
set_option linter.unnecessarySimpa false
set_option linter.unusedVariables false
set_option linter.unusedSimpArgs false
set_option linter.unusedSectionVars false
namespace Camp
open Go
section
def bs (l:List UInt8):ByteArray:=⟨⟨l⟩⟩
def n245:NF:=⟨108,[12],
 .seq (.region [
 oP 12 (.mov (cB false))])
 (kL [0,1,2,3,4,5] 0 (.seq (.region [
 mV 26 0,
 mV 27 1,
 oP 28 (.call 7 [(.t 26),(.t 27)]),
 mV 25 28,
 oP 29 (.ext (.t 25) 0),
 oP 30 (.ext (.t 25) 1),
 oP 31 (.ext (.t 25) 2),
 mV 13 29,
 mV 14 30,
 mV 15 31])
 (kL [2,3,4,5,13,14,15] 0 (.seq (.seq (.region [
 mV 32 13,
 oP 33 (.bin .eql .ptr (.t 32) (.c (.c .nilp))),
 mV 34 33,
 mG 35 15 34 false,
 oG 36 (.bin .neq .num (.t 35) (cI 0)) 34 false,
 oP 37 (.pick (.t 34) (cB true) (.t 36))])
 (kL [2,3,4,5,13,14,37] 0 (.cond (.t 37)
 (.seq (.region [
 oP 12 (.mov (cB false))])
 (.ret))
 (.skip))))
 (kL [2,3,4,5,13,14] 0 (.seq (.seq (.region [
 mV 38 4,
 oP 39 (.bin .gtr .num (.t 38) (cI 60)),
 mV 40 39,
 mG 41 4 40 true,
 oG 42 (.bin .leq .num (.t 41) (cI 200)) 40 true,
 oP 43 (.pick (.t 40) (.t 42) (cB false))])
 (kL [2,3,4,5,13,14,43] 0 (.cond (.t 43)
 (.region [
 oP 4 (.mov (cI 60))])
 (.skip))))
 (kL [2,3,4,5,13,14] 0 (.seq (.region [
 mV 45 13,
 mV 46 2,
 oP 47 (.call 196 [(.t 45),(.t 46)]),
 mV 48 3,
 mV 49 4,
 mV 50 5,
 oP 51 (.call 246 [(.t 47),(.t 48),(.t 49),(.t 50)]),
 mV 44 51,
 oP 52 (.ext (.t 44) 0),
 oP 53 (.ext (.t 44) 1),
 mV 16 52,
 mV 17 53])
 (kL [2,3,4,5,14,16,17] 0 (.seq (.region [
 mV 55 14,
 mV 56 2,
 oP 57 (.call 237 [(.t 55),(.t 56)]),
 mV 58 3,
 mV 59 4,
 mV 60 5,
 oP 61 (.call 247 [(.t 57),(.t 58),(.t 59),(.t 60)]),
 mV 54 61,
 oP 62 (.ext (.t 54) 0),
 oP 63 (.ext (.t 54) 1),
 oP 18 (.box true 16 (.c (.agg [.nils,.nils,.nils,.nils,.nils,.nils,.nils,.nils,.nils,.nils,.nils,.nils,.nils,.nils,.nils,.nils]))),
 oW (.store 16 (.t 18) (.t 62)),
 mV 19 63])
 (kL [3,4,5,16,17,18,19] 1 (.seq (.seq (.region [
 mV 64 17,
 mV 65 19,
 oP 66 (.call 13 [(.t 64),(.t 65)]),
 oP 67 (.un .not (.t 66))])
 (kL [3,4,5,16,18,67] 1 (.cond (.t 67)
 (.seq (.region [
 oP 12 (.mov (cB false))])
 (.ret))
 (.skip))))
 (kL [3,4,5,16,18] 1 (.seq (.region [
 oP 20 (.mov (cI 0))])
 (kL [3,4,5,16,18,20] 1 (.seq (.seq (.region [
 oP 68 (.faddr 0 (.t 18)),
 oP 69 (.load (some 16) (.t 68)),
 oP 70 (.mov (cI 0))])
 (kL [3,4,5,16,20,69,70] 0 (.block 0 (.loop (kL [3,4,5,16,20,69,70] 0 (.seq (.region [
 oP 71 (.bin .lss .num (.t 70) (cI 16))])
 (kL [3,4,5,16,20,69,70,71] 0 (.seq (.cond (.t 71)
 (.skip)
 (.exit 0))
 (kL [3,4,5,16,20,69,70] 0 (.seq (.block 1 (.seq (.region [
 mV 72 70,
 oP 73 (.index 16 1 false (.t 69) (.t 70)),
 mV 21 72,
 mV 22 73])
 (kL [3,4,5,16,20,21,22,69,70] 0 (.seq (.seq (.region [
 mV 74 16,
 mV 75 21,
 oP 76 (.look (.int .i64) (.c .nils) false (.t 74) (.t 75)),
 mV 77 22,
 oP 78 (.call 229 [(.t 76),(.t 77)]),
 oP 79 (.un .not (.t 78))])
 (kL [3,4,5,16,20,22,69,70,79] 0 (.cond (.t 79)
 (.seq (.region [
 oP 12 (.mov (cB false))])
 (.ret))
 (.skip))))
 (kL [3,4,5,16,20,22,69,70] 0 (.seq (.region [
 mV 80 22,
 oP 81 (.len .sl (.t 80)),
 oP 82 (.bin .gtr .num (.t 81) (cI 0))])
 (kL [3,4,5,16,20,69,70,82] 0 (.cond (.t 82)
 (.region [
 mV 83 20,
 oP 84 (.bin .add .num (.t 83) (cI 1)),
 mV 20 84])
 (.skip)))))))))
 (kL [3,4,5,16,20,69,70] 0 (.region [
 oP 85 (.bin .add .num (.t 70) (cI 1)),
 mV 70 85]))))))))))))
 (kL [3,4,5,16,20] 0 (.seq (.region [
 mV 87 3,
 mV 88 4,
 mV 89 5,
 oP 90 (.call 246 [(.c (.c .nilp)),(.t 87),(.t 88),(.t 89)]),
 mV 86 90,
 oP 91 (.ext (.t 86) 0),
 oP 92 (.ext (.t 86) 1),
 mV 23 91,
 mV 24 92])
 (kL [16,20,23,24] 0 (.seq (.region [
 mV 93 16,
 oP 94 (.len .map (.t 93)),
 mV 95 20,
 oP 96 (.bin .eql .num (.t 94) (.t 95)),
 mV 97 96,
 mG 98 23 97 true,
 oG 99 (.len .map (.t 98)) 97 true,
 mG 100 24 97 true,
 oG 101 (.len .sl (.t 100)) 97 true,
 oG 102 (.bin .add .num (.t 99) (.t 101)) 97 true,
 oG 103 (.bin .eql .num (.t 102) (cI 0)) 97 true,
 oP 104 (.pick (.t 97) (.t 103) (cB false)),
 mV 105 104,
 oG 106 (.call 119 []) 105 true,
 oP 107 (.pick (.t 105) (.t 106) (cB false)),
 mV 12 107])
 (.ret)))))))))))))))))))))⟩
def n119:NF:=⟨23,[0],
 .seq (.region [
 oP 0 (.mov (cB false))])
 (kL [] 0 (.seq (.region [
 oP 3 (.build [(.int .i64 0),(.int .i64 0),(.int .i64 0),(.int .i64 0),(.int .i64 0)] [(1,(1,(cI 1))),(3,(1,(cI 1))),(4,(1,(cI 2)))]),
 oP 1 (.box true 5 (.c (.agg [(.int .i64 0),(.int .i64 0),(.int .i64 0),(.int .i64 0),(.int .i64 0)]))),
 oW (.store 5 (.t 1) (.t 3))])
 (kL [1] 1 (.seq (.region [
 oP 4 (.build [(.int .i64 0),(.int .i64 0),(.int .i64 0),(.int .i64 0),(.int .i64 0)] [(1,(1,(cI 1))),(3,(1,(cI 2))),(4,(1,(cI 1)))]),
 oP 2 (.box true 5 (.c (.agg [(.int .i64 0),(.int .i64 0),(.int .i64 0),(.int .i64 0),(.int .i64 0)]))),
 oW (.store 5 (.t 2) (.t 4))])
 (kL [1,2] 2 (.seq (.region [
 oP 5 (.load (some 5) (.t 1)),
 oP 6 (.load (some 5) (.t 2)),
 oP 7 (.call 118 [(.t 5),(.t 6),(cI 1),(cI 2)]),
 oP 8 (.un .not (.t 7)),
 mV 9 8,
 oG 10 (.load (some 5) (.t 1)) 9 true,
 oG 11 (.load (some 5) (.t 1)) 9 true,
 oG 12 (.call 118 [(.t 10),(.t 11),(cI 1),(cI 3)]) 9 true,
 oP 13 (.pick (.t 9) (.t 12) (cB false)),
 mV 14 13,
 oG 15 .mkmap 14 true,
 oG 16 (.load (some 5) (.t 1)) 14 true,
 oG 17 (.bslice false 5 1 [(.int .i64 0),(.int .i64 0),(.int .i64 0),(.int .i64 0),(.int .i64 0)] [(0,(5,(.t 16)))]) 14 true,
 ⟨none,(.mupd (.int .i64) (.t 15) (cI 1) (.t 17)),(some (14,true))⟩,
 oG 18 (.load (some 5) (.t 2)) 14 true,
 oG 19 (.bslice false 5 1 [(.int .i64 0),(.int .i64 0),(.int .i64 0),(.int .i64 0),(.int .i64 0)] [(0,(5,(.t 18)))]) 14 true,
 ⟨none,(.mupd (.int .i64) (.t 15) (cI 2) (.t 19)),(some (14,true))⟩,
 mG 20 15 14 true,
 oG 21 (.call 120 [(.t 20)]) 14 true,
 oP 22 (.pick (.t 14) (.t 21) (cB false)),
 mV 0 22])
 (.ret)))))))⟩
def n118:NF:=⟨80,[8],
 .seq (.region [
 oP 4 (.box true 5 (.t 0)),
 oP 5 (.box true 5 (.t 1)),
 oP 8 (.mov (cB false))])
 (kL [2,3,4,5] 2 (.seq (.block 0 (.seq (.region [
 oP 10 (.load (some 5) (.t 4)),
 oP 11 (.call 121 [(.t 10)]),
 oP 12 (.un .not (.t 11)),
 mV 13 12,
 oG 14 (.load (some 5) (.t 5)) 13 false,
 oG 15 (.call 121 [(.t 14)]) 13 false,
 oG 16 (.un .not (.t 15)) 13 false,
 oP 17 (.pick (.t 13) (cB true) (.t 16)),
 mV 18 17,
 mG 19 2 18 false,
 oG 20 (.call 122 [(.t 19)]) 18 false,
 oG 21 (.un .not (.t 20)) 18 false,
 oP 22 (.pick (.t 18) (cB true) (.t 21)),
 mV 23 22,
 mG 24 3 23 false,
 oG 25 (.call 122 [(.t 24)]) 23 false,
 oG 26 (.un .not (.t 25)) 23 false,
 oP 27 (.pick (.t 23) (cB true) (.t 26)),
 mV 9 27])
 (kL [2,3,4,5,9] 2 (.cond (.t 9)
 (.seq (.region [
 oP 8 (.mov (cB true))])
 (.ret))
 (.seq (.region [
 oP 29 (.faddr 0 (.t 4)),
 oP 30 (lD 29),
 oP 31 (.faddr 0 (.t 5)),
 oP 32 (lD 31),
 oP 33 (.bin .neq .num (.t 30) (.t 32)),
 mV 34 33,
 oG 35 (.faddr 1 (.t 4)) 34 false,
 oG 36 (lD 35) 34 false,
 oG 37 (.faddr 1 (.t 5)) 34 false,
 oG 38 (lD 37) 34 false,
 oG 39 (.bin .neq .num (.t 36) (.t 38)) 34 false,
 oP 40 (.pick (.t 34) (cB true) (.t 39)),
 mV 28 40])
 (kL [2,3,4,5,28] 2 (.cond (.t 28)
 (.seq (.region [
 oP 8 (.mov (cB false))])
 (.ret))
 (.seq (.region [
 mV 42 2,
 mV 43 3,
 oP 44 (.bin .eql .num (.t 42) (.t 43)),
 mV 41 44])
 (kL [2,3,4,5,41] 2 (.cond (.t 41)
 (.seq (.region [
 oP 8 (.mov (cB true))])
 (.ret))
 (.seq (.region [
 oP 46 (.load (some 5) (.t 4)),
 oP 47 (.load (some 5) (.t 5)),
 mV 48 2,
 mV 49 3,
 oP 50 (.call 123 [(.t 46),(.t 47),(.t 48),(.t 49)]),
 mV 45 50])
 (kL [2,3,4,5,45] 2 (.cond (.t 45)
 (.seq (.region [
 oP 8 (.mov (cB false))])
 (.ret))
 (.skip))))))))))))))
 (kL [2,3,4,5] 2 (.seq (.region [
 oP 51 (.faddr 2 (.t 4)),
 oP 52 (lD 51),
 oP 53 (.faddr 2 (.t 5)),
 oP 54 (lD 53),
 oP 55 (.bin .eql .num (.t 52) (.t 54)),
 mV 56 55,
 mG 57 2 56 false,
 oG 58 (.faddr 4 (.t 5)) 56 false,
 oG 59 (lD 58) 56 false,
 oG 60 (.bin .eql .num (.t 57) (.t 59)) 56 false,
 oP 61 (.pick (.t 56) (cB true) (.t 60)),
 mV 62 61,
 mG 63 3 62 false,
 oG 64 (.faddr 4 (.t 4)) 62 false,
 oG 65 (lD 64) 62 false,
 oG 66 (.bin .eql .num (.t 63) (.t 65)) 62 false,
 oP 67 (.pick (.t 62) (cB true) (.t 66)),
 mV 68 67,
 oG 69 (.faddr 4 (.t 4)) 68 false,
 oG 70 (lD 69) 68 false,
 oG 71 (.faddr 4 (.t 5)) 68 false,
 oG 72 (lD 71) 68 false,
 oG 73 (.bin .eql .num (.t 70) (.t 72)) 68 false,
 mG 74 73 68 false,
 oG 75 (.faddr 4 (.t 4)) 74 true,
 oG 76 (lD 75) 74 true,
 oG 77 (.bin .neq .num (.t 76) (cI 64)) 74 true,
 oG 78 (.pick (.t 74) (.t 77) (cB false)) 68 false,
 oP 79 (.pick (.t 68) (cB true) (.t 78)),
 mV 8 79])
 (.ret)))))⟩
def n216:NF:=⟨100,[8],
 .seq (.region [
 oP 4 (.box true 5 (.t 0)),
 oP 5 (.box true 5 (.t 1)),
 oP 8 (.mov (cB false))])
 (kL [2,3,4,5] 2 (.seq (.seq (.region [
 oP 9 (.load (some 5) (.t 4)),
 oP 10 (.call 218 [(.t 9)]),
 oP 11 (.un .not (.t 10)),
 mV 12 11,
 oG 13 (.load (some 5) (.t 5)) 12 false,
 oG 14 (.call 218 [(.t 13)]) 12 false,
 oG 15 (.un .not (.t 14)) 12 false,
 oP 16 (.pick (.t 12) (cB true) (.t 15)),
 mV 17 16,
 mG 18 2 17 false,
 oG 19 (.call 44 [(.t 18)]) 17 false,
 oG 20 (.un .not (.t 19)) 17 false,
 oP 21 (.pick (.t 17) (cB true) (.t 20)),
 mV 22 21,
 mG 23 3 22 false,
 oG 24 (.call 44 [(.t 23)]) 22 false,
 oG 25 (.un .not (.t 24)) 22 false,
 oP 26 (.pick (.t 22) (cB true) (.t 25))])
 (kL [2,3,4,5,26] 2 (.cond (.t 26)
 (.seq (.region [
 oP 8 (.mov (cB true))])
 (.ret))
 (.skip))))
 (kL [2,3,4,5] 2 (.seq (.seq (.region [
 oP 27 (.faddr 0 (.t 4)),
 oP 28 (lD 27),
 oP 29 (.faddr 0 (.t 5)),
 oP 30 (lD 29),
 oP 31 (.bin .neq .num (.t 28) (.t 30)),
 mV 32 31,
 oG 33 (.faddr 1 (.t 4)) 32 false,
 oG 34 (lD 33) 32 false,
 oG 35 (.faddr 1 (.t 5)) 32 false,
 oG 36 (lD 35) 32 false,
 oG 37 (.bin .neq .num (.t 34) (.t 36)) 32 false,
 oP 38 (.pick (.t 32) (cB true) (.t 37))])
 (kL [2,3,4,5,38] 2 (.cond (.t 38)
 (.seq (.region [
 oP 8 (.mov (cB false))])
 (.ret))
 (.skip))))
 (kL [2,3,4,5] 2 (.seq (.seq (.region [
 mV 39 2,
 mV 40 3,
 oP 41 (.bin .neq .num (.t 39) (.t 40)),
 mV 42 41,
 oG 43 (.faddr 4 (.t 4)) 42 true,
 oG 44 (lD 43) 42 true,
 mG 45 3 42 true,
 oG 46 (.bin .eql .num (.t 44) (.t 45)) 42 true,
 oP 47 (.pick (.t 42) (.t 46) (cB false)),
 mV 48 47,
 oG 49 (.faddr 4 (.t 5)) 48 true,
 oG 50 (lD 49) 48 true,
 mG 51 2 48 true,
 oG 52 (.bin .eql .num (.t 50) (.t 51)) 48 true,
 oP 53 (.pick (.t 48) (.t 52) (cB false)),
 mV 54 53,
 oG 55 (.faddr 2 (.t 4)) 54 true,
 oG 56 (lD 55) 54 true,
 oG 57 (.faddr 2 (.t 5)) 54 true,
 oG 58 (lD 57) 54 true,
 oG 59 (.bin .eql .num (.t 56) (.t 58)) 54 true,
 oP 60 (.pick (.t 54) (.t 59) (cB false)),
 mV 61 60,
 oG 62 (.load (some 5) (.t 4)) 61 true,
 oG 63 (.load (some 5) (.t 5)) 61 true,
 oG 64 (.call 219 [(.t 62),(.t 63)]) 61 true,
 oP 65 (.pick (.t 61) (.t 64) (cB false))])
 (kL [2,3,4,5,65] 2 (.cond (.t 65)
 (.seq (.region [
 oP 8 (.mov (cB false))])
 (.ret))
 (.skip))))
 (kL [2,3,4,5] 2 (.seq (.region [
 mV 66 2,
 mV 67 3,
 oP 68 (.bin .eql .num (.t 66) (.t 67)),
 mV 69 68,
 oG 70 (.faddr 2 (.t 4)) 69 false,
 oG 71 (lD 70) 69 false,
 oG 72 (.faddr 2 (.t 5)) 69 false,
 oG 73 (lD 72) 69 false,
 oG 74 (.bin .eql .num (.t 71) (.t 73)) 69 false,
 oP 75 (.pick (.t 69) (cB true) (.t 74)),
 mV 76 75,
 oG 77 (.faddr 4 (.t 4)) 76 false,
 oG 78 (lD 77) 76 false,
 mG 79 3 76 false,
 oG 80 (.bin .eql .num (.t 78) (.t 79)) 76 false,
 oP 81 (.pick (.t 76) (cB true) (.t 80)),
 mV 82 81,
 oG 83 (.faddr 4 (.t 5)) 82 false,
 oG 84 (lD 83) 82 false,
 mG 85 2 82 false,
 oG 86 (.bin .eql .num (.t 84) (.t 85)) 82 false,
 oP 87 (.pick (.t 82) (cB true) (.t 86)),
 mV 88 87,
 oG 89 (.faddr 4 (.t 4)) 88 false,
 oG 90 (lD 89) 88 false,
 oG 91 (.faddr 4 (.t 5)) 88 false,
 oG 92 (lD 91) 88 false,
 oG 93 (.bin .eql .num (.t 90) (.t 92)) 88 false,
 mG 94 93 88 false,
 oG 95 (.faddr 4 (.t 4)) 94 true,
 oG 96 (lD 95) 94 true,
 oG 97 (.bin .neq .num (.t 96) (cI 64)) 94 true,
 oG 98 (.pick (.t 94) (.t 97) (cB false)) 88 false,
 oP 99 (.pick (.t 88) (cB true) (.t 98)),
 mV 8 99])
 (.ret)))))))))⟩
def n120:NF:=⟨48,[2],
 .seq (.region [
 oP 2 (.mov (cB false))])
 (kL [0] 0 (.seq (.region [
 oP 3 (.mov (.c (.c .nils)))])
 (kL [0,3] 0 (.seq (.seq (.region [
 mV 8 0,
 oP 9 (.range .map (.t 8))])
 (kL [3,9] 0 (.block 0 (.loop (kL [3,9] 0 (.seq (.region [
 oP 10 (.next false (.t 9)),
 oP 11 (.ext (.t 10) 0)])
 (kL [3,9,11] 0 (.seq (.cond (.t 11)
 (.skip)
 (.exit 0))
 (kL [3,9] 0 (.block 1 (.seq (.region [
 oP 12 (.entry (.t 9)),
 oP 13 (.ext (.t 12) 0),
 oP 14 (.ext (.t 12) 1),
 mV 4 13,
 mV 5 14])
 (kL [3,4,5,9] 0 (.seq (.region [
 mV 15 5,
 oP 16 (.len .sl (.t 15)),
 oP 17 (.mov (cI 0))])
 (kL [3,4,9,15,16,17] 0 (.block 2 (.loop (kL [3,4,9,15,16,17] 0 (.seq (.region [
 oP 18 (.bin .lss .num (.t 17) (.t 16))])
 (kL [3,4,9,15,16,17,18] 0 (.seq (.cond (.t 18)
 (.skip)
 (.exit 2))
 (kL [3,4,9,15,16,17] 0 (.seq (.block 3 (.seq (.region [
 oP 19 (iA 5 15 17),
 oP 20 (.load (some 5) (.t 19)),
 oP 7 (.box true 5 (.c (.agg [(.int .i64 0),(.int .i64 0),(.int .i64 0),(.int .i64 0),(.int .i64 0)]))),
 oW (.store 5 (.t 7) (.t 20))])
 (kL [3,4,7,9,15,16,17] 1 (.seq (.seq (.region [
 mV 21 4,
 oP 22 (.call 122 [(.t 21)]),
 oP 23 (.un .not (.t 22)),
 mV 24 23,
 oG 25 (.load (some 5) (.t 7)) 24 false,
 oG 26 (.call 121 [(.t 25)]) 24 false,
 oG 27 (.un .not (.t 26)) 24 false,
 oP 28 (.pick (.t 24) (cB true) (.t 27)),
 mV 29 28,
 oG 30 (.faddr 3 (.t 7)) 29 false,
 oG 31 (lD 30) 29 false,
 oG 32 (.bin .and .num (.t 31) (cI 4)) 29 false,
 oG 33 (.bin .neq .num (.t 32) (cI 0)) 29 false,
 oP 34 (.pick (.t 29) (cB true) (.t 33)),
 mV 35 34,
 mG 36 3 35 false,
 mG 37 4 35 false,
 oG 38 (.load (some 5) (.t 7)) 35 false,
 oG 39 (.call 126 [(.t 36),(.t 37),(.t 38)]) 35 false,
 oP 40 (.pick (.t 35) (cB true) (.t 39))])
 (kL [3,4,7,9,15,16,17,40] 1 (.cond (.t 40)
 (.seq (.region [
 oP 2 (.mov (cB false))])
 (.ret))
 (.skip))))
 (kL [3,4,7,9,15,16,17] 1 (.region [
 mV 41 3,
 mV 42 4,
 oP 43 (.load (some 5) (.t 7)),
 oP 44 (.build [(.int .i64 0),(.int .i64 0),(.int .i64 0),(.int .i64 0),(.int .i64 0),(.int .i64 0)] [(0,(1,(.t 42))),(1,(5,(.t 43)))]),
 oP 45 (.bslice true 6 1 [(.int .i64 0),(.int .i64 0),(.int .i64 0),(.int .i64 0),(.int .i64 0),(.int .i64 0)] [(0,(6,(.t 44)))]),
 oP 46 (.app 6 48 (.t 41) (.t 45)),
 mV 3 46]))))))
 (kL [3,4,9,15,16,17] 0 (.region [
 oP 47 (.bin .add .num (.t 17) (cI 1)),
 mV 17 47]))))))))))))))))))))))))
 (kL [] 0 (.seq (.region [
 oP 2 (.mov (cB true))])
 (.ret)))))))⟩
def n7:NF:=⟨58,[4,5,6],
 .seq (.region [
 oP 4 (.mov (.c (.c .nilp))),
 oP 5 (.mov (.c (.c .nilp))),
 oP 6 (.mov (cI 0))])
 (kL [0,1] 0 (.seq (.region [
 mV 11 0,
 oP 12 (.call 2 [(.t 11)]),
 mV 13 0,
 oP 14 (.call 19 [(.t 13)]),
 mV 7 12,
 mV 8 14])
 (kL [1,7,8] 0 (.seq (.seq (.region [
 mV 15 1,
 oP 16 (.len .sl (.t 15)),
 oP 17 (.mov (cI 0))])
 (kL [7,8,15,16,17] 0 (.block 0 (.loop (kL [7,8,15,16,17] 0 (.seq (.region [
 oP 18 (.bin .lss .num (.t 17) (.t 16))])
 (kL [7,8,15,16,17,18] 0 (.seq (.cond (.t 18)
 (.skip)
 (.exit 0))
 (kL [7,8,15,16,17] 0 (.seq (.block 1 (.seq (.region [
 mV 19 17,
 oP 20 (iA 3 15 17),
 oP 21 (.load (some 3) (.t 20)),
 oP 10 (.box true 3 (.c (.agg [(.bool false),(.int .i64 0),.nils]))),
 mV 9 19,
 oW (.store 3 (.t 10) (.t 21))])
 (kL [7,8,9,10,15,16,17] 1 (.seq (.seq (.region [
 mV 22 9,
 oP 23 (.bin .geq .num (.t 22) (cI 60)),
 mV 24 23,
 oG 25 (.faddr 2 (.t 10)) 24 false,
 oG 26 (lD 25) 24 false,
 oG 27 (.len .sl (.t 26)) 24 false,
 oG 28 (.bin .gtr .num (.t 27) (cI 60)) 24 false,
 oP 29 (.pick (.t 24) (cB true) (.t 28))])
 (kL [7,8,10,15,16,17,29] 1 (.cond (.t 29)
 (.exit 0)
 (.skip))))
 (kL [7,8,10,15,16,17] 1 (.seq (.region [
 oP 30 (.faddr 0 (.t 10)),
 oP 31 (lD 30)])
 (kL [7,8,10,15,16,17,31] 1 (.cond (.t 31)
 (.seq (.region [
 mV 32 7,
 oP 33 (.faddr 1 (.t 10)),
 oP 34 (lD 33),
 oP 35 (.call 15 [(.t 32),(.t 34)])])
 (kL [7,8,10,15,16,17] 1 (.region [
 mV 36 8,
 oP 37 (.faddr 1 (.t 10)),
 oP 38 (lD 37),
 oP 39 (.call 20 [(.t 36),(.t 38)])])))
 (.seq (.draw 0 [
 ⟨0,none,(mV 40 7),[]⟩,
 ⟨1,none,(oP 41 (.faddr 1 (.t 10))),[]⟩,
 ⟨2,none,(oP 42 (lD 41)),[]⟩,
 ⟨3,none,(oP 43 (.faddr 2 (.t 10))),[]⟩,
 ⟨4,none,(oP 44 (lD 43)),[]⟩,
 ⟨6,none,(mV 46 8),[]⟩,
 ⟨7,none,(oP 47 (.faddr 1 (.t 10))),[]⟩,
 ⟨8,none,(oP 48 (lD 47)),[]⟩,
 ⟨9,none,(oP 49 (.faddr 2 (.t 10))),[]⟩,
 ⟨10,none,(oP 50 (lD 49)),[]⟩,
 ⟨5,none,(oP 45 (.call 3 [(.t 40),(.t 42),(.t 44)])),[(8,(oP 48 (lD 47))),(10,(oP 50 (lD 49)))]⟩,
 ⟨11,none,(oP 51 (.call 21 [(.t 46),(.t 48),(.t 50)])),[]⟩,
 ⟨12,none,(oP 52 (.bin .neq .num (.t 45) (.t 51))),[]⟩])
 (kL [7,8,15,16,17,52] 0 (.cond (.t 52)
 (.seq (.region [
 mV 53 7,
 mV 54 8,
 mV 4 53,
 mV 5 54,
 oP 6 (.mov (cI 3))])
 (.ret))
 (.skip))))))))))))
 (kL [7,8,15,16,17] 0 (.region [
 oP 55 (.bin .add .num (.t 17) (cI 1)),
 mV 17 55]))))))))))))
 (kL [7,8] 0 (.seq (.region [
 mV 56 7,
 mV 57 8,
 mV 4 56,
 mV 5 57,
 oP 6 (.mov (cI 0))])
 (.ret)))))))⟩
def n246:NF:=⟨116,[8,9],
 .seq (.region [
 oP 8 (.mov (.c (.c .nilm))),
 oP 9 (.mov (.c (.c .nils)))])
 (kL [0,1,2,3] 0 (.seq (.seq (.region [
 mV 20 0,
 oP 21 (.bin .eql .ptr (.t 20) (.c (.c .nilp))),
 mV 22 21,
 mG 23 1 22 false,
 oG 24 (.bin .lss .num (.t 23) (cI 0)) 22 false,
 oP 25 (.pick (.t 22) (cB true) (.t 24)),
 mV 26 25,
 mG 27 1 26 false,
 oG 28 (.bin .geq .num (.t 27) (cI 4)) 26 false,
 oP 29 (.pick (.t 26) (cB true) (.t 28)),
 mV 30 29,
 mG 31 2 30 false,
 oG 32 (.bin .lss .num (.t 31) (cI 1)) 30 false,
 oP 33 (.pick (.t 30) (cB true) (.t 32)),
 mV 34 33,
 mG 35 2 34 false,
 oG 36 (.bin .gtr .num (.t 35) (cI 200)) 34 false,
 oP 37 (.pick (.t 34) (cB true) (.t 36)),
 mV 38 37,
 mG 39 3 38 false,
 oG 40 (.bin .lss .num (.t 39) (cI 1)) 38 false,
 oP 41 (.pick (.t 38) (cB true) (.t 40)),
 mV 42 41,
 mG 43 3 42 false,
 oG 44 (.bin .gtr .num (.t 43) (cI 16)) 42 false,
 oP 45 (.pick (.t 42) (cB true) (.t 44))])
 (kL [0,1,2,3,45] 0 (.cond (.t 45)
 (.seq (.region [
 oP 8 (.mov (.c (.c .nilm))),
 oP 9 (.mov (.c (.c .nils)))])
 (.ret))
 (.skip))))
 (kL [0,1,2,3] 0 (.seq (.region [
 mV 46 1,
 mV 47 2,
 mV 48 3,
 oP 49 (.build [(.int .i64 0),(.int .i64 0),(.int .i64 0),.nils,(.int .i64 0),(.int .i64 0),(.int .i64 0),(.int .i64 0),(.int .i64 0),(.int .i64 0),(.int .i64 0),(.int .i64 0),(.int .i64 0),(.int .i64 0),(.int .i64 0),(.int .i64 0),(.int .i64 0),(.int .i64 0),(.int .i64 0),(.int .i64 0)] [(0,(1,(.t 46))),(1,(1,(.t 47))),(2,(1,(.t 48)))]),
 oP 50 (.box false 20 (.t 49)),
 mV 10 50])
 (kL [0,10] 0 (.seq (.region [
 oP 11 (.mov (.c (.c .nils)))])
 (kL [0,10,11] 0 (.seq (.seq (.region [
 mV 51 0,
 oP 52 (.call 199 [(.t 51)]),
 oP 53 (.len .sl (.t 52)),
 oP 54 (.mov (cI 0))])
 (kL [0,10,11,52,53,54] 0 (.block 0 (.loop (kL [0,10,11,52,53,54] 0 (.seq (.region [
 oP 55 (.bin .lss .num (.t 54) (.t 53))])
 (kL [0,10,11,52,53,54,55] 0 (.seq (.cond (.t 55)
 (.skip)
 (.exit 0))
 (kL [0,10,11,52,53,54] 0 (.seq (.block 1 (.seq (.region [
 oP 56 (iA 1 52 54),
 oP 57 (lD 56),
 mV 13 57])
 (kL [0,10,11,13,52,53,54] 0 (.seq (.region [
 mV 58 0,
 mV 59 13,
 oP 60 (.call 197 [(.t 58),(.t 59)]),
 mV 14 60])
 (kL [0,10,11,13,14,52,53,54] 0 (.seq (.region [
 mV 61 13,
 oP 62 (.bin .neq .num (.t 61) (cI 0)),
 mV 63 62,
 mG 64 14 63 true,
 oG 65 (.len .sl (.t 64)) 63 true,
 oG 66 (.bin .eql .num (.t 65) (cI 0)) 63 true,
 mG 67 66 63 true,
 mG 68 10 67 false,
 mG 69 13 67 false,
 mG 70 14 67 false,
 oG 71 (.iaddr 1 (.t 70) (cI 0)) 67 false,
 oG 72 (lD 71) 67 false,
 oG 73 (.call 250 [(.t 68),(.t 69),(.t 72)]) 67 false,
 oG 74 (.un .not (.t 73)) 67 false,
 oG 75 (.pick (.t 67) (cB true) (.t 74)) 63 true,
 oP 76 (.pick (.t 63) (.t 75) (cB false))])
 (kL [0,10,11,13,52,53,54,76] 0 (.cond (.t 76)
 (.region [
 mV 77 11,
 mV 78 13,
 oP 79 (.bslice true 1 1 [(.int .i64 0)] [(0,(1,(.t 78)))]),
 oP 80 (.app 1 8 (.t 77) (.t 79)),
 mV 11 80])
 (.skip)))))))))
 (kL [0,10,11,52,53,54] 0 (.region [
 oP 81 (.bin .add .num (.t 54) (cI 1)),
 mV 54 81]))))))))))))
 (kL [10,11] 0 (.seq (.region [
 mV 82 11,
 oP 83 (.call 74 [(.t 82)])])
 (kL [10,11] 0 (.seq (.region [
 oP 84 .mkmap,
 mV 15 84])
 (kL [10,11,15] 0 (.seq (.seq (.region [
 mV 85 10,
 oP 86 (.nilck (.t 85)),
 oP 87 (.faddr 3 (.t 86)),
 oP 88 (lD 87),
 oP 89 (.len .sl (.t 88)),
 oP 90 (.mov (cI 0))])
 (kL [11,15,88,89,90] 0 (.block 2 (.loop (kL [11,15,88,89,90] 0 (.seq (.region [
 oP 91 (.bin .lss .num (.t 90) (.t 89))])
 (kL [11,15,88,89,90,91] 0 (.seq (.cond (.t 91)
 (.skip)
 (.exit 2))
 (kL [11,15,88,89,90] 0 (.seq (.block 3 (.seq (.region [
 oP 92 (iA 6 88 90),
 oP 93 (.load (some 6) (.t 92)),
 oP 17 (.box true 6 (.c (.agg [(.int .i64 0),(.int .i64 0),(.int .i64 0),(.int .i64 0),(.int .i64 0),(.int .i64 0)]))),
 oW (.store 6 (.t 17) (.t 93))])
 (kL [11,15,17,88,89,90] 1 (.draw 1 [
 ⟨0,none,(mV 94 15),[]⟩,
 ⟨1,none,(oP 95 (.faddr 0 (.t 17))),[]⟩,
 ⟨2,none,(oP 96 (lD 95)),[]⟩,
 ⟨3,none,(mV 97 15),[]⟩,
 ⟨4,none,(oP 98 (.faddr 0 (.t 17))),[]⟩,
 ⟨5,none,(oP 99 (lD 98)),[]⟩,
 ⟨6,none,(oP 100 (.look (.int .i64) (.c .nils) false (.t 97) (.t 99))),[]⟩,
 ⟨7,none,(oP 101 (.faddr 1 (.t 17))),[]⟩,
 ⟨8,none,(oP 102 (.load (some 5) (.t 101))),[]⟩,
 ⟨9,(some 0),(oP 103 (.bslice false 5 1 [(.int .i64 0),(.int .i64 0),(.int .i64 0),(.int .i64 0),(.int .i64 0)] [(0,(5,(.t 102)))])),[]⟩,
 ⟨10,none,(oP 104 (.app 5 40 (.t 100) (.t 103))),[(2,(oP 96 (lD 95)))]⟩,
 ⟨11,none,(oW (.mupd (.int .i64) (.t 94) (.t 96) (.t 104))),[]⟩]))))
 (kL [11,15,88,89,90] 0 (.region [
 oP 105 (.bin .add .num (.t 90) (cI 1)),
 mV 90 105]))))))))))))
 (kL [11,15] 0 (.seq (.seq (.region [
 mV 106 15,
 oP 107 (.range .map (.t 106))])
 (kL [11,15,107] 0 (.block 4 (.loop (kL [11,15,107] 0 (.seq (.region [
 oP 108 (.next false (.t 107)),
 oP 109 (.ext (.t 108) 0)])
 (kL [11,15,107,109] 0 (.seq (.cond (.t 109)
 (.skip)
 (.exit 4))
 (kL [11,15,107] 0 (.block 5 (.seq (.region [
 oP 110 (.entry (.t 107)),
 oP 111 (.ext (.t 110) 1),
 mV 19 111])
 (kL [11,15,19,107] 0 (.region [
 mV 112 19,
 oP 113 (.call 151 [(.t 112),(.c (.c (.fn 251 [])))])])))))))))))))
 (kL [11,15] 0 (.seq (.region [
 mV 114 15,
 mV 115 11,
 mV 8 114,
 mV 9 115])
 (.ret)))))))))))))))))))⟩
def n196:NF:=⟨105,[4],
 .seq (.region [
 oP 4 (.mov (.c (.c .nilp)))])
 (kL [0,1] 0 (.seq (.seq (.region [
 mV 16 0,
 oP 17 (.bin .eql .ptr (.t 16) (.c (.c .nilp)))])
 (kL [0,1,17] 0 (.cond (.t 17)
 (.seq (.region [
 oP 4 (.mov (.c (.c .nilp)))])
 (.ret))
 (.skip))))
 (kL [0,1] 0 (.seq (.region [
 oP 18 .mkmap,
 oW (.mupd (.int .i64) (.t 18) (cI 0) (cI 0)),
 mV 19 18,
 oP 20 .mkmap,
 oP 21 (.build [.nilm,.nilm,.nils] [(0,(1,(.t 19))),(1,(1,(.t 20)))]),
 oP 22 (.box false 3 (.t 21)),
 mV 5 22])
 (kL [0,1,5] 0 (.seq (.seq (.region [
 oP 23 (.bslice false 1 1 [(.int .i64 0)] [(0,(1,(cI 0)))]),
 mV 6 23])
 (kL [0,1,5,6] 0 (.block 0 (.loop (kL [0,1,5,6] 0 (.seq (.seq (.region [
 mV 24 6,
 oP 25 (.len .sl (.t 24)),
 oP 26 (.bin .gtr .num (.t 25) (cI 0))])
 (kL [0,1,5,6,26] 0 (.cond (.t 26)
 (.skip)
 (.exit 0))))
 (kL [0,1,5,6] 0 (.block 1 (.seq (.region [
 oP 7 (.mov (.c (.c .nils)))])
 (kL [0,1,5,6,7] 0 (.seq (.seq (.region [
 mV 27 6,
 oP 28 (.len .sl (.t 27)),
 oP 29 (.mov (cI 0))])
 (kL [0,1,5,7,27,28,29] 0 (.block 2 (.loop (kL [0,1,5,7,27,28,29] 0 (.seq (.region [
 oP 30 (.bin .lss .num (.t 29) (.t 28))])
 (kL [0,1,5,7,27,28,29,30] 0 (.seq (.cond (.t 30)
 (.skip)
 (.exit 2))
 (kL [0,1,5,7,27,28,29] 0 (.seq (.block 3 (.seq (.region [
 oP 31 (iA 1 27 29),
 oP 32 (lD 31),
 mV 9 32])
 (kL [0,1,5,7,9,27,28,29] 0 (.seq (.region [
 mV 33 5,
 mV 34 5,
 oP 35 (.nilck (.t 34)),
 oP 36 (.faddr 2 (.t 35)),
 oP 37 (lD 36),
 mV 38 9,
 oP 39 (.bslice true 1 1 [(.int .i64 0)] [(0,(1,(.t 38)))]),
 oP 40 (.app 1 8 (.t 37) (.t 39)),
 oP 41 (.nilck (.t 33)),
 oP 42 (.faddr 2 (.t 41)),
 oW (.store 1 (.t 42) (.t 40))])
 (kL [0,1,5,7,9,27,28,29] 0 (.seq (.region [
 mV 43 0,
 mV 44 9,
 mV 45 1,
 oP 46 (.call 5 [(.t 43),(.t 44),(.t 45)]),
 oP 47 (.len .sl (.t 46)),
 oP 48 (.mov (cI 0))])
 (kL [0,1,5,7,9,27,28,29,46,47,48] 0 (.block 4 (.loop (kL [0,1,5,7,9,27,28,29,46,47,48] 0 (.seq (.region [
 oP 49 (.bin .lss .num (.t 48) (.t 47))])
 (kL [0,1,5,7,9,27,28,29,46,47,48,49] 0 (.seq (.cond (.t 49)
 (.skip)
 (.exit 4))
 (kL [0,1,5,7,9,27,28,29,46,47,48] 0 (.seq (.block 5 (.seq (.region [
 oP 50 (iA 1 46 48),
 oP 51 (lD 50),
 mV 11 51])
 (kL [0,1,5,7,9,11,27,28,29,46,47,48] 0 (.seq (.region [
 mV 53 5,
 oP 54 (.nilck (.t 53)),
 oP 55 (.faddr 0 (.t 54)),
 oP 56 (lD 55),
 mV 57 11,
 oP 58 (.look (.int .i64) (.c (.int .i64 0)) true (.t 56) (.t 57)),
 mV 52 58,
 oP 59 (.ext (.t 52) 0),
 oP 60 (.ext (.t 52) 1),
 mV 12 59,
 mV 13 60])
 (kL [0,1,5,7,9,11,13,27,28,29,46,47,48] 0 (.seq (.region [
 mV 61 13,
 oP 62 (.un .not (.t 61))])
 (kL [0,1,5,7,9,11,27,28,29,46,47,48,62] 0 (.cond (.t 62)
 (.seq (.draw 0 [
 ⟨0,none,(mV 63 5),[]⟩,
 ⟨1,none,(oP 64 (.nilck (.t 63))),[]⟩,
 ⟨2,none,(oP 65 (.faddr 0 (.t 64))),[]⟩,
 ⟨3,none,(oP 66 (lD 65)),[]⟩,
 ⟨4,none,(mV 67 11),[]⟩,
 ⟨5,none,(mV 68 5),[]⟩,
 ⟨6,none,(oP 69 (.nilck (.t 68))),[]⟩,
 ⟨7,none,(oP 70 (.faddr 0 (.t 69))),[]⟩,
 ⟨8,none,(oP 71 (lD 70)),[]⟩,
 ⟨9,none,(mV 72 9),[]⟩,
 ⟨10,none,(oP 73 (.look (.int .i64) (.c (.int .i64 0)) false (.t 71) (.t 72))),[]⟩,
 ⟨11,none,(oP 74 (.bin .add .num (.t 73) (cI 1))),[]⟩,
 ⟨12,none,(oW (.mupd (.int .i64) (.t 66) (.t 67) (.t 74))),[]⟩])
 (kL [0,1,5,7,9,11,27,28,29,46,47,48] 0 (.region [
 mV 75 7,
 mV 76 11,
 oP 77 (.bslice true 1 1 [(.int .i64 0)] [(0,(1,(.t 76)))]),
 oP 78 (.app 1 8 (.t 75) (.t 77)),
 mV 7 78])))
 (.skip)))))))))
 (kL [0,1,5,7,9,27,28,29,46,47,48] 0 (.region [
 oP 79 (.bin .add .num (.t 48) (cI 1)),
 mV 48 79])))))))))))))))))
 (kL [0,1,5,7,27,28,29] 0 (.region [
 oP 80 (.bin .add .num (.t 29) (cI 1)),
 mV 29 80]))))))))))))
 (kL [0,1,5,7] 0 (.seq (.region [
 mV 81 7,
 oP 82 (.call 74 [(.t 81)])])
 (kL [0,1,5,7] 0 (.region [
 mV 83 7,
 mV 6 83])))))))))))))))
 (kL [0,1,5] 0 (.seq (.seq (.region [
 mV 84 5,
 oP 85 (.nilck (.t 84)),
 oP 86 (.faddr 2 (.t 85)),
 oP 87 (lD 86),
 oP 88 (.len .sl (.t 87)),
 oP 89 (.mov (cI 0))])
 (kL [0,1,5,87,88,89] 0 (.block 6 (.loop (kL [0,1,5,87,88,89] 0 (.seq (.region [
 oP 90 (.bin .lss .num (.t 89) (.t 88))])
 (kL [0,1,5,87,88,89,90] 0 (.seq (.cond (.t 90)
 (.skip)
 (.exit 6))
 (kL [0,1,5,87,88,89] 0 (.seq (.block 7 (.seq (.region [
 oP 91 (iA 1 87 89),
 oP 92 (lD 91),
 mV 15 92])
 (kL [0,1,5,15,87,88,89] 0 (.draw 0 [
 ⟨0,none,(mV 93 5),[]⟩,
 ⟨1,none,(oP 94 (.nilck (.t 93))),[]⟩,
 ⟨2,none,(oP 95 (.faddr 1 (.t 94))),[]⟩,
 ⟨3,none,(oP 96 (lD 95)),[]⟩,
 ⟨4,none,(mV 97 15),[]⟩,
 ⟨5,none,(mV 98 5),[]⟩,
 ⟨6,none,(mV 99 0),[]⟩,
 ⟨7,none,(mV 100 15),[]⟩,
 ⟨8,none,(mV 101 1),[]⟩,
 ⟨9,none,(oP 102 (.call 202 [(.t 98),(.t 99),(.t 100),(.t 101)])),[(3,(oP 96 (lD 95)))]⟩,
 ⟨10,none,(oW (.mupd (.int .i64) (.t 96) (.t 97) (.t 102))),[]⟩]))))
 (kL [0,1,5,87,88,89] 0 (.region [
 oP 103 (.bin .add .num (.t 89) (cI 1)),
 mV 89 103]))))))))))))
 (kL [5] 0 (.seq (.region [
 mV 104 5,
 mV 4 104])
 (.ret)))))))))))⟩
def n247b:Code:=
 .seq (.region [
 oP 8 (.box false 16 (.c (.agg [.nils,.nils,.nils,.nils,.nils,.nils,.nils,.nils,.nils,.nils,.nils,.nils,.nils,.nils,.nils,.nils]))),
 oP 9 (.mov (.c (.c .nils)))])
 (kL [0,1,2,3,8] 0 (.seq (.region [
 oP 10 (.box false 16 (.c (.agg [.nils,.nils,.nils,.nils,.nils,.nils,.nils,.nils,.nils,.nils,.nils,.nils,.nils,.nils,.nils,.nils])))])
 (kL [0,1,2,3,8,10] 0 (.seq (.seq (.region [
 mV 18 1,
 oP 19 (.bin .lss .num (.t 18) (cI 0)),
 mV 20 19,
 mG 21 1 20 false,
 oG 22 (.bin .geq .num (.t 21) (cI 4)) 20 false,
 oP 23 (.pick (.t 20) (cB true) (.t 22)),
 mV 24 23,
 mG 25 2 24 false,
 oG 26 (.bin .lss .num (.t 25) (cI 1)) 24 false,
 oP 27 (.pick (.t 24) (cB true) (.t 26)),
 mV 28 27,
 mG 29 2 28 false,
 oG 30 (.bin .gtr .num (.t 29) (cI 200)) 28 false,
 oP 31 (.pick (.t 28) (cB true) (.t 30)),
 mV 32 31,
 mG 33 3 32 false,
 oG 34 (.bin .lss .num (.t 33) (cI 1)) 32 false,
 oP 35 (.pick (.t 32) (cB true) (.t 34)),
 mV 36 35,
 mG 37 3 36 false,
 oG 38 (.bin .gtr .num (.t 37) (cI 16)) 36 false,
 oP 39 (.pick (.t 36) (cB true) (.t 38))])
 (kL [0,1,2,3,8,10,39] 0 (.cond (.t 39)
 (.seq (.region [
 oP 40 (.load (some 16) (.t 10)),
 oW (.store 16 (.t 8) (.t 40)),
 oP 9 (.mov (.c (.c .nils)))])
 (.ret))
 (.skip))))
 (kL [0,1,2,3,8,10] 0 (.seq (.region [
 oP 41 (.build [(.bool false),(.bool false),(.bool false),(.bool false),(.bool false),(.bool false),(.bool false),(.bool false),(.bool false),(.bool false),(.bool false),(.bool false),(.bool false),(.bool false),(.bool false),(.bool false)] []),
 oP 11 (.box true 16 (.c (.agg [(.bool false),(.bool false),(.bool false),(.bool false),(.bool false),(.bool false),(.bool false),(.bool false),(.bool false),(.bool false),(.bool false),(.bool false),(.bool false),(.bool false),(.bool false),(.bool false)]))),
 oW (.store 16 (.t 11) (.t 41))])
 (kL [0,1,2,3,8,10,11] 1 (.seq (.seq (.region [
 mV 42 0,
 oP 43 (.call 238 [(.t 42)]),
 oP 44 (.len .sl (.t 43)),
 oP 45 (.mov (cI 0))])
 (kL [0,1,2,3,8,10,11,43,44,45] 1 (.block 0 (.loop (kL [0,1,2,3,8,10,11,43,44,45] 1 (.seq (.region [
 oP 46 (.bin .lss .num (.t 45) (.t 44))])
 (kL [0,1,2,3,8,10,11,43,44,45,46] 1 (.seq (.cond (.t 46)
 (.skip)
 (.exit 0))
 (kL [0,1,2,3,8,10,11,43,44,45] 1 (.seq (.block 1 (.seq (.region [
 oP 47 (iA 1 43 45),
 oP 48 (lD 47),
 mV 13 48])
 (kL [0,1,2,3,8,10,11,13,43,44,45] 1 (.seq (.seq (.region [
 mV 49 13,
 oP 50 (.bin .eql .num (.t 49) (cI 0))])
 (kL [0,1,2,3,8,10,11,13,43,44,45,50] 1 (.cond (.t 50)
 (.exit 1)
 (.skip))))
 (kL [0,1,2,3,8,10,11,13,43,44,45] 1 (.seq (.region [
 mV 51 0,
 mV 52 13,
 oP 53 (.nilck (.t 51)),
 oP 54 (.faddr 16 (.t 53)),
 oP 55 (.iaddrA 16 1 (.t 54) (.t 52)),
 oP 56 (lD 55),
 oP 57 (.iaddr 1 (.t 56) (cI 0)),
 oP 58 (lD 57),
 mV 14 58])
 (kL [0,1,2,3,8,10,11,13,14,43,44,45] 1 (.seq (.region [
 oP 59 (.load (some 16) (.t 10)),
 oP 15 (.box true 16 (.c (.agg [.nils,.nils,.nils,.nils,.nils,.nils,.nils,.nils,.nils,.nils,.nils,.nils,.nils,.nils,.nils,.nils]))),
 oW (.store 16 (.t 15) (.t 59))])
 (kL [0,1,2,3,8,10,11,13,14,15,43,44,45] 2 (.seq (.region [
 mV 60 13,
 mV 61 14,
 mV 62 1,
 mV 63 2,
 mV 64 3,
 oP 65 (.call 252 [(.t 10),(.t 60),(.t 61),(.t 62),(.t 63),(.t 64),(cI 0)]),
 oP 66 (.un .not (.t 65)),
 mV 67 66,
 mG 68 14 67 false,
 mG 69 13 67 false,
 mG 70 1 67 false,
 mG 71 2 67 false,
 mG 72 3 67 false,
 oG 73 (.call 252 [(.t 10),(.t 68),(.t 69),(.t 70),(.t 71),(.t 72),(cI 8)]) 67 false,
 oG 74 (.un .not (.t 73)) 67 false,
 oP 75 (.pick (.t 67) (cB true) (.t 74))])
 (kL [0,1,2,3,8,10,11,13,15,43,44,45,75] 2 (.cond (.t 75)
 (.seq (.region [
 oP 76 (.load (some 16) (.t 15)),
 oW (.store 16 (.t 10) (.t 76))])
 (kL [0,1,2,3,8,10,11,13,43,44,45] 1 (.region [
 mV 77 13,
 oP 78 (.iaddrA 16 1 (.t 11) (.t 77)),
 oW (.store 1 (.t 78) (cB true))])))
 (.skip)))))))))))))
 (kL [0,1,2,3,8,10,11,43,44,45] 1 (.region [
 oP 79 (.bin .add .num (.t 45) (cI 1)),
 mV 45 79]))))))))))))
 (kL [8,10,11] 1 (.seq (.region [
 oP 16 (.mov (.c (.c .nils)))])
 (kL [8,10,11,16] 1 (.seq (.seq (.region [
 oP 80 (.mov (cI 0))])
 (kL [8,10,11,16,80] 1 (.block 2 (.loop (kL [8,10,11,16,80] 1 (.seq (.region [
 oP 81 (.bin .lss .num (.t 80) (cI 16))])
 (kL [8,10,11,16,80,81] 1 (.seq (.cond (.t 81)
 (.skip)
 (.exit 2))
 (kL [8,10,11,16,80] 1 (.seq (.block 3 (.seq (.region [
 mV 82 80,
 mV 17 82])
 (kL [8,10,11,16,17,80] 1 (.seq (.region [
 mV 83 17,
 mV 84 17,
 oP 85 (.faddr 0 (.t 10)),
 oP 86 (.iaddrA 16 1 (.t 85) (.t 84)),
 oP 87 (lD 86),
 oP 88 (.call 232 [(.t 87)]),
 oP 89 (.faddr 0 (.t 10)),
 oP 90 (.iaddrA 16 1 (.t 89) (.t 83)),
 oW (.store 1 (.t 90) (.t 88))])
 (kL [8,10,11,16,17,80] 1 (.seq (.region [
 mV 91 17,
 oP 92 (.iaddrA 16 1 (.t 11) (.t 91)),
 oP 93 (lD 92)])
 (kL [8,10,11,16,17,80,93] 1 (.cond (.t 93)
 (.region [
 mV 94 16,
 mV 95 17,
 oP 96 (.bslice true 1 1 [(.int .i64 0)] [(0,(1,(.t 95)))]),
 oP 97 (.app 1 8 (.t 94) (.t 96)),
 mV 16 97])
 (.skip)))))))))
 (kL [8,10,11,16,80] 1 (.region [
 oP 98 (.bin .add .num (.t 80) (cI 1)),
 mV 80 98]))))))))))))
 (kL [8,10,16] 0 (.seq (.region [
 oP 99 (.load (some 16) (.t 10)),
 mV 100 16,
 oW (.store 16 (.t 8) (.t 99)),
 mV 9 100])
 (.ret)))))))))))))))
def n247:NF:=⟨101,[8,9],.fin n247b [⟨some 8,.load (some 16) (.t 8),none⟩]⟩
def n237:NF:=⟨101,[4],
 .seq (.region [
 oP 4 (.mov (.c (.c .nilp)))])
 (kL [0,1] 0 (.seq (.region [
 oP 12 (.build [(.int .i64 0),(.int .i64 0),(.int .i64 0),(.int .i64 0),(.int .i64 0),(.int .i64 0),(.int .i64 0),(.int .i64 0),(.int .i64 0),(.int .i64 0),(.int .i64 0),(.int .i64 0),(.int .i64 0),(.int .i64 0),(.int .i64 0),(.int .i64 0),.nils,.nils,.nils,.nils,.nils,.nils,.nils,.nils,.nils,.nils,.nils,.nils,.nils,.nils,.nils,.nils] []),
 oP 13 (.box false 32 (.t 12)),
 mV 5 13])
 (kL [0,1,5] 0 (.seq (.seq (.region [
 oP 14 (.mov (cI 0))])
 (kL [0,1,5,14] 0 (.block 0 (.loop (kL [0,1,5,14] 0 (.seq (.region [
 oP 15 (.bin .lss .num (.t 14) (cI 16))])
 (kL [0,1,5,14,15] 0 (.seq (.cond (.t 15)
 (.skip)
 (.exit 0))
 (kL [0,1,5,14] 0 (.seq (.block 1 (.seq (.region [
 mV 16 14,
 mV 6 16])
 (kL [0,1,5,6,14] 0 (.region [
 mV 17 5,
 mV 18 6,
 oP 19 (.nilck (.t 17)),
 oP 20 (.faddr 0 (.t 19)),
 oP 21 (.iaddrA 16 1 (.t 20) (.t 18)),
 oW (.store 1 (.t 21) (cI (-1)))]))))
 (kL [0,1,5,14] 0 (.region [
 oP 22 (.bin .add .num (.t 14) (cI 1)),
 mV 14 22]))))))))))))
 (kL [0,1,5] 0 (.seq (.region [
 mV 23 5,
 oP 24 (.nilck (.t 23)),
 oP 25 (.faddr 0 (.t 24)),
 oP 26 (.iaddrA 16 1 (.t 25) (cI 0)),
 oW (.store 1 (.t 26) (cI 0))])
 (kL [0,1,5] 0 (.seq (.seq (.region [
 mV 27 0,
 oP 28 (.nilck (.t 27)),
 oP 29 (.faddr 0 (.t 28)),
 oP 30 (lD 29),
 oP 31 (.mov (cI 0))])
 (kL [0,1,5,30,31] 0 (.block 2 (.loop (kL [0,1,5,30,31] 0 (.seq (.region [
 oP 32 (.bin .lss .num (.t 31) (.t 30))])
 (kL [0,1,5,30,31,32] 0 (.seq (.cond (.t 32)
 (.skip)
 (.exit 2))
 (kL [0,1,5,30,31] 0 (.seq (.block 3 (.seq (.region [
 mV 33 31,
 mV 7 33])
 (kL [0,1,5,7,30,31] 0 (.seq (.region [
 mV 34 0,
 oP 35 (.nilck (.t 34)),
 oP 36 (.faddr 0 (.t 35)),
 oP 37 (lD 36),
 oP 38 (.mov (cI 0))])
 (kL [0,1,5,7,30,31,37,38] 0 (.block 4 (.loop (kL [0,1,5,7,30,31,37,38] 0 (.seq (.region [
 oP 39 (.bin .lss .num (.t 38) (.t 37))])
 (kL [0,1,5,7,30,31,37,38,39] 0 (.seq (.cond (.t 39)
 (.skip)
 (.exit 4))
 (kL [0,1,5,7,30,31,37,38] 0 (.seq (.block 5 (.seq (.region [
 mV 40 38,
 mV 8 40])
 (kL [0,1,5,7,8,30,31,37,38] 0 (.seq (.seq (.region [
 mV 41 5,
 mV 42 8,
 oP 43 (.nilck (.t 41)),
 oP 44 (.faddr 0 (.t 43)),
 oP 45 (.iaddrA 16 1 (.t 44) (.t 42)),
 oP 46 (lD 45),
 mV 47 7,
 oP 48 (.bin .neq .num (.t 46) (.t 47))])
 (kL [0,1,5,7,8,30,31,37,38,48] 0 (.cond (.t 48)
 (.exit 5)
 (.skip))))
 (kL [0,1,5,7,8,30,31,37,38] 0 (.seq (.region [
 mV 49 0,
 mV 50 8,
 mV 51 1,
 oP 52 (.call 12 [(.t 49),(.t 50),(.t 51)]),
 oP 53 (.len .sl (.t 52)),
 oP 54 (.mov (cI 0))])
 (kL [0,1,5,7,30,31,37,38,52,53,54] 0 (.block 6 (.loop (kL [0,1,5,7,30,31,37,38,52,53,54] 0 (.seq (.region [
 oP 55 (.bin .lss .num (.t 54) (.t 53))])
 (kL [0,1,5,7,30,31,37,38,52,53,54,55] 0 (.seq (.cond (.t 55)
 (.skip)
 (.exit 6))
 (kL [0,1,5,7,30,31,37,38,52,53,54] 0 (.seq (.block 7 (.seq (.region [
 oP 56 (iA 1 52 54),
 oP 57 (lD 56),
 mV 10 57])
 (kL [0,1,5,7,10,30,31,37,38,52,53,54] 0 (.seq (.region [
 mV 58 5,
 mV 59 10,
 oP 60 (.nilck (.t 58)),
 oP 61 (.faddr 0 (.t 60)),
 oP 62 (.iaddrA 16 1 (.t 61) (.t 59)),
 oP 63 (lD 62),
 oP 64 (.bin .lss .num (.t 63) (cI 0))])
 (kL [0,1,5,7,10,30,31,37,38,52,53,54,64] 0 (.cond (.t 64)
 (.region [
 mV 65 5,
 mV 66 10,
 mV 67 7,
 oP 68 (.bin .add .num (.t 67) (cI 1)),
 oP 69 (.nilck (.t 65)),
 oP 70 (.faddr 0 (.t 69)),
 oP 71 (.iaddrA 16 1 (.t 70) (.t 66)),
 oW (.store 1 (.t 71) (.t 68))])
 (.skip)))))))
 (kL [0,1,5,7,30,31,37,38,52,53,54] 0 (.region [
 oP 72 (.bin .add .num (.t 54) (cI 1)),
 mV 54 72])))))))))))))))))
 (kL [0,1,5,7,30,31,37,38] 0 (.region [
 oP 73 (.bin .add .num (.t 38) (cI 1)),
 mV 38 73])))))))))))))))
 (kL [0,1,5,30,31] 0 (.region [
 oP 74 (.bin .add .num (.t 31) (cI 1)),
 mV 31 74]))))))))))))
 (kL [0,1,5] 0 (.seq (.seq (.region [
 mV 75 0,
 oP 76 (.nilck (.t 75)),
 oP 77 (.faddr 0 (.t 76)),
 oP 78 (lD 77),
 oP 79 (.mov (cI 0))])
 (kL [0,1,5,78,79] 0 (.block 8 (.loop (kL [0,1,5,78,79] 0 (.seq (.region [
 oP 80 (.bin .lss .num (.t 79) (.t 78))])
 (kL [0,1,5,78,79,80] 0 (.seq (.cond (.t 80)
 (.skip)
 (.exit 8))
 (kL [0,1,5,78,79] 0 (.seq (.block 9 (.seq (.region [
 mV 81 79,
 mV 11 81])
 (kL [0,1,5,11,78,79] 0 (.seq (.region [
 mV 82 5,
 mV 83 11,
 oP 84 (.nilck (.t 82)),
 oP 85 (.faddr 0 (.t 84)),
 oP 86 (.iaddrA 16 1 (.t 85) (.t 83)),
 oP 87 (lD 86),
 oP 88 (.bin .gtr .num (.t 87) (cI 0))])
 (kL [0,1,5,11,78,79,88] 0 (.cond (.t 88)
 (.draw 0 [
 ⟨0,none,(mV 89 5),[]⟩,
 ⟨1,none,(mV 90 11),[]⟩,
 ⟨2,none,(mV 91 0),[]⟩,
 ⟨3,none,(mV 92 5),[]⟩,
 ⟨4,none,(mV 93 11),[]⟩,
 ⟨5,none,(mV 94 1),[]⟩,
 ⟨7,none,(oP 96 (.nilck (.t 89))),[]⟩,
 ⟨8,none,(oP 97 (.faddr 16 (.t 96))),[]⟩,
 ⟨6,none,(oP 95 (.call 244 [(.t 91),(.t 92),(.t 93),(.t 94)])),[]⟩,
 ⟨9,none,(oP 98 (.iaddrA 16 1 (.t 97) (.t 90))),[]⟩,
 ⟨10,none,(oW (.store 1 (.t 98) (.t 95))),[]⟩])
 (.skip)))))))
 (kL [0,1,5,78,79] 0 (.region [
 oP 99 (.bin .add .num (.t 79) (cI 1)),
 mV 79 99]))))))))))))
 (kL [5] 0 (.seq (.region [
 mV 100 5,
 mV 4 100])
 (.ret)))))))))))))⟩
def n13:NF:=⟨26,[4],
 .seq (.region [
 oP 4 (.mov (cB false))])
 (kL [0,1] 0 (.seq (.seq (.region [
 mV 6 0,
 oP 7 (.len .sl (.t 6)),
 mV 8 1,
 oP 9 (.len .sl (.t 8)),
 oP 10 (.bin .neq .num (.t 7) (.t 9))])
 (kL [0,1,10] 0 (.cond (.t 10)
 (.seq (.region [
 oP 4 (.mov (cB false))])
 (.ret))
 (.skip))))
 (kL [0,1] 0 (.seq (.seq (.region [
 mV 11 0,
 oP 12 (.len .sl (.t 11)),
 oP 13 (.mov (cI 0))])
 (kL [0,1,12,13] 0 (.block 0 (.loop (kL [0,1,12,13] 0 (.seq (.region [
 oP 14 (.bin .lss .num (.t 13) (.t 12))])
 (kL [0,1,12,13,14] 0 (.seq (.cond (.t 14)
 (.skip)
 (.exit 0))
 (kL [0,1,12,13] 0 (.seq (.block 1 (.seq (.region [
 mV 15 13,
 mV 5 15])
 (kL [0,1,5,12,13] 0 (.seq (.draw 0 [
 ⟨0,none,(mV 16 0),[]⟩,
 ⟨1,none,(mV 17 5),[]⟩,
 ⟨2,none,(oP 18 (iA 1 16 17)),[]⟩,
 ⟨3,none,(oP 19 (lD 18)),[]⟩,
 ⟨4,none,(mV 20 1),[]⟩,
 ⟨5,none,(mV 21 5),[]⟩,
 ⟨6,none,(oP 22 (iA 1 20 21)),[]⟩,
 ⟨7,none,(oP 23 (lD 22)),[]⟩,
 ⟨8,none,(oP 24 (.bin .neq .num (.t 19) (.t 23))),[]⟩])
 (kL [0,1,12,13,24] 0 (.cond (.t 24)
 (.seq (.region [
 oP 4 (.mov (cB false))])
 (.ret))
 (.skip)))))))
 (kL [0,1,12,13] 0 (.region [
 oP 25 (.bin .add .num (.t 13) (cI 1)),
 mV 13 25]))))))))))))
 (kL [] 0 (.seq (.region [
 oP 4 (.mov (cB true))])
 (.ret)))))))⟩
def n229:NF:=⟨26,[4],
 .seq (.region [
 oP 4 (.mov (cB false))])
 (kL [0,1] 0 (.seq (.seq (.region [
 mV 6 0,
 oP 7 (.len .sl (.t 6)),
 mV 8 1,
 oP 9 (.len .sl (.t 8)),
 oP 10 (.bin .neq .num (.t 7) (.t 9))])
 (kL [0,1,10] 0 (.cond (.t 10)
 (.seq (.region [
 oP 4 (.mov (cB false))])
 (.ret))
 (.skip))))
 (kL [0,1] 0 (.seq (.seq (.region [
 mV 11 0,
 oP 12 (.len .sl (.t 11)),
 oP 13 (.mov (cI 0))])
 (kL [0,1,12,13] 0 (.block 0 (.loop (kL [0,1,12,13] 0 (.seq (.region [
 oP 14 (.bin .lss .num (.t 13) (.t 12))])
 (kL [0,1,12,13,14] 0 (.seq (.cond (.t 14)
 (.skip)
 (.exit 0))
 (kL [0,1,12,13] 0 (.seq (.block 1 (.seq (.region [
 mV 15 13,
 mV 5 15])
 (kL [0,1,5,12,13] 0 (.seq (.draw 0 [
 ⟨0,none,(mV 16 0),[]⟩,
 ⟨1,none,(mV 17 5),[]⟩,
 ⟨2,none,(oP 18 (iA 5 16 17)),[]⟩,
 ⟨3,none,(oP 19 (.load (some 5) (.t 18))),[]⟩,
 ⟨4,none,(mV 20 1),[]⟩,
 ⟨5,none,(mV 21 5),[]⟩,
 ⟨6,none,(oP 22 (iA 5 20 21)),[]⟩,
 ⟨7,none,(oP 23 (.load (some 5) (.t 22))),[]⟩,
 ⟨8,none,(oP 24 (.bin .neq (.st [.int,.int,.int,.int,.int]) (.t 19) (.t 23))),[]⟩])
 (kL [0,1,12,13,24] 0 (.cond (.t 24)
 (.seq (.region [
 oP 4 (.mov (cB false))])
 (.ret))
 (.skip)))))))
 (kL [0,1,12,13] 0 (.region [
 oP 25 (.bin .add .num (.t 13) (cI 1)),
 mV 13 25]))))))))))))
 (kL [] 0 (.seq (.region [
 oP 4 (.mov (cB true))])
 (.ret)))))))⟩
def n199:NF:=⟨10,[2],
 .seq (.region [
 oP 2 (.mov (.c (.c .nils)))])
 (kL [0] 0 (.seq (.seq (.region [
 mV 3 0,
 oP 4 (.bin .eql .ptr (.t 3) (.c (.c .nilp)))])
 (kL [0,4] 0 (.cond (.t 4)
 (.seq (.region [
 oP 2 (.mov (.c (.c .nils)))])
 (.ret))
 (.skip))))
 (kL [0] 0 (.seq (.region [
 mV 5 0,
 oP 6 (.nilck (.t 5)),
 oP 7 (.faddr 2 (.t 6)),
 oP 8 (lD 7),
 oP 9 (.call 203 [(.t 8)]),
 mV 2 9])
 (.ret)))))⟩
def n197:NF:=⟨14,[4],
 .seq (.region [
 oP 4 (.mov (.c (.c .nils)))])
 (kL [0,1] 0 (.seq (.seq (.region [
 mV 5 0,
 oP 6 (.bin .eql .ptr (.t 5) (.c (.c .nilp)))])
 (kL [0,1,6] 0 (.cond (.t 6)
 (.seq (.region [
 oP 4 (.mov (.c (.c .nils)))])
 (.ret))
 (.skip))))
 (kL [0,1] 0 (.seq (.region [
 mV 7 0,
 oP 8 (.nilck (.t 7)),
 oP 9 (.faddr 1 (.t 8)),
 oP 10 (lD 9),
 mV 11 1,
 oP 12 (.look (.int .i64) (.c .nils) false (.t 10) (.t 11)),
 oP 13 (.call 203 [(.t 12)]),
 mV 4 13])
 (.ret)))))⟩
def n44:NF:=⟨9,[2],
 .seq (.region [
 oP 2 (.mov (cB false))])
 (kL [0] 0 (.seq (.region [
 mV 3 0,
 oP 4 (.bin .geq .num (.t 3) (cI 0)),
 mV 5 4,
 mG 6 0 5 true,
 oG 7 (.bin .lss .num (.t 6) (cI 16)) 5 true,
 oP 8 (.pick (.t 5) (.t 7) (cB false)),
 mV 2 8])
 (.ret)))⟩
def n121:NF:=⟨54,[2],
 .seq (.region [
 oP 1 (.box true 5 (.t 0)),
 oP 2 (.mov (cB false))])
 (kL [1] 1 (.seq (.region [
 oP 5 (.faddr 3 (.t 1)),
 oP 6 (lD 5),
 oP 7 (.bin .and .num (.t 6) (cI 3)),
 oP 8 (.bin .neq .num (.t 7) (cI 0)),
 mV 3 8])
 (kL [1,3] 1 (.seq (.region [
 oP 9 (.faddr 3 (.t 1)),
 oP 10 (lD 9),
 oP 11 (.bin .and .num (.t 10) (cI 4)),
 oP 12 (.bin .neq .num (.t 11) (cI 0)),
 mV 13 12,
 oG 14 (.faddr 3 (.t 1)) 13 true,
 oG 15 (lD 14) 13 true,
 oG 16 (.bin .and .num (.t 15) (cI 1)) 13 true,
 oG 17 (.bin .eql .num (.t 16) (cI 0)) 13 true,
 oP 18 (.pick (.t 13) (.t 17) (cB false)),
 mV 4 18])
 (kL [1,3,4] 1 (.seq (.region [
 oP 19 (.faddr 0 (.t 1)),
 oP 20 (lD 19),
 oP 21 (.call 124 [(.t 20),(cI 0),(cI 3)]),
 mV 22 21,
 oG 23 (.faddr 1 (.t 1)) 22 true,
 oG 24 (lD 23) 22 true,
 oG 25 (.call 124 [(.t 24),(cI 0),(cI 199)]) 22 true,
 oP 26 (.pick (.t 22) (.t 25) (cB false)),
 mV 27 26,
 oG 28 (.faddr 2 (.t 1)) 27 true,
 oG 29 (lD 28) 27 true,
 oG 30 (.call 124 [(.t 29),(cI 0),(cI 15)]) 27 true,
 oP 31 (.pick (.t 27) (.t 30) (cB false)),
 mV 32 31,
 oG 33 (.faddr 3 (.t 1)) 32 true,
 oG 34 (lD 33) 32 true,
 oG 35 (.call 124 [(.t 34),(cI 1),(cI 15)]) 32 true,
 oP 36 (.pick (.t 32) (.t 35) (cB false)),
 mV 37 36,
 mG 38 3 37 true,
 oP 39 (.pick (.t 37) (.t 38) (cB false)),
 mV 40 39,
 mG 41 4 40 true,
 oG 42 (.un .not (.t 41)) 40 true,
 oP 43 (.pick (.t 40) (.t 42) (cB false)),
 mV 44 43,
 oG 45 (.faddr 4 (.t 1)) 44 true,
 oG 46 (lD 45) 44 true,
 oG 47 (.call 124 [(.t 46),(cI 0),(cI 15)]) 44 true,
 mG 48 47 44 true,
 oG 49 (.faddr 4 (.t 1)) 48 false,
 oG 50 (lD 49) 48 false,
 oG 51 (.bin .eql .num (.t 50) (cI 64)) 48 false,
 oG 52 (.pick (.t 48) (cB true) (.t 51)) 44 true,
 oP 53 (.pick (.t 44) (.t 52) (cB false)),
 mV 2 53])
 (.ret)))))))⟩
def n122:NF:=⟨9,[2],
 .seq (.region [
 oP 2 (.mov (cB false))])
 (kL [0] 0 (.seq (.region [
 mV 3 0,
 oP 4 (.bin .geq .num (.t 3) (cI 0)),
 mV 5 4,
 mG 6 0 5 true,
 oG 7 (.bin .lss .num (.t 6) (cI 16)) 5 true,
 oP 8 (.pick (.t 5) (.t 7) (cB false)),
 mV 2 8])
 (.ret)))⟩
def n123:NF:=⟨44,[8],
 .seq (.region [
 oP 4 (.box true 5 (.t 0)),
 oP 5 (.box true 5 (.t 1)),
 oP 8 (.mov (cB false))])
 (kL [2,3,4,5] 2 (.seq (.region [
 oP 10 (.load (some 5) (.t 4)),
 oP 11 (.call 125 [(.t 10),(cI 1)]),
 mV 12 11,
 oG 13 (.load (some 5) (.t 5)) 12 true,
 oG 14 (.call 125 [(.t 13),(cI 2)]) 12 true,
 oP 15 (.pick (.t 12) (.t 14) (cB false)),
 mV 16 15,
 oG 17 (.load (some 5) (.t 4)) 16 false,
 oG 18 (.call 125 [(.t 17),(cI 2)]) 16 false,
 mG 19 18 16 false,
 oG 20 (.load (some 5) (.t 5)) 19 true,
 oG 21 (.call 125 [(.t 20),(cI 1)]) 19 true,
 oG 22 (.pick (.t 19) (.t 21) (cB false)) 16 false,
 oP 23 (.pick (.t 16) (cB true) (.t 22)),
 mV 9 23])
 (kL [2,3,4,5,9] 2 (.seq (.region [
 oP 24 (.faddr 4 (.t 4)),
 oP 25 (lD 24),
 mV 26 3,
 oP 27 (.bin .eql .num (.t 25) (.t 26)),
 mV 28 27,
 oG 29 (.faddr 4 (.t 5)) 28 true,
 oG 30 (lD 29) 28 true,
 mG 31 2 28 true,
 oG 32 (.bin .eql .num (.t 30) (.t 31)) 28 true,
 oP 33 (.pick (.t 28) (.t 32) (cB false)),
 mV 34 33,
 oG 35 (.faddr 2 (.t 4)) 34 true,
 oG 36 (lD 35) 34 true,
 oG 37 (.faddr 2 (.t 5)) 34 true,
 oG 38 (lD 37) 34 true,
 oG 39 (.bin .eql .num (.t 36) (.t 38)) 34 true,
 oP 40 (.pick (.t 34) (.t 39) (cB false)),
 mV 41 40,
 mG 42 9 41 true,
 oP 43 (.pick (.t 41) (.t 42) (cB false)),
 mV 8 43])
 (.ret)))))⟩
def n218:NF:=⟨69,[2],
 .seq (.region [
 oP 1 (.box true 5 (.t 0)),
 oP 2 (.mov (cB false))])
 (kL [1] 1 (.seq (.region [
 oP 3 (.faddr 0 (.t 1)),
 oP 4 (lD 3),
 oP 5 (.bin .geq .num (.t 4) (cI 0)),
 mV 6 5,
 oG 7 (.faddr 0 (.t 1)) 6 true,
 oG 8 (lD 7) 6 true,
 oG 9 (.bin .lss .num (.t 8) (cI 4)) 6 true,
 oP 10 (.pick (.t 6) (.t 9) (cB false)),
 mV 11 10,
 oG 12 (.faddr 1 (.t 1)) 11 true,
 oG 13 (lD 12) 11 true,
 oG 14 (.bin .geq .num (.t 13) (cI 0)) 11 true,
 oP 15 (.pick (.t 11) (.t 14) (cB false)),
 mV 16 15,
 oG 17 (.faddr 1 (.t 1)) 16 true,
 oG 18 (lD 17) 16 true,
 oG 19 (.bin .lss .num (.t 18) (cI 200)) 16 true,
 oP 20 (.pick (.t 16) (.t 19) (cB false)),
 mV 21 20,
 oG 22 (.faddr 2 (.t 1)) 21 true,
 oG 23 (lD 22) 21 true,
 oG 24 (.bin .geq .num (.t 23) (cI 0)) 21 true,
 oP 25 (.pick (.t 21) (.t 24) (cB false)),
 mV 26 25,
 oG 27 (.faddr 2 (.t 1)) 26 true,
 oG 28 (lD 27) 26 true,
 oG 29 (.bin .leq .num (.t 28) (cI 15)) 26 true,
 oP 30 (.pick (.t 26) (.t 29) (cB false)),
 mV 31 30,
 oG 32 (.faddr 3 (.t 1)) 31 true,
 oG 33 (lD 32) 31 true,
 oG 34 (.bin .geq .num (.t 33) (cI 1)) 31 true,
 oP 35 (.pick (.t 31) (.t 34) (cB false)),
 mV 36 35,
 oG 37 (.faddr 3 (.t 1)) 36 true,
 oG 38 (lD 37) 36 true,
 oG 39 (.bin .leq .num (.t 38) (cI 15)) 36 true,
 oP 40 (.pick (.t 36) (.t 39) (cB false)),
 mV 41 40,
 oG 42 (.faddr 3 (.t 1)) 41 true,
 oG 43 (lD 42) 41 true,
 oG 44 (.bin .and .num (.t 43) (cI 3)) 41 true,
 oG 45 (.bin .neq .num (.t 44) (cI 0)) 41 true,
 oP 46 (.pick (.t 41) (.t 45) (cB false)),
 mV 47 46,
 oG 48 (.faddr 3 (.t 1)) 47 true,
 oG 49 (lD 48) 47 true,
 oG 50 (.bin .and .num (.t 49) (cI 4)) 47 true,
 oG 51 (.bin .eql .num (.t 50) (cI 0)) 47 true,
 mG 52 51 47 true,
 oG 53 (.faddr 3 (.t 1)) 52 false,
 oG 54 (lD 53) 52 false,
 oG 55 (.bin .and .num (.t 54) (cI 1)) 52 false,
 oG 56 (.bin .neq .num (.t 55) (cI 0)) 52 false,
 oG 57 (.pick (.t 52) (cB true) (.t 56)) 47 true,
 oP 58 (.pick (.t 47) (.t 57) (cB false)),
 mV 59 58,
 oG 60 (.faddr 4 (.t 1)) 59 true,
 oG 61 (lD 60) 59 true,
 oG 62 (.call 44 [(.t 61)]) 59 true,
 mG 63 62 59 true,
 oG 64 (.faddr 4 (.t 1)) 63 false,
 oG 65 (lD 64) 63 false,
 oG 66 (.bin .eql .num (.t 65) (cI 64)) 63 false,
 oG 67 (.pick (.t 63) (cB true) (.t 66)) 59 true,
 oP 68 (.pick (.t 59) (.t 67) (cB false)),
 mV 2 68])
 (.ret)))⟩
def n219:NF:=⟨30,[4],
 .seq (.region [
 oP 2 (.box true 5 (.t 0)),
 oP 3 (.box true 5 (.t 1)),
 oP 4 (.mov (cB false))])
 (kL [2,3] 2 (.seq (.draw 0 [
 ⟨0,none,(oP 7 (.faddr 3 (.t 2))),[]⟩,
 ⟨1,none,(oP 8 (lD 7)),[]⟩,
 ⟨2,none,(oP 9 (.bin .and .num (.t 8) (cI 3))),[]⟩,
 ⟨3,none,(oP 10 (.faddr 3 (.t 3))),[]⟩,
 ⟨4,none,(oP 11 (lD 10)),[]⟩,
 ⟨5,none,(oP 12 (.bin .and .num (.t 11) (cI 3))),[]⟩,
 ⟨6,none,(mV 5 9),[]⟩,
 ⟨7,none,(mV 6 12),[]⟩])
 (kL [5,6] 0 (.seq (.region [
 mV 13 5,
 mV 14 6,
 oP 15 (.bin .add .num (.t 13) (.t 14)),
 oP 16 (.bin .eql .num (.t 15) (cI 3)),
 mV 17 16,
 mG 18 5 17 true,
 mG 19 6 17 true,
 oG 20 (.bin .neq .num (.t 18) (.t 19)) 17 true,
 oP 21 (.pick (.t 17) (.t 20) (cB false)),
 mV 22 21,
 mG 23 5 22 true,
 oG 24 (.bin .eql .num (.t 23) (cI 1)) 22 true,
 mG 25 24 22 true,
 mG 26 5 25 false,
 oG 27 (.bin .eql .num (.t 26) (cI 2)) 25 false,
 oG 28 (.pick (.t 25) (cB true) (.t 27)) 22 true,
 oP 29 (.pick (.t 22) (.t 28) (cB false)),
 mV 4 29])
 (.ret)))))⟩
def n126:NF:=⟨10,[6],
 .seq (.region [
 oP 4 (.box false 1 (.t 1)),
 oP 5 (.box false 5 (.t 2)),
 oP 6 (.mov (cB false))])
 (kL [0,4,5] 0 (.seq (.region [
 mV 7 0,
 oP 8 (.mkfn 127 [(.t 5),(.t 4)]),
 oP 9 (.call 128 [(.t 7),(.t 8)]),
 mV 6 9])
 (.ret)))⟩
def n2:NF:=⟨9,[2],
 .seq (.region [
 oP 2 (.mov (.c (.c .nilp)))])
 (kL [0] 0 (.seq (.region [
 mV 3 0,
 oP 4 (.min [(.t 3),(cI 16)]),
 oP 5 (.max [(cI 1),(.t 4)]),
 oP 6 .mkmap,
 oP 7 (.build [(.int .i64 0),.nilm] [(0,(1,(.t 5))),(1,(1,(.t 6)))]),
 oP 8 (.box false 2 (.t 7)),
 mV 2 8])
 (.ret)))⟩
def n19:NF:=⟨8,[2],
 .seq (.region [
 oP 2 (.mov (.c (.c .nilp)))])
 (kL [0] 0 (.seq (.region [
 mV 3 0,
 oP 4 (.min [(.t 3),(cI 16)]),
 oP 5 (.max [(cI 1),(.t 4)]),
 oP 6 (.build [(.int .i64 0),(.int .i64 0),(.int .i64 0),(.int .i64 0),(.int .i64 0),(.int .i64 0),(.int .i64 0),(.int .i64 0),(.int .i64 0),(.int .i64 0),(.int .i64 0),(.int .i64 0),(.int .i64 0),(.int .i64 0),(.int .i64 0),(.int .i64 0),(.int .i64 0),(.int .i64 0),(.int .i64 0),(.int .i64 0),(.int .i64 0),(.int .i64 0),(.int .i64 0),(.int .i64 0),(.int .i64 0),(.int .i64 0),(.int .i64 0),(.int .i64 0),(.int .i64 0),(.int .i64 0),(.int .i64 0),(.int .i64 0),(.int .i64 0),(.int .i64 0),(.int .i64 0),(.int .i64 0),(.int .i64 0),(.int .i64 0),(.int .i64 0),(.int .i64 0),(.int .i64 0),(.int .i64 0),(.int .i64 0),(.int .i64 0),(.int .i64 0),(.int .i64 0),(.int .i64 0),(.int .i64 0),(.int .i64 0),(.int .i64 0),(.int .i64 0),(.int .i64 0),(.int .i64 0),(.int .i64 0),(.int .i64 0),(.int .i64 0),(.int .i64 0),(.int .i64 0),(.int .i64 0),(.int .i64 0),(.int .i64 0),(.int .i64 0),(.int .i64 0),(.int .i64 0),(.int .i64 0),(.int .i64 0),(.int .i64 0),(.int .i64 0),(.int .i64 0),(.int .i64 0),(.int .i64 0),(.int .i64 0),(.int .i64 0),(.int .i64 0),(.int .i64 0),(.int .i64 0),(.int .i64 0),(.int .i64 0),(.int .i64 0),(.int .i64 0),(.int .i64 0),(.int .i64 0),(.int .i64 0),(.int .i64 0),(.int .i64 0),(.int .i64 0),(.int .i64 0),(.int .i64 0),(.int .i64 0),(.int .i64 0),(.int .i64 0),(.int .i64 0),(.int .i64 0),(.int .i64 0),(.int .i64 0),(.int .i64 0),(.int .i64 0),(.int .i64 0),(.int .i64 0),(.int .i64 0),(.int .i64 0),(.int .i64 0),(.int .i64 0),(.int .i64 0),(.int .i64 0),(.int .i64 0),(.int .i64 0),(.int .i64 0),(.int .i64 0),(.int .i64 0),(.int .i64 0),(.int .i64 0),(.int .i64 0),(.int .i64 0),(.int .i64 0),(.int .i64 0),(.int .i64 0),(.int .i64 0),(.int .i64 0),(.int .i64 0),(.int .i64 0),(.int .i64 0),(.int .i64 0),(.int .i64 0),(.int .i64 0),(.int .i64 0),(.int .i64 0),(.int .i64 0),(.int .i64 0),(.int .i64 0),(.int .i64 0),(.int .i64 0),(.int .i64 0),(.int .i64 0),(.int .i64 0),(.int .i64 0),(.int .i64 0),(.int .i64 0),(.int .i64 0),(.int .i64 0),(.int .i64 0),(.int .i64 0),(.int .i64 0),(.int .i64 0),(.int .i64 0),(.int .i64 0),(.int .i64 0),(.int .i64 0),(.int .i64 0),(.int .i64 0),(.int .i64 0),(.int .i64 0),(.int .i64 0),(.int .i64 0),(.int .i64 0),(.int .i64 0),(.int .i64 0),(.int .i64 0),(.int .i64 0),(.int .i64 0),(.int .i64 0),(.int .i64 0),(.int .i64 0),(.int .i64 0),(.int .i64 0),(.int .i64 0),(.int .i64 0),(.int .i64 0),(.int .i64 0),(.int .i64 0),(.int .i64 0),(.int .i64 0),(.int .i64 0),(.int .i64 0),(.int .i64 0),(.int .i64 0),(.int .i64 0),(.int .i64 0),(.int .i64 0),(.int .i64 0),(.int .i64 0),(.int .i64 0),(.int .i64 0),(.int .i64 0),(.int .i64 0),(.int .i64 0),(.int .i64 0),(.int .i64 0),(.int .i64 0),(.int .i64 0),(.int .i64 0),(.int .i64 0),(.int .i64 0),(.int .i64 0),(.int .i64 0),(.int .i64 0),(.int .i64 0),(.int .i64 0),(.int .i64 0),(.int .i64 0),(.int .i64 0),(.int .i64 0),(.int .i64 0),(.int .i64 0),(.int .i64 0),(.int .i64 0),(.int .i64 0),(.int .i64 0),(.int .i64 0),(.int .i64 0),(.int .i64 0),(.int .i64 0),(.int .i64 0),(.int .i64 0),(.int .i64 0),(.int .i64 0),(.int .i64 0),(.int .i64 0),(.int .i64 0),(.int .i64 0),(.int .i64 0),(.int .i64 0),(.int .i64 0),(.int .i64 0),(.int .i64 0),(.int .i64 0),(.int .i64 0),(.int .i64 0),(.int .i64 0),(.int .i64 0),(.int .i64 0),(.int .i64 0),(.int .i64 0),(.int .i64 0),(.int .i64 0),(.int .i64 0),(.int .i64 0),(.int .i64 0),(.int .i64 0),(.int .i64 0),(.int .i64 0),(.int .i64 0),(.int .i64 0),(.int .i64 0),(.int .i64 0),(.int .i64 0),(.int .i64 0),(.int .i64 0),(.int .i64 0),(.int .i64 0),(.int .i64 0),(.int .i64 0),(.int .i64 0),(.int .i64 0),(.int .i64 0),(.int .i64 0),(.int .i64 0)] [(0,(1,(.t 5)))]),
 oP 7 (.box false 257 (.t 6)),
 mV 2 7])
 (.ret)))⟩
def n15:NF:=⟨31,[],
 .seq (.seq (.region [
 mV 5 0,
 mV 6 1,
 oP 7 (.call 18 [(.t 5),(.t 6)]),
 oP 8 (.un .not (.t 7))])
 (kL [0,1,8] 0 (.cond (.t 8)
 (.ret)
 (.skip))))
 (kL [0,1] 0 (.seq (.region [
 mV 9 0,
 oP 10 (.nilck (.t 9)),
 oP 11 (.faddr 0 (.t 10)),
 oP 12 (lD 11),
 oP 13 (.mov (cI 0))])
 (kL [0,1,12,13] 0 (.block 0 (.loop (kL [0,1,12,13] 0 (.seq (.region [
 oP 14 (.bin .lss .num (.t 13) (.t 12))])
 (kL [0,1,12,13,14] 0 (.seq (.cond (.t 14)
 (.skip)
 (.exit 0))
 (kL [0,1,12,13] 0 (.seq (.block 1 (.seq (.region [
 mV 15 13,
 mV 4 15])
 (kL [0,1,4,12,13] 0 (.seq (.region [
 mV 16 0,
 oP 17 (.nilck (.t 16)),
 oP 18 (.faddr 1 (.t 17)),
 oP 19 (lD 18),
 mV 20 1,
 mV 21 4,
 oP 22 (.build [(.int .i64 0),(.int .i64 0)] [(0,(1,(.t 20))),(1,(1,(.t 21)))]),
 oW (.mdel (.arr 2 .i64) (.t 19) (.t 22))])
 (kL [0,1,4,12,13] 0 (.region [
 mV 23 0,
 oP 24 (.nilck (.t 23)),
 oP 25 (.faddr 1 (.t 24)),
 oP 26 (lD 25),
 mV 27 4,
 mV 28 1,
 oP 29 (.build [(.int .i64 0),(.int .i64 0)] [(0,(1,(.t 27))),(1,(1,(.t 28)))]),
 oW (.mdel (.arr 2 .i64) (.t 26) (.t 29))]))))))
 (kL [0,1,12,13] 0 (.region [
 oP 30 (.bin .add .num (.t 13) (cI 1)),
 mV 13 30])))))))))))))⟩
def n20:NF:=⟨26,[],
 .seq (.seq (.region [
 mV 5 0,
 mV 6 1,
 oP 7 (.call 22 [(.t 5),(.t 6)]),
 oP 8 (.un .not (.t 7))])
 (kL [0,1,8] 0 (.cond (.t 8)
 (.ret)
 (.skip))))
 (kL [0,1] 0 (.seq (.region [
 mV 9 0,
 mV 10 1,
 oP 11 (.build [(.int .i64 0),(.int .i64 0),(.int .i64 0),(.int .i64 0),(.int .i64 0),(.int .i64 0),(.int .i64 0),(.int .i64 0),(.int .i64 0),(.int .i64 0),(.int .i64 0),(.int .i64 0),(.int .i64 0),(.int .i64 0),(.int .i64 0),(.int .i64 0)] []),
 oP 12 (.nilck (.t 9)),
 oP 13 (.faddr 1 (.t 12)),
 oP 14 (.iaddrA 16 16 (.t 13) (.t 10)),
 oW (.store 16 (.t 14) (.t 11))])
 (kL [0,1] 0 (.seq (.region [
 oP 15 (.mov (cI 0))])
 (kL [0,1,15] 0 (.block 0 (.loop (kL [0,1,15] 0 (.seq (.region [
 oP 16 (.bin .lss .num (.t 15) (cI 16))])
 (kL [0,1,15,16] 0 (.seq (.cond (.t 16)
 (.skip)
 (.exit 0))
 (kL [0,1,15] 0 (.seq (.block 1 (.seq (.region [
 mV 17 15,
 mV 4 17])
 (kL [0,1,4,15] 0 (.region [
 mV 18 0,
 mV 19 4,
 mV 20 1,
 oP 21 (.nilck (.t 18)),
 oP 22 (.faddr 1 (.t 21)),
 oP 23 (.iaddrA 16 16 (.t 22) (.t 19)),
 oP 24 (.iaddrA 16 1 (.t 23) (.t 20)),
 oW (.store 1 (.t 24) (cI 0))]))))
 (kL [0,1,15] 0 (.region [
 oP 25 (.bin .add .num (.t 15) (cI 1)),
 mV 15 25])))))))))))))))⟩
def n3:NF:=⟨47,[6],
 .seq (.region [
 oP 6 (.mov (cI 0))])
 (kL [0,1,2] 0 (.seq (.seq (.region [
 mV 10 0,
 mV 11 1,
 mV 12 2,
 oP 13 (.call 17 [(.t 10),(.t 11),(.t 12)]),
 oP 14 (.un .not (.t 13))])
 (kL [0,1,2,14] 0 (.cond (.t 14)
 (.seq (.region [
 oP 6 (.mov (cI 1))])
 (.ret))
 (.skip))))
 (kL [0,1,2] 0 (.seq (.seq (.region [
 mV 15 0,
 oP 16 (.nilck (.t 15)),
 oP 17 (.faddr 0 (.t 16)),
 oP 18 (lD 17),
 oP 19 (.mov (cI 0))])
 (kL [0,1,2,18,19] 0 (.block 0 (.loop (kL [0,1,2,18,19] 0 (.seq (.region [
 oP 20 (.bin .lss .num (.t 19) (.t 18))])
 (kL [0,1,2,18,19,20] 0 (.seq (.cond (.t 20)
 (.skip)
 (.exit 0))
 (kL [0,1,2,18,19] 0 (.seq (.block 1 (.seq (.region [
 mV 21 19,
 mV 7 21])
 (kL [0,1,2,7,18,19] 0 (.region [
 mV 22 0,
 oP 23 (.nilck (.t 22)),
 oP 24 (.faddr 1 (.t 23)),
 oP 25 (lD 24),
 mV 26 1,
 mV 27 7,
 oP 28 (.build [(.int .i64 0),(.int .i64 0)] [(0,(1,(.t 26))),(1,(1,(.t 27)))]),
 oW (.mdel (.arr 2 .i64) (.t 25) (.t 28))]))))
 (kL [0,1,2,18,19] 0 (.region [
 oP 29 (.bin .add .num (.t 19) (cI 1)),
 mV 19 29]))))))))))))
 (kL [0,1,2] 0 (.seq (.seq (.region [
 mV 30 2,
 oP 31 (.len .sl (.t 30)),
 oP 32 (.mov (cI 0))])
 (kL [0,1,30,31,32] 0 (.block 2 (.loop (kL [0,1,30,31,32] 0 (.seq (.region [
 oP 33 (.bin .lss .num (.t 32) (.t 31))])
 (kL [0,1,30,31,32,33] 0 (.seq (.cond (.t 33)
 (.skip)
 (.exit 2))
 (kL [0,1,30,31,32] 0 (.seq (.block 3 (.seq (.region [
 oP 34 (iA 3 30 32),
 oP 35 (.load (some 3) (.t 34)),
 oP 9 (.box true 3 (.c (.agg [(.int .i64 0),(.int .i64 0),(.int .i64 0)]))),
 oW (.store 3 (.t 9) (.t 35))])
 (kL [0,1,9,30,31,32] 1 (.draw 0 [
 ⟨0,none,(mV 36 0),[]⟩,
 ⟨1,none,(oP 37 (.nilck (.t 36))),[]⟩,
 ⟨2,none,(oP 38 (.faddr 1 (.t 37))),[]⟩,
 ⟨3,none,(oP 39 (lD 38)),[]⟩,
 ⟨4,none,(mV 40 1),[]⟩,
 ⟨5,none,(oP 41 (.faddr 1 (.t 9))),[]⟩,
 ⟨6,none,(oP 42 (lD 41)),[]⟩,
 ⟨7,none,(oP 43 (.build [(.int .i64 0),(.int .i64 0)] [(0,(1,(.t 40))),(1,(1,(.t 42)))])),[]⟩,
 ⟨8,none,(oP 44 (.faddr 2 (.t 9))),[]⟩,
 ⟨9,none,(oP 45 (lD 44)),[]⟩,
 ⟨10,none,(oW (.mupd (.arr 2 .i64) (.t 39) (.t 43) (.t 45))),[]⟩]))))
 (kL [0,1,30,31,32] 0 (.region [
 oP 46 (.bin .add .num (.t 32) (cI 1)),
 mV 32 46]))))))))))))
 (kL [] 0 (.seq (.region [
 oP 6 (.mov (cI 0))])
 (.ret)))))))))⟩
def n21:NF:=⟨75,[6],
 .seq (.region [
 oP 6 (.mov (cI 0))])
 (kL [0,1,2] 0 (.seq (.seq (.region [
 mV 11 0,
 mV 12 1,
 oP 13 (.call 22 [(.t 11),(.t 12)]),
 oP 14 (.un .not (.t 13)),
 mV 15 14,
 mG 16 2 15 false,
 oG 17 (.len .sl (.t 16)) 15 false,
 oG 18 (.bin .gtr .num (.t 17) (cI 16)) 15 false,
 oP 19 (.pick (.t 15) (cB true) (.t 18))])
 (kL [0,1,2,19] 0 (.cond (.t 19)
 (.seq (.region [
 oP 6 (.mov (cI 1))])
 (.ret))
 (.skip))))
 (kL [0,1,2] 0 (.seq (.region [
 oP 7 (.box true 16 (.c (.agg [(.int .i64 0),(.int .i64 0),(.int .i64 0),(.int .i64 0),(.int .i64 0),(.int .i64 0),(.int .i64 0),(.int .i64 0),(.int .i64 0),(.int .i64 0),(.int .i64 0),(.int .i64 0),(.int .i64 0),(.int .i64 0),(.int .i64 0),(.int .i64 0)])))])
 (kL [0,1,2,7] 1 (.seq (.region [
 oP 20 (.build [(.bool false),(.bool false),(.bool false),(.bool false),(.bool false),(.bool false),(.bool false),(.bool false),(.bool false),(.bool false),(.bool false),(.bool false),(.bool false),(.bool false),(.bool false),(.bool false)] []),
 oP 8 (.box true 16 (.c (.agg [(.bool false),(.bool false),(.bool false),(.bool false),(.bool false),(.bool false),(.bool false),(.bool false),(.bool false),(.bool false),(.bool false),(.bool false),(.bool false),(.bool false),(.bool false),(.bool false)]))),
 oW (.store 16 (.t 8) (.t 20))])
 (kL [0,1,2,7,8] 2 (.seq (.seq (.region [
 mV 21 2,
 oP 22 (.len .sl (.t 21)),
 oP 23 (.mov (cI 0))])
 (kL [0,1,7,8,21,22,23] 2 (.block 0 (.loop (kL [0,1,7,8,21,22,23] 2 (.seq (.region [
 oP 24 (.bin .lss .num (.t 23) (.t 22))])
 (kL [0,1,7,8,21,22,23,24] 2 (.seq (.cond (.t 24)
 (.skip)
 (.exit 0))
 (kL [0,1,7,8,21,22,23] 2 (.seq (.block 1 (.seq (.region [
 oP 25 (iA 3 21 23),
 oP 26 (.load (some 3) (.t 25)),
 oP 10 (.box true 3 (.c (.agg [(.int .i64 0),(.int .i64 0),(.int .i64 0)]))),
 oW (.store 3 (.t 10) (.t 26))])
 (kL [0,1,7,8,10,21,22,23] 3 (.seq (.seq (.region [
 oP 27 (.faddr 0 (.t 10)),
 oP 28 (lD 27),
 mV 29 1,
 oP 30 (.bin .neq .num (.t 28) (.t 29)),
 mV 31 30,
 mG 32 0 31 false,
 oG 33 (.faddr 1 (.t 10)) 31 false,
 oG 34 (lD 33) 31 false,
 oG 35 (.call 22 [(.t 32),(.t 34)]) 31 false,
 oG 36 (.un .not (.t 35)) 31 false,
 oP 37 (.pick (.t 31) (cB true) (.t 36)),
 mV 38 37,
 oG 39 (.faddr 1 (.t 10)) 38 false,
 oG 40 (lD 39) 38 false,
 mG 41 1 38 false,
 oG 42 (.bin .eql .num (.t 40) (.t 41)) 38 false,
 oP 43 (.pick (.t 38) (cB true) (.t 42)),
 mV 44 43,
 oG 45 (.faddr 2 (.t 10)) 44 false,
 oG 46 (lD 45) 44 false,
 oG 47 (.bin .lss .num (.t 46) (cI 0)) 44 false,
 oP 48 (.pick (.t 44) (cB true) (.t 47)),
 mV 49 48,
 oG 50 (.faddr 2 (.t 10)) 49 false,
 oG 51 (lD 50) 49 false,
 oG 52 (.bin .gtr .num (.t 51) (cI 255)) 49 false,
 oP 53 (.pick (.t 49) (cB true) (.t 52)),
 mV 54 53,
 oG 55 (.faddr 1 (.t 10)) 54 false,
 oG 56 (lD 55) 54 false,
 oG 57 (.iaddrA 16 1 (.t 8) (.t 56)) 54 false,
 oG 58 (lD 57) 54 false,
 oP 59 (.pick (.t 54) (cB true) (.t 58))])
 (kL [0,1,7,8,10,21,22,23,59] 3 (.cond (.t 59)
 (.seq (.region [
 oP 6 (.mov (cI 1))])
 (.ret))
 (.skip))))
 (kL [0,1,7,8,10,21,22,23] 3 (.draw 0 [
 ⟨0,none,(oP 60 (.faddr 1 (.t 10))),[]⟩,
 ⟨1,none,(oP 61 (lD 60)),[]⟩,
 ⟨2,none,(oP 62 (.faddr 1 (.t 10))),[]⟩,
 ⟨3,none,(oP 63 (lD 62)),[]⟩,
 ⟨4,none,(oP 64 (.faddr 2 (.t 10))),[]⟩,
 ⟨5,none,(oP 65 (lD 64)),[]⟩,
 ⟨6,none,(oP 66 (.iaddrA 16 1 (.t 8) (.t 61))),[]⟩,
 ⟨7,none,(oW (.store 1 (.t 66) (cB true))),[(3,(oP 63 (lD 62))),(5,(oP 65 (lD 64)))]⟩,
 ⟨8,none,(oP 67 (.iaddrA 16 1 (.t 7) (.t 63))),[]⟩,
 ⟨9,none,(oW (.store 1 (.t 67) (.t 65))),[]⟩]))))))
 (kL [0,1,7,8,21,22,23] 2 (.region [
 oP 68 (.bin .add .num (.t 23) (cI 1)),
 mV 23 68]))))))))))))
 (kL [0,1,7] 1 (.seq (.draw 0 [
 ⟨0,none,(mV 69 0),[]⟩,
 ⟨1,none,(mV 70 1),[]⟩,
 ⟨2,none,(oP 71 (.load (some 16) (.t 7))),[]⟩,
 ⟨3,none,(oP 72 (.nilck (.t 69))),[]⟩,
 ⟨4,none,(oP 73 (.faddr 1 (.t 72))),[]⟩,
 ⟨5,none,(oP 74 (.iaddrA 16 16 (.t 73) (.t 70))),[]⟩,
 ⟨6,none,(oW (.store 16 (.t 74) (.t 71))),[]⟩])
 (kL [] 0 (.seq (.region [
 oP 6 (.mov (cI 0))])
 (.ret)))))))))))))⟩
def n250:NF:=⟨24,[6],
 .seq (.region [
 oP 6 (.mov (cB false))])
 (kL [0,1,2] 0 (.seq (.region [
 mV 8 0,
 oP 9 (.nilck (.t 8)),
 oP 10 (.load (some 20) (.t 9)),
 oP 7 (.box true 20 (.c (.agg [(.int .i64 0),(.int .i64 0),(.int .i64 0),.nils,(.int .i64 0),(.int .i64 0),(.int .i64 0),(.int .i64 0),(.int .i64 0),(.int .i64 0),(.int .i64 0),(.int .i64 0),(.int .i64 0),(.int .i64 0),(.int .i64 0),(.int .i64 0),(.int .i64 0),(.int .i64 0),(.int .i64 0),(.int .i64 0)]))),
 oW (.store 20 (.t 7) (.t 10))])
 (kL [0,1,2,7] 1 (.seq (.seq (.region [
 mV 11 0,
 mV 12 1,
 mV 13 2,
 oP 14 (.call 253 [(.t 11),(.t 12),(.t 13),(cI 0)]),
 mV 15 14,
 mG 16 0 15 true,
 mG 17 2 15 true,
 mG 18 1 15 true,
 oG 19 (.call 253 [(.t 16),(.t 17),(.t 18),(cI 8)]) 15 true,
 oP 20 (.pick (.t 15) (.t 19) (cB false))])
 (kL [0,7,20] 1 (.cond (.t 20)
 (.seq (.region [
 oP 6 (.mov (cB true))])
 (.ret))
 (.skip))))
 (kL [0,7] 1 (.seq (.region [
 mV 21 0,
 oP 22 (.load (some 20) (.t 7)),
 oP 23 (.nilck (.t 21)),
 oW (.store 20 (.t 23) (.t 22))])
 (kL [] 0 (.seq (.region [
 oP 6 (.mov (cB false))])
 (.ret)))))))))⟩
def n74:NF:=⟨11,[],
 .seq (.region [
 mV 3 0,
 oP 4 (.len .sl (.t 3)),
 mV 2 4])
 (kL [0,2] 0 (.region [
 mV 5 0,
 mV 6 2,
 mV 7 2,
 oP 8 (.conv (.toInt .u64) (.t 7)),
 oP 9 (.call 82 [(.t 8)]),
 oP 10 (.call 83 [(.t 5),(cI 0),(.t 6),(.t 9)])]))⟩
def n151:NF:=⟨14,[],
 .seq (.region [
 mV 5 0,
 oP 6 (.len .sl (.t 5)),
 mV 4 6])
 (kL [0,1,4] 0 (.region [
 mV 7 0,
 mV 8 4,
 mV 9 4,
 oP 10 (.conv (.toInt .u64) (.t 9)),
 oP 11 (.call 82 [(.t 10)]),
 mV 12 1,
 oP 13 (.call 155 [(.t 7),(cI 0),(.t 8),(.t 11),(.t 12)])]))⟩
def n251:NF:=⟨8,[4],
 .seq (.region [
 oP 2 (.box true 5 (.t 0)),
 oP 3 (.box true 5 (.t 1)),
 oP 4 (.mov (cI 0))])
 (kL [2,3] 2 (.seq (.seq (.region [
 oP 5 (.load (some 5) (.t 2)),
 oP 6 (.load (some 5) (.t 3)),
 oP 7 (.call 156 [(.t 5),(.t 6)])])
 (kL [7] 0 (.cond (.t 7)
 (.seq (.region [
 oP 4 (.mov (cI (-1)))])
 (.ret))
 (.skip))))
 (kL [] 0 (.seq (.region [
 oP 4 (.mov (cI 1))])
 (.ret)))))⟩
def n156:NF:=⟨9,[4],
 .seq (.region [
 oP 2 (.box true 5 (.t 0)),
 oP 3 (.box true 5 (.t 1)),
 oP 4 (.mov (cB false))])
 (kL [2,3] 2 (.seq (.region [
 oP 5 (.load (some 5) (.t 2)),
 oP 6 (.load (some 5) (.t 3)),
 oP 7 (.call 157 [(.t 5),(.t 6)]),
 oP 8 (.bin .lss .num (.t 7) (cI 0)),
 mV 4 8])
 (.ret)))⟩
def n5:NF:=⟨38,[6],
 .seq (.region [
 oP 6 (.mov (.c (.c .nils)))])
 (kL [0,1,2] 0 (.seq (.seq (.region [
 mV 10 0,
 mV 11 1,
 oP 12 (.call 18 [(.t 10),(.t 11)]),
 oP 13 (.un .not (.t 12))])
 (kL [0,1,2,13] 0 (.cond (.t 13)
 (.seq (.region [
 oP 6 (.mov (.c (.c .nils)))])
 (.ret))
 (.skip))))
 (kL [0,1,2] 0 (.seq (.region [
 oP 7 (.mov (.c (.c .nils)))])
 (kL [0,1,2,7] 0 (.seq (.seq (.region [
 mV 14 0,
 oP 15 (.nilck (.t 14)),
 oP 16 (.faddr 0 (.t 15)),
 oP 17 (lD 16),
 oP 18 (.mov (cI 0))])
 (kL [0,1,2,7,17,18] 0 (.block 0 (.loop (kL [0,1,2,7,17,18] 0 (.seq (.region [
 oP 19 (.bin .lss .num (.t 18) (.t 17))])
 (kL [0,1,2,7,17,18,19] 0 (.seq (.cond (.t 19)
 (.skip)
 (.exit 0))
 (kL [0,1,2,7,17,18] 0 (.seq (.block 1 (.seq (.region [
 mV 20 18,
 mV 8 20])
 (kL [0,1,2,7,8,17,18] 0 (.seq (.region [
 mV 21 0,
 mV 22 1,
 mV 23 8,
 oP 24 (.call 4 [(.t 21),(.t 22),(.t 23)]),
 mV 9 24])
 (kL [0,1,2,7,8,9,17,18] 0 (.seq (.region [
 mV 25 9,
 oP 26 (.bin .gtr .num (.t 25) (cI 0)),
 mV 27 26,
 mG 28 9 27 true,
 mG 29 2 27 true,
 oG 30 (.bin .geq .num (.t 28) (.t 29)) 27 true,
 oP 31 (.pick (.t 27) (.t 30) (cB false))])
 (kL [0,1,2,7,8,17,18,31] 0 (.cond (.t 31)
 (.region [
 mV 32 7,
 mV 33 8,
 oP 34 (.bslice true 1 1 [(.int .i64 0)] [(0,(1,(.t 33)))]),
 oP 35 (.app 1 8 (.t 32) (.t 34)),
 mV 7 35])
 (.skip)))))))))
 (kL [0,1,2,7,17,18] 0 (.region [
 oP 36 (.bin .add .num (.t 18) (cI 1)),
 mV 18 36]))))))))))))
 (kL [7] 0 (.seq (.region [
 mV 37 7,
 mV 6 37])
 (.ret)))))))))⟩
def n202:NF:=⟨57,[8],
 .seq (.region [
 oP 5 (.box false 1 (.t 1)),
 oP 6 (.box false 1 (.t 2)),
 oP 8 (.mov (.c (.c .nils)))])
 (kL [0,3,5,6] 0 (.seq (.region [
 oP 9 (.mov (.c (.c .nils)))])
 (kL [0,3,5,6,9] 0 (.seq (.seq (.region [
 oP 14 (lD 5),
 oP 15 (lD 6),
 mV 16 3,
 oP 17 (.call 5 [(.t 14),(.t 15),(.t 16)]),
 oP 18 (.len .sl (.t 17)),
 oP 19 (.mov (cI 0))])
 (kL [0,5,6,9,17,18,19] 0 (.block 0 (.loop (kL [0,5,6,9,17,18,19] 0 (.seq (.region [
 oP 20 (.bin .lss .num (.t 19) (.t 18))])
 (kL [0,5,6,9,17,18,19,20] 0 (.seq (.cond (.t 20)
 (.skip)
 (.exit 0))
 (kL [0,5,6,9,17,18,19] 0 (.seq (.block 1 (.seq (.region [
 oP 21 (iA 1 17 19),
 oP 22 (lD 21),
 mV 11 22])
 (kL [0,5,6,9,11,17,18,19] 0 (.seq (.region [
 mV 24 0,
 oP 25 (.nilck (.t 24)),
 oP 26 (.faddr 0 (.t 25)),
 oP 27 (lD 26),
 mV 28 11,
 oP 29 (.look (.int .i64) (.c (.int .i64 0)) true (.t 27) (.t 28)),
 mV 23 29,
 oP 30 (.ext (.t 23) 0),
 oP 31 (.ext (.t 23) 1),
 mV 12 30,
 mV 13 31])
 (kL [0,5,6,9,11,12,13,17,18,19] 0 (.seq (.draw 0 [
 ⟨0,none,(mV 32 13),[]⟩,
 ⟨1,none,(mV 33 32),[]⟩,
 ⟨2,none,(mG 34 12 33 true),[]⟩,
 ⟨3,none,(mG 35 0 33 true),[]⟩,
 ⟨4,none,(oG 36 (.nilck (.t 35)) 33 true),[]⟩,
 ⟨5,none,(oG 37 (.faddr 0 (.t 36)) 33 true),[]⟩,
 ⟨6,none,(oG 38 (lD 37) 33 true),[]⟩,
 ⟨7,none,(oG 39 (lD 6) 33 true),[]⟩,
 ⟨8,none,(oG 40 (.look (.int .i64) (.c (.int .i64 0)) false (.t 38) (.t 39)) 33 true),[]⟩,
 ⟨9,none,(oG 41 (.bin .sub .num (.t 40) (cI 1)) 33 true),[]⟩,
 ⟨10,none,(oG 42 (.bin .eql .num (.t 34) (.t 41)) 33 true),[]⟩,
 ⟨11,none,(oP 43 (.pick (.t 33) (.t 42) (cB false))),[]⟩])
 (kL [0,5,6,9,11,17,18,19,43] 0 (.cond (.t 43)
 (.region [
 mV 44 9,
 mV 45 11,
 oP 46 (.bslice true 1 1 [(.int .i64 0)] [(0,(1,(.t 45)))]),
 oP 47 (.app 1 8 (.t 44) (.t 46)),
 mV 9 47])
 (.skip)))))))))
 (kL [0,5,6,9,17,18,19] 0 (.region [
 oP 48 (.bin .add .num (.t 19) (cI 1)),
 mV 19 48]))))))))))))
 (kL [5,6,9] 0 (.seq (.region [
 mV 49 9,
 oP 50 (.mkfn 206 [(.t 5),(.t 6)]),
 oP 51 (.call 207 [(.t 49),(.t 50)])])
 (kL [9] 0 (.seq (.region [
 mV 52 9,
 mV 53 9,
 oP 54 (.len .sl (.t 53)),
 oP 55 (.min [(.t 54),(cI 2)]),
 oP 56 (.slice 1 (.t 52) none (some (.t 55)) none),
 mV 8 56])
 (.ret)))))))))⟩
def n238:NF:=⟨28,[2],
 .seq (.region [
 oP 2 (.mov (.c (.c .nils)))])
 (kL [0] 0 (.seq (.region [
 oP 3 (.mov (.c (.c .nils)))])
 (kL [0,3] 0 (.seq (.seq (.region [
 oP 7 (.mov (cI 0))])
 (kL [0,3,7] 0 (.block 0 (.loop (kL [0,3,7] 0 (.seq (.region [
 oP 8 (.bin .lss .num (.t 7) (cI 16))])
 (kL [0,3,7,8] 0 (.seq (.cond (.t 8)
 (.skip)
 (.exit 0))
 (kL [0,3,7] 0 (.seq (.block 1 (.seq (.region [
 mV 9 7,
 mV 4 9])
 (kL [0,3,4,7] 0 (.seq (.region [
 mV 10 0,
 oP 11 (.nilck (.t 10)),
 oP 12 (.faddr 0 (.t 11)),
 oP 13 (.load (some 16) (.t 12)),
 oP 14 (.mov (cI 0))])
 (kL [0,3,4,7,13,14] 0 (.block 2 (.loop (kL [0,3,4,7,13,14] 0 (.seq (.region [
 oP 15 (.bin .lss .num (.t 14) (cI 16))])
 (kL [0,3,4,7,13,14,15] 0 (.seq (.cond (.t 15)
 (.skip)
 (.exit 2))
 (kL [0,3,4,7,13,14] 0 (.seq (.block 3 (.seq (.region [
 mV 16 14,
 oP 17 (.index 16 1 false (.t 13) (.t 14)),
 mV 5 16,
 mV 6 17])
 (kL [0,3,4,5,6,7,13,14] 0 (.seq (.region [
 mV 18 6,
 mV 19 4,
 oP 20 (.bin .eql .num (.t 18) (.t 19))])
 (kL [0,3,4,5,7,13,14,20] 0 (.cond (.t 20)
 (.region [
 mV 21 3,
 mV 22 5,
 oP 23 (.bslice true 1 1 [(.int .i64 0)] [(0,(1,(.t 22)))]),
 oP 24 (.app 1 8 (.t 21) (.t 23)),
 mV 3 24])
 (.skip)))))))
 (kL [0,3,4,7,13,14] 0 (.region [
 oP 25 (.bin .add .num (.t 14) (cI 1)),
 mV 14 25])))))))))))))))
 (kL [0,3,7] 0 (.region [
 oP 26 (.bin .add .num (.t 7) (cI 1)),
 mV 7 26]))))))))))))
 (kL [3] 0 (.seq (.region [
 mV 27 3,
 mV 2 27])
 (.ret)))))))⟩
def n252:NF:=⟨79,[14],
 .seq (.region [
 oP 14 (.mov (cB false))])
 (kL [0,1,2,3,4,5,6] 0 (.seq (.seq (.region [
 mV 19 4,
 oP 20 (.mov (cI 0))])
 (kL [0,1,2,3,5,6,19,20] 0 (.block 0 (.loop (kL [0,1,2,3,5,6,19,20] 0 (.seq (.region [
 oP 21 (.bin .lss .num (.t 20) (.t 19))])
 (kL [0,1,2,3,5,6,19,20,21] 0 (.seq (.cond (.t 21)
 (.skip)
 (.exit 0))
 (kL [0,1,2,3,5,6,19,20] 0 (.seq (.block 1 (.seq (.region [
 mV 22 20,
 mV 15 22])
 (kL [0,1,2,3,5,6,15,19,20] 0 (.seq (.region [
 mV 23 5,
 oP 24 (.mov (cI 0))])
 (kL [0,1,2,3,5,6,15,19,20,23,24] 0 (.block 2 (.loop (kL [0,1,2,3,5,6,15,19,20,23,24] 0 (.seq (.region [
 oP 25 (.bin .lss .num (.t 24) (.t 23))])
 (kL [0,1,2,3,5,6,15,19,20,23,24,25] 0 (.seq (.cond (.t 25)
 (.skip)
 (.exit 2))
 (kL [0,1,2,3,5,6,15,19,20,23,24] 0 (.seq (.block 3 (.seq (.region [
 mV 26 24,
 mV 16 26])
 (kL [0,1,2,3,5,6,15,16,19,20,23,24] 0 (.seq (.region [
 mV 27 3,
 mV 28 15,
 mV 29 16,
 mV 30 2,
 oP 31 (.build [(.int .i64 0),(.int .i64 0),(.int .i64 0),(.int .i64 0),(.int .i64 0)] [(0,(1,(.t 27))),(1,(1,(.t 28))),(2,(1,(.t 29))),(3,(1,(cI 1))),(4,(1,(.t 30)))]),
 oP 17 (.box true 5 (.c (.agg [(.int .i64 0),(.int .i64 0),(.int .i64 0),(.int .i64 0),(.int .i64 0)]))),
 oW (.store 5 (.t 17) (.t 31))])
 (kL [0,1,2,3,5,6,15,16,17,19,20,23,24] 1 (.seq (.region [
 mV 32 3,
 mV 33 15,
 mV 34 16,
 mV 35 6,
 oP 36 (.bin .or .num (cI 2) (.t 35)),
 mV 37 1,
 oP 38 (.build [(.int .i64 0),(.int .i64 0),(.int .i64 0),(.int .i64 0),(.int .i64 0)] [(0,(1,(.t 32))),(1,(1,(.t 33))),(2,(1,(.t 34))),(3,(1,(.t 36))),(4,(1,(.t 37)))]),
 oP 18 (.box true 5 (.c (.agg [(.int .i64 0),(.int .i64 0),(.int .i64 0),(.int .i64 0),(.int .i64 0)]))),
 oW (.store 5 (.t 18) (.t 38))])
 (kL [0,1,2,3,5,6,15,17,18,19,20,23,24] 2 (.seq (.region [
 mV 39 0,
 oP 40 (.load (some 5) (.t 17)),
 mV 41 1,
 oP 42 (.call 254 [(.t 39),(.t 40),(.t 41)]),
 mV 43 42,
 mG 44 0 43 true,
 oG 45 (.load (some 5) (.t 18)) 43 true,
 mG 46 2 43 true,
 oG 47 (.call 254 [(.t 44),(.t 45),(.t 46)]) 43 true,
 oP 48 (.pick (.t 43) (.t 47) (cB false))])
 (kL [0,1,2,3,5,6,15,17,18,19,20,23,24,48] 2 (.cond (.t 48)
 (.seq (.draw 1 [
 ⟨0,none,(mV 49 0),[]⟩,
 ⟨1,none,(mV 50 1),[]⟩,
 ⟨2,none,(mV 51 0),[]⟩,
 ⟨3,none,(mV 52 1),[]⟩,
 ⟨4,none,(oP 53 (.nilck (.t 51))),[]⟩,
 ⟨5,none,(oP 54 (.faddr 0 (.t 53))),[]⟩,
 ⟨6,none,(oP 55 (.iaddrA 16 1 (.t 54) (.t 52))),[]⟩,
 ⟨7,none,(oP 56 (lD 55)),[]⟩,
 ⟨8,none,(oP 57 (.load (some 5) (.t 17))),[]⟩,
 ⟨11,none,(oP 60 (.nilck (.t 49))),[]⟩,
 ⟨12,none,(oP 61 (.faddr 0 (.t 60))),[]⟩,
 ⟨9,(some 0),(oP 58 (.bslice false 5 1 [(.int .i64 0),(.int .i64 0),(.int .i64 0),(.int .i64 0),(.int .i64 0)] [(0,(5,(.t 57)))])),[]⟩,
 ⟨10,none,(oP 59 (.app 5 40 (.t 56) (.t 58))),[]⟩,
 ⟨13,none,(oP 62 (.iaddrA 16 1 (.t 61) (.t 50))),[]⟩,
 ⟨14,none,(oW (.store 1 (.t 62) (.t 59))),[]⟩])
 (kL [0,2,18] 2 (.seq (.draw 1 [
 ⟨0,none,(mV 63 0),[]⟩,
 ⟨1,none,(mV 64 2),[]⟩,
 ⟨2,none,(mV 65 0),[]⟩,
 ⟨3,none,(mV 66 2),[]⟩,
 ⟨4,none,(oP 67 (.nilck (.t 65))),[]⟩,
 ⟨5,none,(oP 68 (.faddr 0 (.t 67))),[]⟩,
 ⟨6,none,(oP 69 (.iaddrA 16 1 (.t 68) (.t 66))),[]⟩,
 ⟨7,none,(oP 70 (lD 69)),[]⟩,
 ⟨8,none,(oP 71 (.load (some 5) (.t 18))),[]⟩,
 ⟨11,none,(oP 74 (.nilck (.t 63))),[]⟩,
 ⟨12,none,(oP 75 (.faddr 0 (.t 74))),[]⟩,
 ⟨9,(some 0),(oP 72 (.bslice false 5 1 [(.int .i64 0),(.int .i64 0),(.int .i64 0),(.int .i64 0),(.int .i64 0)] [(0,(5,(.t 71)))])),[]⟩,
 ⟨10,none,(oP 73 (.app 5 40 (.t 70) (.t 72))),[]⟩,
 ⟨13,none,(oP 76 (.iaddrA 16 1 (.t 75) (.t 64))),[]⟩,
 ⟨14,none,(oW (.store 1 (.t 76) (.t 73))),[]⟩])
 (kL [] 0 (.seq (.region [
 oP 14 (.mov (cB true))])
 (.ret))))))
 (.skip)))))))))))
 (kL [0,1,2,3,5,6,15,19,20,23,24] 0 (.region [
 oP 77 (.bin .add .num (.t 24) (cI 1)),
 mV 24 77])))))))))))))))
 (kL [0,1,2,3,5,6,19,20] 0 (.region [
 oP 78 (.bin .add .num (.t 20) (cI 1)),
 mV 20 78]))))))))))))
 (kL [] 0 (.seq (.region [
 oP 14 (.mov (cB false))])
 (.ret)))))⟩
def n232:NF:=⟨41,[2],
 .seq (.region [
 oP 2 (.mov (.c (.c .nils)))])
 (kL [0] 0 (.seq (.region [
 oP 3 (.mov (.c (.c .nils)))])
 (kL [0,3] 0 (.seq (.seq (.region [
 mV 7 0,
 oP 8 (.len .sl (.t 7)),
 oP 9 (.mov (cI 0))])
 (kL [3,7,8,9] 0 (.block 0 (.loop (kL [3,7,8,9] 0 (.seq (.region [
 oP 10 (.bin .lss .num (.t 9) (.t 8))])
 (kL [3,7,8,9,10] 0 (.seq (.cond (.t 10)
 (.skip)
 (.exit 0))
 (kL [3,7,8,9] 0 (.seq (.block 1 (.seq (.region [
 oP 11 (iA 5 7 9),
 oP 12 (.load (some 5) (.t 11)),
 oP 5 (.box true 5 (.c (.agg [(.int .i64 0),(.int .i64 0),(.int .i64 0),(.int .i64 0),(.int .i64 0)]))),
 oW (.store 5 (.t 5) (.t 12))])
 (kL [3,5,7,8,9] 1 (.seq (.region [
 oP 6 (.mov (cI 0))])
 (kL [3,5,6,7,8,9] 1 (.seq (.block 2 (.loop (kL [3,5,6,7,8,9] 1 (.seq (.seq (.draw 0 [
 ⟨0,none,(mV 13 6),[]⟩,
 ⟨1,none,(mV 14 3),[]⟩,
 ⟨2,none,(oP 15 (.len .sl (.t 14))),[]⟩,
 ⟨3,none,(oP 16 (.bin .lss .num (.t 13) (.t 15))),[]⟩,
 ⟨4,none,(mV 17 16),[]⟩,
 ⟨5,none,(oG 18 (.load (some 5) (.t 5)) 17 true),[]⟩,
 ⟨6,none,(mG 19 3 17 true),[]⟩,
 ⟨7,none,(mG 20 6 17 true),[]⟩,
 ⟨8,none,(oG 21 (iA 5 19 20) 17 true),[]⟩,
 ⟨9,none,(oG 22 (.load (some 5) (.t 21)) 17 true),[]⟩,
 ⟨10,none,(oG 23 (.call 233 [(.t 18),(.t 22)]) 17 true),[]⟩,
 ⟨11,none,(oG 24 (.un .not (.t 23)) 17 true),[]⟩,
 ⟨12,none,(oP 25 (.pick (.t 17) (.t 24) (cB false))),[]⟩])
 (kL [3,5,6,7,8,9,25] 1 (.cond (.t 25)
 (.skip)
 (.exit 2))))
 (kL [3,5,6,7,8,9] 1 (.block 3 (.region [
 mV 26 6,
 oP 27 (.bin .add .num (.t 26) (cI 1)),
 mV 6 27])))))))
 (kL [3,5,6,7,8,9] 1 (.draw 1 [
 ⟨0,none,(mV 28 3),[]⟩,
 ⟨1,none,(mV 29 6),[]⟩,
 ⟨2,none,(oP 30 (.slice 5 (.t 28) none (some (.t 29)) none)),[]⟩,
 ⟨4,none,(oP 32 (.load (some 5) (.t 5))),[]⟩,
 ⟨7,none,(mV 35 3),[]⟩,
 ⟨8,none,(mV 36 6),[]⟩,
 ⟨9,none,(oP 37 (.slice 5 (.t 35) (some (.t 36)) none none)),[]⟩,
 ⟨3,none,(oP 31 (.app 5 40 (.c (.c .nils)) (.t 30))),[(4,(oP 32 (.load (some 5) (.t 5)))),(9,(oP 37 (.slice 5 (.t 35) (some (.t 36)) none none)))]⟩,
 ⟨5,(some 0),(oP 33 (.bslice false 5 1 [(.int .i64 0),(.int .i64 0),(.int .i64 0),(.int .i64 0),(.int .i64 0)] [(0,(5,(.t 32)))])),[]⟩,
 ⟨6,none,(oP 34 (.app 5 40 (.t 31) (.t 33))),[(9,(oP 37 (.slice 5 (.t 35) (some (.t 36)) none none)))]⟩,
 ⟨10,none,(oP 38 (.app 5 40 (.t 34) (.t 37))),[]⟩,
 ⟨11,none,(mV 3 38),[]⟩]))))))))
 (kL [3,7,8,9] 0 (.region [
 oP 39 (.bin .add .num (.t 9) (cI 1)),
 mV 9 39]))))))))))))
 (kL [3] 0 (.seq (.region [
 mV 40 3,
 mV 2 40])
 (.ret)))))))⟩
def n12:NF:=⟨34,[6],
 .seq (.region [
 oP 6 (.mov (.c (.c .nils)))])
 (kL [0,1,2] 0 (.seq (.region [
 oP 7 (.mov (.c (.c .nils)))])
 (kL [0,1,2,7] 0 (.seq (.seq (.region [
 mV 10 0,
 oP 11 (.nilck (.t 10)),
 oP 12 (.faddr 0 (.t 11)),
 oP 13 (lD 12),
 oP 14 (.mov (cI 0))])
 (kL [0,1,2,7,13,14] 0 (.block 0 (.loop (kL [0,1,2,7,13,14] 0 (.seq (.region [
 oP 15 (.bin .lss .num (.t 14) (.t 13))])
 (kL [0,1,2,7,13,14,15] 0 (.seq (.cond (.t 15)
 (.skip)
 (.exit 0))
 (kL [0,1,2,7,13,14] 0 (.seq (.block 1 (.seq (.region [
 mV 16 14,
 mV 8 16])
 (kL [0,1,2,7,8,13,14] 0 (.seq (.region [
 mV 17 0,
 mV 18 1,
 mV 19 8,
 oP 20 (.call 11 [(.t 17),(.t 18),(.t 19)]),
 mV 9 20])
 (kL [0,1,2,7,8,9,13,14] 0 (.seq (.region [
 mV 21 9,
 oP 22 (.bin .gtr .num (.t 21) (cI 0)),
 mV 23 22,
 mG 24 9 23 true,
 mG 25 2 23 true,
 oG 26 (.bin .geq .num (.t 24) (.t 25)) 23 true,
 oP 27 (.pick (.t 23) (.t 26) (cB false))])
 (kL [0,1,2,7,8,13,14,27] 0 (.cond (.t 27)
 (.region [
 mV 28 7,
 mV 29 8,
 oP 30 (.bslice true 1 1 [(.int .i64 0)] [(0,(1,(.t 29)))]),
 oP 31 (.app 1 8 (.t 28) (.t 30)),
 mV 7 31])
 (.skip)))))))))
 (kL [0,1,2,7,13,14] 0 (.region [
 oP 32 (.bin .add .num (.t 14) (cI 1)),
 mV 14 32]))))))))))))
 (kL [7] 0 (.seq (.region [
 mV 33 7,
 mV 6 33])
 (.ret)))))))⟩
def n244:NF:=⟨59,[8],
 .seq (.region [
 oP 8 (.mov (.c (.c .nils)))])
 (kL [0,1,2,3] 0 (.seq (.region [
 oP 9 (.mov (.c (.c .nils)))])
 (kL [0,1,2,3,9] 0 (.seq (.seq (.region [
 oP 10 (.mov (cI 255))])
 (kL [0,1,2,3,9,10] 0 (.block 0 (.loop (kL [0,1,2,3,9,10] 0 (.seq (.seq (.region [
 mV 13 10,
 oP 14 (.bin .geq .num (.t 13) (cI 1))])
 (kL [0,1,2,3,9,10,14] 0 (.cond (.t 14)
 (.skip)
 (.exit 0))))
 (kL [0,1,2,3,9,10] 0 (.seq (.block 1 (.seq (.region [
 mV 17 0,
 mV 18 2,
 mV 19 3,
 oP 20 (.call 12 [(.t 17),(.t 18),(.t 19)]),
 oP 21 (.len .sl (.t 20)),
 oP 22 (.mov (cI 0))])
 (kL [0,1,2,3,9,10,20,21,22] 0 (.block 2 (.loop (kL [0,1,2,3,9,10,20,21,22] 0 (.seq (.region [
 oP 23 (.bin .lss .num (.t 22) (.t 21))])
 (kL [0,1,2,3,9,10,20,21,22,23] 0 (.seq (.cond (.t 23)
 (.skip)
 (.exit 2))
 (kL [0,1,2,3,9,10,20,21,22] 0 (.seq (.block 3 (.seq (.region [
 oP 24 (iA 1 20 22),
 oP 25 (lD 24),
 mV 12 25])
 (kL [0,1,2,3,9,10,12,20,21,22] 0 (.seq (.draw 0 [
 ⟨0,none,(mV 26 1),[]⟩,
 ⟨1,none,(mV 27 12),[]⟩,
 ⟨2,none,(oP 28 (.nilck (.t 26))),[]⟩,
 ⟨3,none,(oP 29 (.faddr 0 (.t 28))),[]⟩,
 ⟨4,none,(oP 30 (.iaddrA 16 1 (.t 29) (.t 27))),[]⟩,
 ⟨5,none,(oP 31 (lD 30)),[]⟩,
 ⟨6,none,(mV 32 1),[]⟩,
 ⟨7,none,(mV 33 2),[]⟩,
 ⟨8,none,(oP 34 (.nilck (.t 32))),[]⟩,
 ⟨9,none,(oP 35 (.faddr 0 (.t 34))),[]⟩,
 ⟨10,none,(oP 36 (.iaddrA 16 1 (.t 35) (.t 33))),[]⟩,
 ⟨11,none,(oP 37 (lD 36)),[]⟩,
 ⟨12,none,(oP 38 (.bin .sub .num (.t 37) (cI 1))),[]⟩,
 ⟨13,none,(oP 39 (.bin .eql .num (.t 31) (.t 38))),[]⟩,
 ⟨14,none,(mV 40 39),[]⟩,
 ⟨15,none,(mG 41 0 40 true),[]⟩,
 ⟨16,none,(mG 42 2 40 true),[]⟩,
 ⟨17,none,(mG 43 12 40 true),[]⟩,
 ⟨19,none,(mG 45 10 40 true),[]⟩,
 ⟨18,none,(oG 44 (.call 11 [(.t 41),(.t 42),(.t 43)]) 40 true),[]⟩,
 ⟨20,none,(oG 46 (.bin .eql .num (.t 44) (.t 45)) 40 true),[]⟩,
 ⟨21,none,(oP 47 (.pick (.t 40) (.t 46) (cB false))),[]⟩,
 ⟨22,none,(mV 48 47),[]⟩,
 ⟨23,none,(mG 49 9 48 true),[]⟩,
 ⟨24,none,(oG 50 (.len .sl (.t 49)) 48 true),[]⟩,
 ⟨25,none,(oG 51 (.bin .lss .num (.t 50) (cI 2)) 48 true),[]⟩,
 ⟨26,none,(oP 52 (.pick (.t 48) (.t 51) (cB false))),[]⟩])
 (kL [0,1,2,3,9,10,12,20,21,22,52] 0 (.cond (.t 52)
 (.region [
 mV 53 9,
 mV 54 12,
 oP 55 (.bslice true 1 1 [(.int .i64 0)] [(0,(1,(.t 54)))]),
 oP 56 (.app 1 8 (.t 53) (.t 55)),
 mV 9 56])
 (.skip)))))))
 (kL [0,1,2,3,9,10,20,21,22] 0 (.region [
 oP 57 (.bin .add .num (.t 22) (cI 1)),
 mV 22 57])))))))))))))
 (kL [0,1,2,3,9,10] 0 (.region [
 mV 15 10,
 oP 16 (.bin .sub .num (.t 15) (cI 1)),
 mV 10 16]))))))))))
 (kL [9] 0 (.seq (.region [
 mV 58 9,
 mV 8 58])
 (.ret)))))))⟩
def n203:NF:=⟨8,[2],
 .seq (.region [
 oP 2 (.mov (.c (.c .nils)))])
 (kL [0] 0 (.seq (.seq (.region [
 mV 3 0,
 oP 4 (.bin .eql .sl (.t 3) (.c (.c .nils)))])
 (kL [0,4] 0 (.cond (.t 4)
 (.seq (.region [
 oP 2 (.mov (.c (.c .nils)))])
 (.ret))
 (.skip))))
 (kL [0] 0 (.seq (.region [
 oP 5 (.bslice false 1 0 [(.int .i64 0)] []),
 mV 6 0,
 oP 7 (.app 1 8 (.t 5) (.t 6)),
 mV 2 7])
 (.ret)))))⟩
def n124:NF:=⟨15,[6],
 .seq (.region [
 oP 6 (.mov (cB false))])
 (kL [0,1,2] 0 (.seq (.region [
 mV 7 0,
 mV 8 1,
 oP 9 (.bin .geq .num (.t 7) (.t 8)),
 mV 10 9,
 mG 11 0 10 true,
 mG 12 2 10 true,
 oG 13 (.bin .leq .num (.t 11) (.t 12)) 10 true,
 oP 14 (.pick (.t 10) (.t 13) (cB false)),
 mV 6 14])
 (.ret)))⟩
def n125:NF:=⟨10,[4],
 .seq (.region [
 oP 2 (.box true 5 (.t 0)),
 oP 4 (.mov (cB false))])
 (kL [1,2] 1 (.seq (.region [
 oP 5 (.faddr 3 (.t 2)),
 oP 6 (lD 5),
 oP 7 (.bin .and .num (.t 6) (cI 3)),
 mV 8 1,
 oP 9 (.bin .eql .num (.t 7) (.t 8)),
 mV 4 9])
 (.ret)))⟩
def n128:NF:=⟨9,[4],
 .seq (.region [
 oP 4 (.mov (cB false))])
 (kL [0,1] 0 (.seq (.region [
 mV 5 0,
 mV 6 1,
 oP 7 (.call 129 [(.t 5),(.t 6)]),
 oP 8 (.bin .geq .num (.t 7) (cI 0)),
 mV 4 8])
 (.ret)))⟩
def n127:NF:=⟨12,[4],
 .seq (.region [
 oP 3 (.box true 6 (.t 0)),
 oP 4 (.mov (cB false))])
 (kL [1,2,3] 1 (.seq (.region [
 oP 5 (.faddr 1 (.t 3)),
 oP 6 (.load (some 5) (.t 5)),
 oP 7 (.load (some 5) (.t 1)),
 oP 8 (.faddr 0 (.t 3)),
 oP 9 (lD 8),
 oP 10 (lD 2),
 oP 11 (.call 118 [(.t 6),(.t 7),(.t 9),(.t 10)]),
 mV 4 11])
 (.ret)))⟩
def n18:NF:=⟨19,[4],
 .seq (.region [
 oP 4 (.mov (cB false))])
 (kL [0,1] 0 (.seq (.region [
 mV 5 0,
 oP 6 (.bin .neq .ptr (.t 5) (.c (.c .nilp))),
 mV 7 6,
 mG 8 1 7 true,
 oG 9 (.bin .geq .num (.t 8) (cI 0)) 7 true,
 oP 10 (.pick (.t 7) (.t 9) (cB false)),
 mV 11 10,
 mG 12 1 11 true,
 mG 13 0 11 true,
 oG 14 (.nilck (.t 13)) 11 true,
 oG 15 (.faddr 0 (.t 14)) 11 true,
 oG 16 (lD 15) 11 true,
 oG 17 (.bin .lss .num (.t 12) (.t 16)) 11 true,
 oP 18 (.pick (.t 11) (.t 17) (cB false)),
 mV 4 18])
 (.ret)))⟩
def n22:NF:=⟨15,[4],
 .seq (.region [
 oP 4 (.mov (cB false))])
 (kL [0,1] 0 (.seq (.region [
 mV 5 1,
 oP 6 (.bin .geq .num (.t 5) (cI 0)),
 mV 7 6,
 mG 8 1 7 true,
 mG 9 0 7 true,
 oG 10 (.nilck (.t 9)) 7 true,
 oG 11 (.faddr 0 (.t 10)) 7 true,
 oG 12 (lD 11) 7 true,
 oG 13 (.bin .lss .num (.t 8) (.t 12)) 7 true,
 oP 14 (.pick (.t 7) (.t 13) (cB false)),
 mV 4 14])
 (.ret)))⟩
def n17:NF:=⟨66,[6],
 .seq (.region [
 oP 6 (.mov (cB false))])
 (kL [0,1,2] 0 (.seq (.seq (.region [
 mV 10 0,
 mV 11 1,
 oP 12 (.call 18 [(.t 10),(.t 11)]),
 oP 13 (.un .not (.t 12)),
 mV 14 13,
 mG 15 2 14 false,
 oG 16 (.len .sl (.t 15)) 14 false,
 oG 17 (.bin .gtr .num (.t 16) (cI 16)) 14 false,
 oP 18 (.pick (.t 14) (cB true) (.t 17))])
 (kL [0,1,2,18] 0 (.cond (.t 18)
 (.seq (.region [
 oP 6 (.mov (cB false))])
 (.ret))
 (.skip))))
 (kL [0,1,2] 0 (.seq (.region [
 oP 19 .mkmap,
 mV 7 19])
 (kL [0,1,2,7] 0 (.seq (.seq (.region [
 mV 20 2,
 oP 21 (.len .sl (.t 20)),
 oP 22 (.mov (cI 0))])
 (kL [0,1,7,20,21,22] 0 (.block 0 (.loop (kL [0,1,7,20,21,22] 0 (.seq (.region [
 oP 23 (.bin .lss .num (.t 22) (.t 21))])
 (kL [0,1,7,20,21,22,23] 0 (.seq (.cond (.t 23)
 (.skip)
 (.exit 0))
 (kL [0,1,7,20,21,22] 0 (.seq (.block 1 (.seq (.region [
 oP 24 (iA 3 20 22),
 oP 25 (.load (some 3) (.t 24)),
 oP 9 (.box true 3 (.c (.agg [(.int .i64 0),(.int .i64 0),(.int .i64 0)]))),
 oW (.store 3 (.t 9) (.t 25))])
 (kL [0,1,7,9,20,21,22] 1 (.seq (.region [
 mV 26 7,
 oP 27 (.faddr 1 (.t 9)),
 oP 28 (lD 27),
 oP 29 (.look (.int .i64) (.c (.int .i64 0)) false (.t 26) (.t 28)),
 oP 30 (.bin .add .num (.t 29) (cI 1)),
 oW (.mupd (.int .i64) (.t 26) (.t 28) (.t 30))])
 (kL [0,1,7,9,20,21,22] 1 (.seq (.region [
 oP 31 (.faddr 0 (.t 9)),
 oP 32 (lD 31),
 mV 33 1,
 oP 34 (.bin .neq .num (.t 32) (.t 33)),
 mV 35 34,
 oG 36 (.faddr 1 (.t 9)) 35 false,
 oG 37 (lD 36) 35 false,
 mG 38 1 35 false,
 oG 39 (.bin .eql .num (.t 37) (.t 38)) 35 false,
 oP 40 (.pick (.t 35) (cB true) (.t 39)),
 mV 41 40,
 mG 42 0 41 false,
 oG 43 (.faddr 1 (.t 9)) 41 false,
 oG 44 (lD 43) 41 false,
 oG 45 (.call 18 [(.t 42),(.t 44)]) 41 false,
 oG 46 (.un .not (.t 45)) 41 false,
 oP 47 (.pick (.t 41) (cB true) (.t 46)),
 mV 48 47,
 oG 49 (.faddr 2 (.t 9)) 48 false,
 oG 50 (lD 49) 48 false,
 oG 51 (.bin .lss .num (.t 50) (cI 0)) 48 false,
 oP 52 (.pick (.t 48) (cB true) (.t 51)),
 mV 53 52,
 oG 54 (.faddr 2 (.t 9)) 53 false,
 oG 55 (lD 54) 53 false,
 oG 56 (.bin .gtr .num (.t 55) (cI 255)) 53 false,
 oP 57 (.pick (.t 53) (cB true) (.t 56)),
 mV 58 57,
 mG 59 7 58 false,
 oG 60 (.faddr 1 (.t 9)) 58 false,
 oG 61 (lD 60) 58 false,
 oG 62 (.look (.int .i64) (.c (.int .i64 0)) false (.t 59) (.t 61)) 58 false,
 oG 63 (.bin .gtr .num (.t 62) (cI 1)) 58 false,
 oP 64 (.pick (.t 58) (cB true) (.t 63))])
 (kL [0,1,7,20,21,22,64] 0 (.cond (.t 64)
 (.seq (.region [
 oP 6 (.mov (cB false))])
 (.ret))
 (.skip)))))))))
 (kL [0,1,7,20,21,22] 0 (.region [
 oP 65 (.bin .add .num (.t 22) (cI 1)),
 mV 22 65]))))))))))))
 (kL [] 0 (.seq (.region [
 oP 6 (.mov (cB true))])
 (.ret)))))))))⟩
def n253:NF:=⟨89,[8],
 .seq (.region [
 oP 8 (.mov (cB false))])
 (kL [0,1,2,3] 0 (.seq (.seq (.region [
 mV 13 0,
 mV 14 1,
 oP 15 (.nilck (.t 13)),
 oP 16 (.faddr 4 (.t 15)),
 oP 17 (.iaddrA 16 1 (.t 16) (.t 14)),
 oP 18 (lD 17),
 oP 19 (.bin .geq .num (.t 18) (cI 64)),
 mV 20 19,
 mG 21 0 20 false,
 mG 22 2 20 false,
 oG 23 (.nilck (.t 21)) 20 false,
 oG 24 (.faddr 4 (.t 23)) 20 false,
 oG 25 (.iaddrA 16 1 (.t 24) (.t 22)) 20 false,
 oG 26 (lD 25) 20 false,
 oG 27 (.bin .geq .num (.t 26) (cI 64)) 20 false,
 oP 28 (.pick (.t 20) (cB true) (.t 27))])
 (kL [0,1,2,3,28] 0 (.cond (.t 28)
 (.seq (.region [
 oP 8 (.mov (cB false))])
 (.ret))
 (.skip))))
 (kL [0,1,2,3] 0 (.seq (.seq (.region [
 mV 29 0,
 oP 30 (.nilck (.t 29)),
 oP 31 (.faddr 1 (.t 30)),
 oP 32 (lD 31),
 oP 33 (.mov (cI 0))])
 (kL [0,1,2,3,32,33] 0 (.block 0 (.loop (kL [0,1,2,3,32,33] 0 (.seq (.region [
 oP 34 (.bin .lss .num (.t 33) (.t 32))])
 (kL [0,1,2,3,32,33,34] 0 (.seq (.cond (.t 34)
 (.skip)
 (.exit 0))
 (kL [0,1,2,3,32,33] 0 (.seq (.block 1 (.seq (.region [
 mV 35 33,
 mV 9 35])
 (kL [0,1,2,3,9,32,33] 0 (.seq (.region [
 mV 36 0,
 oP 37 (.nilck (.t 36)),
 oP 38 (.faddr 2 (.t 37)),
 oP 39 (lD 38),
 oP 40 (.mov (cI 0))])
 (kL [0,1,2,3,9,32,33,39,40] 0 (.block 2 (.loop (kL [0,1,2,3,9,32,33,39,40] 0 (.seq (.region [
 oP 41 (.bin .lss .num (.t 40) (.t 39))])
 (kL [0,1,2,3,9,32,33,39,40,41] 0 (.seq (.cond (.t 41)
 (.skip)
 (.exit 2))
 (kL [0,1,2,3,9,32,33,39,40] 0 (.seq (.block 3 (.seq (.region [
 mV 42 40,
 mV 10 42])
 (kL [0,1,2,3,9,10,32,33,39,40] 0 (.seq (.region [
 mV 43 0,
 oP 44 (.nilck (.t 43)),
 oP 45 (.faddr 0 (.t 44)),
 oP 46 (lD 45),
 mV 47 9,
 mV 48 10,
 mV 49 2,
 oP 50 (.build [(.int .i64 0),(.int .i64 0),(.int .i64 0),(.int .i64 0),(.int .i64 0)] [(0,(1,(.t 46))),(1,(1,(.t 47))),(2,(1,(.t 48))),(3,(1,(cI 1))),(4,(1,(.t 49)))]),
 oP 11 (.box true 5 (.c (.agg [(.int .i64 0),(.int .i64 0),(.int .i64 0),(.int .i64 0),(.int .i64 0)]))),
 oW (.store 5 (.t 11) (.t 50))])
 (kL [0,1,2,3,9,10,11,32,33,39,40] 1 (.seq (.region [
 mV 51 0,
 oP 52 (.nilck (.t 51)),
 oP 53 (.faddr 0 (.t 52)),
 oP 54 (lD 53),
 mV 55 9,
 mV 56 10,
 mV 57 3,
 oP 58 (.bin .or .num (cI 2) (.t 57)),
 mV 59 1,
 oP 60 (.build [(.int .i64 0),(.int .i64 0),(.int .i64 0),(.int .i64 0),(.int .i64 0)] [(0,(1,(.t 54))),(1,(1,(.t 55))),(2,(1,(.t 56))),(3,(1,(.t 58))),(4,(1,(.t 59)))]),
 oP 12 (.box true 5 (.c (.agg [(.int .i64 0),(.int .i64 0),(.int .i64 0),(.int .i64 0),(.int .i64 0)]))),
 oW (.store 5 (.t 12) (.t 60))])
 (kL [0,1,2,3,9,11,12,32,33,39,40] 2 (.seq (.draw 0 [
 ⟨0,none,(mV 61 0),[]⟩,
 ⟨1,none,(oP 62 (.nilck (.t 61))),[]⟩,
 ⟨2,none,(oP 63 (.faddr 3 (.t 62))),[]⟩,
 ⟨3,none,(oP 64 (lD 63)),[]⟩,
 ⟨4,none,(mV 65 1),[]⟩,
 ⟨5,none,(oP 66 (.load (some 5) (.t 11))),[]⟩,
 ⟨6,none,(oP 67 (.call 126 [(.t 64),(.t 65),(.t 66)])),[]⟩,
 ⟨7,none,(oP 68 (.un .not (.t 67))),[]⟩,
 ⟨8,none,(mV 69 68),[]⟩,
 ⟨9,none,(mG 70 0 69 true),[]⟩,
 ⟨10,none,(oG 71 (.nilck (.t 70)) 69 true),[]⟩,
 ⟨11,none,(oG 72 (.faddr 3 (.t 71)) 69 true),[]⟩,
 ⟨12,none,(oG 73 (lD 72) 69 true),[]⟩,
 ⟨13,none,(mG 74 2 69 true),[]⟩,
 ⟨14,none,(oG 75 (.load (some 5) (.t 12)) 69 true),[]⟩,
 ⟨15,none,(oG 76 (.call 126 [(.t 73),(.t 74),(.t 75)]) 69 true),[]⟩,
 ⟨16,none,(oG 77 (.un .not (.t 76)) 69 true),[]⟩,
 ⟨17,none,(oP 78 (.pick (.t 69) (.t 77) (cB false))),[]⟩])
 (kL [0,1,2,3,9,11,12,32,33,39,40,78] 2 (.cond (.t 78)
 (.seq (.region [
 mV 79 0,
 mV 80 1,
 oP 81 (.load (some 5) (.t 11)),
 oP 82 (.call 255 [(.t 79),(.t 80),(.t 81)])])
 (kL [0,2,12] 2 (.seq (.region [
 mV 83 0,
 mV 84 2,
 oP 85 (.load (some 5) (.t 12)),
 oP 86 (.call 255 [(.t 83),(.t 84),(.t 85)])])
 (kL [] 0 (.seq (.region [
 oP 8 (.mov (cB true))])
 (.ret))))))
 (.skip)))))))))))
 (kL [0,1,2,3,9,32,33,39,40] 0 (.region [
 oP 87 (.bin .add .num (.t 40) (cI 1)),
 mV 40 87])))))))))))))))
 (kL [0,1,2,3,32,33] 0 (.region [
 oP 88 (.bin .add .num (.t 33) (cI 1)),
 mV 33 88]))))))))))))
 (kL [] 0 (.seq (.region [
 oP 8 (.mov (cB false))])
 (.ret)))))))⟩
def n83:NF:=⟨134,[],
 .seq (.region [
 oP 8 (.mov (cB true))])
 (kL [0,1,2,3,8] 0 (.seq (.region [
 oP 9 (.mov (cB true))])
 (kL [0,1,2,3,8,9] 0 (.block 0 (.loop (kL [0,1,2,3,8,9] 0 (.block 1 (.seq (.region [
 mV 19 2,
 mV 20 1,
 oP 21 (.bin .sub .num (.t 19) (.t 20)),
 mV 10 21])
 (kL [0,1,2,3,8,9,10] 0 (.seq (.seq (.region [
 mV 22 10,
 oP 23 (.bin .leq .num (.t 22) (cI 12))])
 (kL [0,1,2,3,8,9,10,23] 0 (.cond (.t 23)
 (.seq (.region [
 mV 24 0,
 mV 25 1,
 mV 26 2,
 oP 27 (.call 87 [(.t 24),(.t 25),(.t 26)])])
 (.ret))
 (.skip))))
 (kL [0,1,2,3,8,9,10] 0 (.seq (.seq (.region [
 mV 28 3,
 oP 29 (.bin .eql .num (.t 28) (cI 0))])
 (kL [0,1,2,3,8,9,10,29] 0 (.cond (.t 29)
 (.seq (.region [
 mV 30 0,
 mV 31 1,
 mV 32 2,
 oP 33 (.call 88 [(.t 30),(.t 31),(.t 32)])])
 (.ret))
 (.skip))))
 (kL [0,1,2,3,8,9,10] 0 (.seq (.seq (.region [
 mV 34 8,
 oP 35 (.un .not (.t 34))])
 (kL [0,1,2,3,8,9,10,35] 0 (.cond (.t 35)
 (.seq (.region [
 mV 36 0,
 mV 37 1,
 mV 38 2,
 oP 39 (.call 89 [(.t 36),(.t 37),(.t 38)])])
 (kL [0,1,2,3,8,9,10] 0 (.region [
 mV 40 3,
 oP 41 (.bin .sub .num (.t 40) (cI 1)),
 mV 3 41])))
 (.skip))))
 (kL [0,1,2,3,8,9,10] 0 (.seq (.region [
 mV 43 0,
 mV 44 1,
 mV 45 2,
 oP 46 (.call 90 [(.t 43),(.t 44),(.t 45)]),
 mV 42 46,
 oP 47 (.ext (.t 42) 0),
 oP 48 (.ext (.t 42) 1),
 mV 11 47,
 mV 12 48])
 (kL [0,1,2,3,8,9,10,11,12] 0 (.seq (.seq (.region [
 mV 49 12,
 oP 50 (.bin .eql .num (.t 49) (cI 2))])
 (kL [0,1,2,3,8,9,10,11,12,50] 0 (.cond (.t 50)
 (.seq (.region [
 mV 51 0,
 mV 52 1,
 mV 53 2,
 oP 54 (.call 91 [(.t 51),(.t 52),(.t 53)])])
 (kL [0,1,2,3,8,9,10,11] 0 (.seq (.region [
 mV 55 2,
 oP 56 (.bin .sub .num (.t 55) (cI 1)),
 mV 57 11,
 mV 58 1,
 oP 59 (.bin .sub .num (.t 57) (.t 58)),
 oP 60 (.bin .sub .num (.t 56) (.t 59)),
 mV 11 60])
 (kL [0,1,2,3,8,9,10,11] 0 (.region [
 oP 12 (.mov (cI 1))])))))
 (.skip))))
 (kL [0,1,2,3,8,9,10,11,12] 0 (.seq (.seq (.region [
 mV 61 8,
 mV 62 61,
 mG 63 9 62 true,
 oP 64 (.pick (.t 62) (.t 63) (cB false)),
 mV 65 64,
 mG 66 12 65 true,
 oG 67 (.bin .eql .num (.t 66) (cI 1)) 65 true,
 oP 68 (.pick (.t 65) (.t 67) (cB false))])
 (kL [0,1,2,3,8,9,10,11,68] 0 (.cond (.t 68)
 (.seq (.region [
 mV 69 0,
 mV 70 1,
 mV 71 2,
 oP 72 (.call 92 [(.t 69),(.t 70),(.t 71)])])
 (kL [0,1,2,3,8,9,10,11,72] 0 (.cond (.t 72)
 (.ret)
 (.skip))))
 (.skip))))
 (kL [0,1,2,3,8,9,10,11] 0 (.seq (.seq (.draw 0 [
 ⟨0,none,(mV 73 1),[]⟩,
 ⟨1,none,(oP 74 (.bin .gtr .num (.t 73) (cI 0))),[]⟩,
 ⟨2,none,(mV 75 74),[]⟩,
 ⟨3,none,(mG 76 0 75 true),[]⟩,
 ⟨4,none,(mG 77 1 75 true),[]⟩,
 ⟨5,none,(oG 78 (.bin .sub .num (.t 77) (cI 1)) 75 true),[]⟩,
 ⟨6,none,(oG 79 (iA 1 76 78) 75 true),[]⟩,
 ⟨7,none,(oG 80 (lD 79) 75 true),[]⟩,
 ⟨8,none,(mG 81 0 75 true),[]⟩,
 ⟨9,none,(mG 82 11 75 true),[]⟩,
 ⟨10,none,(oG 83 (iA 1 81 82) 75 true),[]⟩,
 ⟨11,none,(oG 84 (lD 83) 75 true),[]⟩,
 ⟨12,none,(oG 85 (.call 93 [(.t 80),(.t 84)]) 75 true),[]⟩,
 ⟨13,none,(oG 86 (.un .not (.t 85)) 75 true),[]⟩,
 ⟨14,none,(oP 87 (.pick (.t 75) (.t 86) (cB false))),[]⟩])
 (kL [0,1,2,3,8,9,10,11,87] 0 (.cond (.t 87)
 (.seq (.region [
 mV 88 0,
 mV 89 1,
 mV 90 2,
 mV 91 11,
 oP 92 (.call 94 [(.t 88),(.t 89),(.t 90),(.t 91)]),
 mV 13 92])
 (kL [0,2,3,8,9,13] 0 (.seq (.region [
 mV 93 13,
 mV 1 93])
 (.exit 1))))
 (.skip))))
 (kL [0,1,2,3,10,11] 0 (.seq (.region [
 mV 95 0,
 mV 96 1,
 mV 97 2,
 mV 98 11,
 oP 99 (.call 95 [(.t 95),(.t 96),(.t 97),(.t 98)]),
 mV 94 99,
 oP 100 (.ext (.t 94) 0),
 oP 101 (.ext (.t 94) 1),
 mV 14 100,
 mV 15 101])
 (kL [0,1,2,3,10,14,15] 0 (.seq (.region [
 mV 102 15,
 mV 9 102])
 (kL [0,1,2,3,9,10,14] 0 (.seq (.region [
 mV 103 14,
 mV 104 1,
 oP 105 (.bin .sub .num (.t 103) (.t 104)),
 mV 106 2,
 mV 107 14,
 oP 108 (.bin .sub .num (.t 106) (.t 107)),
 mV 16 105,
 mV 17 108])
 (kL [0,1,2,3,9,10,14,16,17] 0 (.seq (.region [
 mV 109 10,
 oP 110 (.bin .quo .num (.t 109) (cI 8)),
 mV 18 110])
 (kL [0,1,2,3,9,14,16,17,18] 0 (.seq (.region [
 mV 111 16,
 mV 112 17,
 oP 113 (.bin .lss .num (.t 111) (.t 112))])
 (kL [0,1,2,3,9,14,16,17,18,113] 0 (.cond (.t 113)
 (.seq (.region [
 mV 114 16,
 mV 115 18,
 oP 116 (.bin .geq .num (.t 114) (.t 115)),
 mV 8 116])
 (kL [0,1,2,3,8,9,14] 0 (.seq (.region [
 mV 117 0,
 mV 118 1,
 mV 119 14,
 mV 120 3,
 oP 121 (.call 83 [(.t 117),(.t 118),(.t 119),(.t 120)])])
 (kL [0,2,3,8,9,14] 0 (.region [
 mV 122 14,
 oP 123 (.bin .add .num (.t 122) (cI 1)),
 mV 1 123])))))
 (.seq (.region [
 mV 124 17,
 mV 125 18,
 oP 126 (.bin .geq .num (.t 124) (.t 125)),
 mV 8 126])
 (kL [0,1,2,3,8,9,14] 0 (.seq (.region [
 mV 127 0,
 mV 128 14,
 oP 129 (.bin .add .num (.t 128) (cI 1)),
 mV 130 2,
 mV 131 3,
 oP 132 (.call 83 [(.t 127),(.t 129),(.t 130),(.t 131)])])
 (kL [0,1,3,8,9,14] 0 (.region [
 mV 133 14,
 mV 2 133])))))))))))))))))))))))))))))))))))))))⟩
def n82:NF:=⟨8,[2],
 .seq (.region [
 oP 2 (.mov (cI 0))])
 (kL [0] 0 (.seq (.cond (cB false)
 (.seq (.region [
 mV 3 0,
 oP 4 (.conv (.toInt .u32) (.t 3)),
 oP 5 (.call 96 [(.t 4)]),
 mV 2 5])
 (.ret))
 (.skip))
 (kL [0] 0 (.seq (.region [
 mV 6 0,
 oP 7 (.call 97 [(.t 6)]),
 mV 2 7])
 (.ret)))))⟩
def n155:NF:=⟨148,[],
 .seq (.region [
 oP 10 (.mov (cB true))])
 (kL [0,1,2,3,4,10] 0 (.seq (.region [
 oP 11 (.mov (cB true))])
 (kL [0,1,2,3,4,10,11] 0 (.block 0 (.loop (kL [0,1,2,3,4,10,11] 0 (.block 1 (.seq (.region [
 mV 21 2,
 mV 22 1,
 oP 23 (.bin .sub .num (.t 21) (.t 22)),
 mV 12 23])
 (kL [0,1,2,3,4,10,11,12] 0 (.seq (.seq (.region [
 mV 24 12,
 oP 25 (.bin .leq .num (.t 24) (cI 12))])
 (kL [0,1,2,3,4,10,11,12,25] 0 (.cond (.t 25)
 (.seq (.region [
 mV 26 0,
 mV 27 1,
 mV 28 2,
 mV 29 4,
 oP 30 (.call 158 [(.t 26),(.t 27),(.t 28),(.t 29)])])
 (.ret))
 (.skip))))
 (kL [0,1,2,3,4,10,11,12] 0 (.seq (.seq (.region [
 mV 31 3,
 oP 32 (.bin .eql .num (.t 31) (cI 0))])
 (kL [0,1,2,3,4,10,11,12,32] 0 (.cond (.t 32)
 (.seq (.region [
 mV 33 0,
 mV 34 1,
 mV 35 2,
 mV 36 4,
 oP 37 (.call 159 [(.t 33),(.t 34),(.t 35),(.t 36)])])
 (.ret))
 (.skip))))
 (kL [0,1,2,3,4,10,11,12] 0 (.seq (.seq (.region [
 mV 38 10,
 oP 39 (.un .not (.t 38))])
 (kL [0,1,2,3,4,10,11,12,39] 0 (.cond (.t 39)
 (.seq (.region [
 mV 40 0,
 mV 41 1,
 mV 42 2,
 mV 43 4,
 oP 44 (.call 160 [(.t 40),(.t 41),(.t 42),(.t 43)])])
 (kL [0,1,2,3,4,10,11,12] 0 (.region [
 mV 45 3,
 oP 46 (.bin .sub .num (.t 45) (cI 1)),
 mV 3 46])))
 (.skip))))
 (kL [0,1,2,3,4,10,11,12] 0 (.seq (.region [
 mV 48 0,
 mV 49 1,
 mV 50 2,
 mV 51 4,
 oP 52 (.call 161 [(.t 48),(.t 49),(.t 50),(.t 51)]),
 mV 47 52,
 oP 53 (.ext (.t 47) 0),
 oP 54 (.ext (.t 47) 1),
 mV 13 53,
 mV 14 54])
 (kL [0,1,2,3,4,10,11,12,13,14] 0 (.seq (.seq (.region [
 mV 55 14,
 oP 56 (.bin .eql .num (.t 55) (cI 2))])
 (kL [0,1,2,3,4,10,11,12,13,14,56] 0 (.cond (.t 56)
 (.seq (.region [
 mV 57 0,
 mV 58 1,
 mV 59 2,
 mV 60 4,
 oP 61 (.call 162 [(.t 57),(.t 58),(.t 59),(.t 60)])])
 (kL [0,1,2,3,4,10,11,12,13] 0 (.seq (.region [
 mV 62 2,
 oP 63 (.bin .sub .num (.t 62) (cI 1)),
 mV 64 13,
 mV 65 1,
 oP 66 (.bin .sub .num (.t 64) (.t 65)),
 oP 67 (.bin .sub .num (.t 63) (.t 66)),
 mV 13 67])
 (kL [0,1,2,3,4,10,11,12,13] 0 (.region [
 oP 14 (.mov (cI 1))])))))
 (.skip))))
 (kL [0,1,2,3,4,10,11,12,13,14] 0 (.seq (.seq (.region [
 mV 68 10,
 mV 69 68,
 mG 70 11 69 true,
 oP 71 (.pick (.t 69) (.t 70) (cB false)),
 mV 72 71,
 mG 73 14 72 true,
 oG 74 (.bin .eql .num (.t 73) (cI 1)) 72 true,
 oP 75 (.pick (.t 72) (.t 74) (cB false))])
 (kL [0,1,2,3,4,10,11,12,13,75] 0 (.cond (.t 75)
 (.seq (.region [
 mV 76 0,
 mV 77 1,
 mV 78 2,
 mV 79 4,
 oP 80 (.call 163 [(.t 76),(.t 77),(.t 78),(.t 79)])])
 (kL [0,1,2,3,4,10,11,12,13,80] 0 (.cond (.t 80)
 (.ret)
 (.skip))))
 (.skip))))
 (kL [0,1,2,3,4,10,11,12,13] 0 (.seq (.seq (.draw 0 [
 ⟨0,none,(mV 81 1),[]⟩,
 ⟨1,none,(oP 82 (.bin .gtr .num (.t 81) (cI 0))),[]⟩,
 ⟨2,none,(mV 83 82),[]⟩,
 ⟨3,none,(mG 84 4 83 true),[]⟩,
 ⟨4,none,(mG 85 0 83 true),[]⟩,
 ⟨5,none,(mG 86 1 83 true),[]⟩,
 ⟨6,none,(oG 87 (.bin .sub .num (.t 86) (cI 1)) 83 true),[]⟩,
 ⟨7,none,(oG 88 (iA 5 85 87) 83 true),[]⟩,
 ⟨8,none,(oG 89 (.load (some 5) (.t 88)) 83 true),[]⟩,
 ⟨9,none,(mG 90 0 83 true),[]⟩,
 ⟨10,none,(mG 91 13 83 true),[]⟩,
 ⟨11,none,(oG 92 (iA 5 90 91) 83 true),[]⟩,
 ⟨12,none,(oG 93 (.load (some 5) (.t 92)) 83 true),[]⟩,
 ⟨13,none,(oG 94 (.dyn (.t 84) [(.t 89),(.t 93)]) 83 true),[]⟩,
 ⟨14,none,(oG 95 (.bin .lss .num (.t 94) (cI 0)) 83 true),[]⟩,
 ⟨15,none,(oG 96 (.un .not (.t 95)) 83 true),[]⟩,
 ⟨16,none,(oP 97 (.pick (.t 83) (.t 96) (cB false))),[]⟩])
 (kL [0,1,2,3,4,10,11,12,13,97] 0 (.cond (.t 97)
 (.seq (.region [
 mV 98 0,
 mV 99 1,
 mV 100 2,
 mV 101 13,
 mV 102 4,
 oP 103 (.call 164 [(.t 98),(.t 99),(.t 100),(.t 101),(.t 102)]),
 mV 15 103])
 (kL [0,2,3,4,10,11,15] 0 (.seq (.region [
 mV 104 15,
 mV 1 104])
 (.exit 1))))
 (.skip))))
 (kL [0,1,2,3,4,12,13] 0 (.seq (.region [
 mV 106 0,
 mV 107 1,
 mV 108 2,
 mV 109 13,
 mV 110 4,
 oP 111 (.call 165 [(.t 106),(.t 107),(.t 108),(.t 109),(.t 110)]),
 mV 105 111,
 oP 112 (.ext (.t 105) 0),
 oP 113 (.ext (.t 105) 1),
 mV 16 112,
 mV 17 113])
 (kL [0,1,2,3,4,12,16,17] 0 (.seq (.region [
 mV 114 17,
 mV 11 114])
 (kL [0,1,2,3,4,11,12,16] 0 (.seq (.region [
 mV 115 16,
 mV 116 1,
 oP 117 (.bin .sub .num (.t 115) (.t 116)),
 mV 118 2,
 mV 119 16,
 oP 120 (.bin .sub .num (.t 118) (.t 119)),
 mV 18 117,
 mV 19 120])
 (kL [0,1,2,3,4,11,12,16,18,19] 0 (.seq (.region [
 mV 121 12,
 oP 122 (.bin .quo .num (.t 121) (cI 8)),
 mV 20 122])
 (kL [0,1,2,3,4,11,16,18,19,20] 0 (.seq (.region [
 mV 123 18,
 mV 124 19,
 oP 125 (.bin .lss .num (.t 123) (.t 124))])
 (kL [0,1,2,3,4,11,16,18,19,20,125] 0 (.cond (.t 125)
 (.seq (.region [
 mV 126 18,
 mV 127 20,
 oP 128 (.bin .geq .num (.t 126) (.t 127)),
 mV 10 128])
 (kL [0,1,2,3,4,10,11,16] 0 (.seq (.region [
 mV 129 0,
 mV 130 1,
 mV 131 16,
 mV 132 3,
 mV 133 4,
 oP 134 (.call 155 [(.t 129),(.t 130),(.t 131),(.t 132),(.t 133)])])
 (kL [0,2,3,4,10,11,16] 0 (.region [
 mV 135 16,
 oP 136 (.bin .add .num (.t 135) (cI 1)),
 mV 1 136])))))
 (.seq (.region [
 mV 137 19,
 mV 138 20,
 oP 139 (.bin .geq .num (.t 137) (.t 138)),
 mV 10 139])
 (kL [0,1,2,3,4,10,11,16] 0 (.seq (.region [
 mV 140 0,
 mV 141 16,
 oP 142 (.bin .add .num (.t 141) (cI 1)),
 mV 143 2,
 mV 144 3,
 mV 145 4,
 oP 146 (.call 155 [(.t 140),(.t 142),(.t 143),(.t 144),(.t 145)])])
 (kL [0,1,3,4,10,11,16] 0 (.region [
 mV 147 16,
 mV 2 147])))))))))))))))))))))))))))))))))))))))⟩
def n157:NF:=⟨32,[4],
 .seq (.region [
 oP 2 (.box true 5 (.t 0)),
 oP 3 (.box true 5 (.t 1)),
 oP 4 (.mov (cI 0))])
 (kL [2,3] 2 (.seq (.draw 1 [
 ⟨0,none,(oP 5 (.faddr 0 (.t 2))),[]⟩,
 ⟨1,none,(oP 6 (lD 5)),[]⟩,
 ⟨2,none,(oP 7 (.faddr 0 (.t 3))),[]⟩,
 ⟨3,none,(oP 8 (lD 7)),[]⟩,
 ⟨5,none,(oP 10 (.faddr 1 (.t 2))),[]⟩,
 ⟨6,none,(oP 11 (lD 10)),[]⟩,
 ⟨7,none,(oP 12 (.faddr 1 (.t 3))),[]⟩,
 ⟨8,none,(oP 13 (lD 12)),[]⟩,
 ⟨10,none,(oP 15 (.faddr 2 (.t 2))),[]⟩,
 ⟨11,none,(oP 16 (lD 15)),[]⟩,
 ⟨12,none,(oP 17 (.faddr 2 (.t 3))),[]⟩,
 ⟨13,none,(oP 18 (lD 17)),[]⟩,
 ⟨15,none,(oP 20 (.faddr 3 (.t 2))),[]⟩,
 ⟨16,none,(oP 21 (lD 20)),[]⟩,
 ⟨17,none,(oP 22 (.faddr 3 (.t 3))),[]⟩,
 ⟨18,none,(oP 23 (lD 22)),[]⟩,
 ⟨20,none,(oP 25 (.faddr 4 (.t 2))),[]⟩,
 ⟨21,none,(oP 26 (lD 25)),[]⟩,
 ⟨22,none,(oP 27 (.faddr 4 (.t 3))),[]⟩,
 ⟨23,none,(oP 28 (lD 27)),[]⟩,
 ⟨4,none,(oP 9 (.call 46 [(.t 6),(.t 8)])),[(6,(oP 11 (lD 10))),(8,(oP 13 (lD 12))),(11,(oP 16 (lD 15))),(13,(oP 18 (lD 17))),(16,(oP 21 (lD 20))),(18,(oP 23 (lD 22))),(21,(oP 26 (lD 25))),(23,(oP 28 (lD 27)))]⟩,
 ⟨9,none,(oP 14 (.call 46 [(.t 11),(.t 13)])),[(11,(oP 16 (lD 15))),(13,(oP 18 (lD 17))),(16,(oP 21 (lD 20))),(18,(oP 23 (lD 22))),(21,(oP 26 (lD 25))),(23,(oP 28 (lD 27)))]⟩,
 ⟨14,none,(oP 19 (.call 46 [(.t 16),(.t 18)])),[(16,(oP 21 (lD 20))),(18,(oP 23 (lD 22))),(21,(oP 26 (lD 25))),(23,(oP 28 (lD 27)))]⟩,
 ⟨19,none,(oP 24 (.call 46 [(.t 21),(.t 23)])),[(21,(oP 26 (lD 25))),(23,(oP 28 (lD 27)))]⟩,
 ⟨24,none,(oP 29 (.call 46 [(.t 26),(.t 28)])),[]⟩,
 ⟨25,(some 0),(oP 30 (.bslice false 1 5 [(.int .i64 0)] [(0,(1,(.t 9))),(1,(1,(.t 14))),(2,(1,(.t 19))),(3,(1,(.t 24))),(4,(1,(.t 29)))])),[]⟩,
 ⟨26,none,(oP 31 (.call 86 [(.t 30)])),[]⟩,
 ⟨27,none,(mV 4 31),[]⟩])
 (.ret)))⟩
def n4:NF:=⟨26,[6],
 .seq (.region [
 oP 6 (.mov (cI 0))])
 (kL [0,1,2] 0 (.seq (.seq (.region [
 mV 7 0,
 oP 8 (.bin .eql .ptr (.t 7) (.c (.c .nilp)))])
 (kL [0,1,2,8] 0 (.cond (.t 8)
 (.seq (.region [
 oP 6 (.mov (cI 0))])
 (.ret))
 (.skip))))
 (kL [0,1,2] 0 (.seq (.draw 0 [
 ⟨0,none,(mV 9 0),[]⟩,
 ⟨1,none,(oP 10 (.nilck (.t 9))),[]⟩,
 ⟨2,none,(oP 11 (.faddr 1 (.t 10))),[]⟩,
 ⟨3,none,(oP 12 (lD 11)),[]⟩,
 ⟨4,none,(mV 13 1),[]⟩,
 ⟨5,none,(mV 14 2),[]⟩,
 ⟨6,none,(oP 15 (.build [(.int .i64 0),(.int .i64 0)] [(0,(1,(.t 13))),(1,(1,(.t 14)))])),[]⟩,
 ⟨7,none,(oP 16 (.look (.arr 2 .i64) (.c (.int .i64 0)) false (.t 12) (.t 15))),[]⟩,
 ⟨8,none,(mV 17 0),[]⟩,
 ⟨9,none,(oP 18 (.nilck (.t 17))),[]⟩,
 ⟨10,none,(oP 19 (.faddr 1 (.t 18))),[]⟩,
 ⟨11,none,(oP 20 (lD 19)),[]⟩,
 ⟨12,none,(mV 21 2),[]⟩,
 ⟨13,none,(mV 22 1),[]⟩,
 ⟨14,none,(oP 23 (.build [(.int .i64 0),(.int .i64 0)] [(0,(1,(.t 21))),(1,(1,(.t 22)))])),[]⟩,
 ⟨15,none,(oP 24 (.look (.arr 2 .i64) (.c (.int .i64 0)) false (.t 20) (.t 23))),[]⟩,
 ⟨16,none,(oP 25 (.min [(.t 16),(.t 24)])),[]⟩,
 ⟨17,none,(mV 6 25),[]⟩])
 (.ret)))))⟩
def n207:NF:=⟨9,[],
 .region [
 mV 4 0,
 mV 5 0,
 oP 6 (.len .sl (.t 5)),
 mV 7 1,
 oP 8 (.call 208 [(.t 4),(.t 6),(.t 7)])]⟩
def n206:NF:=⟨16,[6],
 .seq (.region [
 oP 6 (.mov (cI 0))])
 (kL [0,1,2,3] 0 (.seq (.draw 0 [
 ⟨0,none,(oP 7 (lD 2)),[]⟩,
 ⟨1,none,(oP 8 (lD 3)),[]⟩,
 ⟨2,none,(mV 9 1),[]⟩,
 ⟨4,none,(oP 11 (lD 2)),[]⟩,
 ⟨5,none,(oP 12 (lD 3)),[]⟩,
 ⟨6,none,(mV 13 0),[]⟩,
 ⟨3,none,(oP 10 (.call 4 [(.t 7),(.t 8),(.t 9)])),[(4,(oP 11 (lD 2))),(5,(oP 12 (lD 3)))]⟩,
 ⟨7,none,(oP 14 (.call 4 [(.t 11),(.t 12),(.t 13)])),[]⟩,
 ⟨8,none,(oP 15 (.call 46 [(.t 10),(.t 14)])),[]⟩,
 ⟨9,none,(mV 6 15),[]⟩])
 (.ret)))⟩
def n46:NF:=⟨20,[4],
 .seq (.region [
 oP 4 (.mov (cI 0))])
 (kL [0,1] 0 (.seq (.region [
 mV 7 0,
 oP 8 (.call 47 [(.t 7)]),
 mV 5 8])
 (kL [0,1,5] 0 (.seq (.region [
 mV 9 1,
 oP 10 (.call 47 [(.t 9)]),
 mV 6 10])
 (kL [0,1,5,6] 0 (.seq (.seq (.region [
 mV 11 5])
 (kL [0,1,6,11] 0 (.cond (.t 11)
 (.seq (.seq (.region [
 mV 12 6])
 (kL [12] 0 (.cond (.t 12)
 (.seq (.region [
 oP 4 (.mov (cI 0))])
 (.ret))
 (.skip))))
 (kL [] 0 (.seq (.region [
 oP 4 (.mov (cI (-1)))])
 (.ret))))
 (.skip))))
 (kL [0,1,6] 0 (.seq (.seq (.region [
 mV 13 6])
 (kL [0,1,13] 0 (.cond (.t 13)
 (.seq (.region [
 oP 4 (.mov (cI 1))])
 (.ret))
 (.skip))))
 (kL [0,1] 0 (.seq (.seq (.region [
 mV 14 0,
 mV 15 1,
 oP 16 (.bin .lss .num (.t 14) (.t 15))])
 (kL [0,1,16] 0 (.cond (.t 16)
 (.seq (.region [
 oP 4 (.mov (cI (-1)))])
 (.ret))
 (.skip))))
 (kL [0,1] 0 (.seq (.seq (.region [
 mV 17 0,
 mV 18 1,
 oP 19 (.bin .gtr .num (.t 17) (.t 18))])
 (kL [19] 0 (.cond (.t 19)
 (.seq (.region [
 oP 4 (.mov (cI 1))])
 (.ret))
 (.skip))))
 (kL [] 0 (.seq (.region [
 oP 4 (.mov (cI 0))])
 (.ret)))))))))))))))⟩
def n254:NF:=⟨40,[6],
 .seq (.region [
 oP 4 (.box true 5 (.t 1)),
 oP 6 (.mov (cB false))])
 (kL [0,2,4] 1 (.seq (.seq (.region [
 mV 11 0,
 mV 12 2,
 oP 13 (.nilck (.t 11)),
 oP 14 (.faddr 0 (.t 13)),
 oP 15 (.iaddrA 16 1 (.t 14) (.t 12)),
 oP 16 (lD 15),
 oP 17 (.len .sl (.t 16)),
 oP 18 (.bin .geq .num (.t 17) (cI 64))])
 (kL [0,2,4,18] 1 (.cond (.t 18)
 (.seq (.region [
 oP 6 (.mov (cB false))])
 (.ret))
 (.skip))))
 (kL [0,2,4] 1 (.seq (.seq (.region [
 mV 19 0,
 oP 20 (.nilck (.t 19)),
 oP 21 (.faddr 0 (.t 20)),
 oP 22 (.load (some 16) (.t 21)),
 oP 23 (.mov (cI 0))])
 (kL [2,4,22,23] 1 (.block 0 (.loop (kL [2,4,22,23] 1 (.seq (.region [
 oP 24 (.bin .lss .num (.t 23) (cI 16))])
 (kL [2,4,22,23,24] 1 (.seq (.cond (.t 24)
 (.skip)
 (.exit 0))
 (kL [2,4,22,23] 1 (.seq (.block 1 (.seq (.region [
 mV 25 23,
 oP 26 (.index 16 1 false (.t 22) (.t 23)),
 mV 7 25,
 mV 8 26])
 (kL [2,4,7,8,22,23] 1 (.seq (.region [
 mV 27 8,
 oP 28 (.len .sl (.t 27)),
 oP 29 (.mov (cI 0))])
 (kL [2,4,7,22,23,27,28,29] 1 (.block 2 (.loop (kL [2,4,7,22,23,27,28,29] 1 (.seq (.region [
 oP 30 (.bin .lss .num (.t 29) (.t 28))])
 (kL [2,4,7,22,23,27,28,29,30] 1 (.seq (.cond (.t 30)
 (.skip)
 (.exit 2))
 (kL [2,4,7,22,23,27,28,29] 1 (.seq (.block 3 (.seq (.region [
 oP 31 (iA 5 27 29),
 oP 32 (.load (some 5) (.t 31)),
 oP 10 (.box true 5 (.c (.agg [(.int .i64 0),(.int .i64 0),(.int .i64 0),(.int .i64 0),(.int .i64 0)]))),
 oW (.store 5 (.t 10) (.t 32))])
 (kL [2,4,7,10,22,23,27,28,29] 2 (.seq (.region [
 oP 33 (.load (some 5) (.t 4)),
 oP 34 (.load (some 5) (.t 10)),
 mV 35 2,
 mV 36 7,
 oP 37 (.call 216 [(.t 33),(.t 34),(.t 35),(.t 36)])])
 (kL [2,4,7,22,23,27,28,29,37] 1 (.cond (.t 37)
 (.seq (.region [
 oP 6 (.mov (cB false))])
 (.ret))
 (.skip)))))))
 (kL [2,4,7,22,23,27,28,29] 1 (.region [
 oP 38 (.bin .add .num (.t 29) (cI 1)),
 mV 29 38])))))))))))))))
 (kL [2,4,22,23] 1 (.region [
 oP 39 (.bin .add .num (.t 23) (cI 1)),
 mV 23 39]))))))))))))
 (kL [] 0 (.seq (.region [
 oP 6 (.mov (cB true))])
 (.ret)))))))⟩
def n233:NF:=⟨48,[4],
 .seq (.region [
 oP 2 (.box true 5 (.t 0)),
 oP 3 (.box true 5 (.t 1)),
 oP 4 (.mov (cB false))])
 (kL [2,3] 2 (.seq (.region [
 oP 8 (.faddr 0 (.t 2)),
 oP 9 (lD 8),
 oP 10 (.faddr 1 (.t 2)),
 oP 11 (lD 10),
 oP 12 (.faddr 2 (.t 2)),
 oP 13 (lD 12),
 oP 14 (.faddr 3 (.t 2)),
 oP 15 (lD 14),
 oP 16 (.faddr 4 (.t 2)),
 oP 17 (lD 16),
 oP 18 (.build [(.int .i64 0),(.int .i64 0),(.int .i64 0),(.int .i64 0),(.int .i64 0)] [(0,(1,(.t 9))),(1,(1,(.t 11))),(2,(1,(.t 13))),(3,(1,(.t 15))),(4,(1,(.t 17)))]),
 oP 5 (.box true 5 (.c (.agg [(.int .i64 0),(.int .i64 0),(.int .i64 0),(.int .i64 0),(.int .i64 0)]))),
 oW (.store 5 (.t 5) (.t 18))])
 (kL [3,5] 3 (.seq (.region [
 oP 19 (.faddr 0 (.t 3)),
 oP 20 (lD 19),
 oP 21 (.faddr 1 (.t 3)),
 oP 22 (lD 21),
 oP 23 (.faddr 2 (.t 3)),
 oP 24 (lD 23),
 oP 25 (.faddr 3 (.t 3)),
 oP 26 (lD 25),
 oP 27 (.faddr 4 (.t 3)),
 oP 28 (lD 27),
 oP 29 (.build [(.int .i64 0),(.int .i64 0),(.int .i64 0),(.int .i64 0),(.int .i64 0)] [(0,(1,(.t 20))),(1,(1,(.t 22))),(2,(1,(.t 24))),(3,(1,(.t 26))),(4,(1,(.t 28)))]),
 oP 6 (.box true 5 (.c (.agg [(.int .i64 0),(.int .i64 0),(.int .i64 0),(.int .i64 0),(.int .i64 0)]))),
 oW (.store 5 (.t 6) (.t 29))])
 (kL [5,6] 4 (.seq (.seq (.region [
 oP 30 (.mov (cI 0))])
 (kL [5,6,30] 4 (.block 0 (.loop (kL [5,6,30] 4 (.seq (.region [
 oP 31 (.bin .lss .num (.t 30) (cI 5))])
 (kL [5,6,30,31] 4 (.seq (.cond (.t 31)
 (.skip)
 (.exit 0))
 (kL [5,6,30] 4 (.seq (.block 1 (.seq (.region [
 mV 32 30,
 mV 7 32])
 (kL [5,6,7,30] 4 (.seq (.draw 0 [
 ⟨0,none,(mV 33 7),[]⟩,
 ⟨1,none,(oP 34 (.iaddrA 5 1 (.t 5) (.t 33))),[]⟩,
 ⟨2,none,(oP 35 (lD 34)),[]⟩,
 ⟨3,none,(mV 36 7),[]⟩,
 ⟨4,none,(oP 37 (.iaddrA 5 1 (.t 6) (.t 36))),[]⟩,
 ⟨5,none,(oP 38 (lD 37)),[]⟩,
 ⟨6,none,(oP 39 (.bin .neq .num (.t 35) (.t 38))),[]⟩])
 (kL [5,6,7,30,39] 4 (.cond (.t 39)
 (.seq (.draw 0 [
 ⟨0,none,(mV 40 7),[]⟩,
 ⟨1,none,(oP 41 (.iaddrA 5 1 (.t 5) (.t 40))),[]⟩,
 ⟨2,none,(oP 42 (lD 41)),[]⟩,
 ⟨3,none,(mV 43 7),[]⟩,
 ⟨4,none,(oP 44 (.iaddrA 5 1 (.t 6) (.t 43))),[]⟩,
 ⟨5,none,(oP 45 (lD 44)),[]⟩,
 ⟨6,none,(oP 46 (.bin .lss .num (.t 42) (.t 45))),[]⟩,
 ⟨7,none,(mV 4 46),[]⟩])
 (.ret))
 (.skip)))))))
 (kL [5,6,30] 4 (.region [
 oP 47 (.bin .add .num (.t 30) (cI 1)),
 mV 30 47]))))))))))))
 (kL [] 0 (.seq (.region [
 oP 4 (.mov (cB false))])
 (.ret)))))))))⟩
def n11:NF:=⟨34,[6],
 .seq (.region [
 oP 6 (.mov (cI 0))])
 (kL [0,1,2] 0 (.seq (.seq (.region [
 mV 7 0,
 mV 8 1,
 oP 9 (.call 22 [(.t 7),(.t 8)]),
 oP 10 (.un .not (.t 9)),
 mV 11 10,
 mG 12 0 11 false,
 mG 13 2 11 false,
 oG 14 (.call 22 [(.t 12),(.t 13)]) 11 false,
 oG 15 (.un .not (.t 14)) 11 false,
 oP 16 (.pick (.t 11) (cB true) (.t 15))])
 (kL [0,1,2,16] 0 (.cond (.t 16)
 (.seq (.region [
 oP 6 (.mov (cI 0))])
 (.ret))
 (.skip))))
 (kL [0,1,2] 0 (.seq (.draw 0 [
 ⟨0,none,(mV 17 0),[]⟩,
 ⟨1,none,(mV 18 1),[]⟩,
 ⟨2,none,(mV 19 2),[]⟩,
 ⟨3,none,(oP 20 (.nilck (.t 17))),[]⟩,
 ⟨4,none,(oP 21 (.faddr 1 (.t 20))),[]⟩,
 ⟨5,none,(oP 22 (.iaddrA 16 16 (.t 21) (.t 18))),[]⟩,
 ⟨6,none,(oP 23 (.iaddrA 16 1 (.t 22) (.t 19))),[]⟩,
 ⟨7,none,(oP 24 (lD 23)),[]⟩,
 ⟨8,none,(mV 25 0),[]⟩,
 ⟨9,none,(mV 26 2),[]⟩,
 ⟨10,none,(mV 27 1),[]⟩,
 ⟨11,none,(oP 28 (.nilck (.t 25))),[]⟩,
 ⟨12,none,(oP 29 (.faddr 1 (.t 28))),[]⟩,
 ⟨13,none,(oP 30 (.iaddrA 16 16 (.t 29) (.t 26))),[]⟩,
 ⟨14,none,(oP 31 (.iaddrA 16 1 (.t 30) (.t 27))),[]⟩,
 ⟨15,none,(oP 32 (lD 31)),[]⟩,
 ⟨16,none,(oP 33 (.min [(.t 24),(.t 32)])),[]⟩,
 ⟨17,none,(mV 6 33),[]⟩])
 (.ret)))))⟩
def n129:NF:=⟨19,[4],
 .seq (.region [
 oP 4 (.mov (cI 0))])
 (kL [0,1] 0 (.seq (.seq (.region [
 mV 6 0,
 oP 7 (.len .sl (.t 6)),
 oP 8 (.mov (cI 0))])
 (kL [0,1,7,8] 0 (.block 0 (.loop (kL [0,1,7,8] 0 (.seq (.region [
 oP 9 (.bin .lss .num (.t 8) (.t 7))])
 (kL [0,1,7,8,9] 0 (.seq (.cond (.t 9)
 (.skip)
 (.exit 0))
 (kL [0,1,7,8] 0 (.seq (.block 1 (.seq (.region [
 mV 10 8,
 mV 5 10])
 (kL [0,1,5,7,8] 0 (.seq (.region [
 mV 11 1,
 mV 12 0,
 mV 13 5,
 oP 14 (iA 6 12 13),
 oP 15 (.load (some 6) (.t 14)),
 oP 16 (.dyn (.t 11) [(.t 15)])])
 (kL [0,1,5,7,8,16] 0 (.cond (.t 16)
 (.seq (.region [
 mV 17 5,
 mV 4 17])
 (.ret))
 (.skip)))))))
 (kL [0,1,7,8] 0 (.region [
 oP 18 (.bin .add .num (.t 8) (cI 1)),
 mV 8 18]))))))))))))
 (kL [] 0 (.seq (.region [
 oP 4 (.mov (cI (-1)))])
 (.ret)))))⟩
def n255:NF:=⟨28,[],
 .seq (.region [
 oP 5 (.box true 5 (.t 2))])
 (kL [0,1,5] 1 (.seq (.draw 1 [
 ⟨0,none,(mV 6 0),[]⟩,
 ⟨1,none,(mV 7 0),[]⟩,
 ⟨2,none,(oP 8 (.nilck (.t 7))),[]⟩,
 ⟨3,none,(oP 9 (.faddr 3 (.t 8))),[]⟩,
 ⟨4,none,(oP 10 (lD 9)),[]⟩,
 ⟨5,none,(mV 11 1),[]⟩,
 ⟨6,none,(oP 12 (.load (some 5) (.t 5))),[]⟩,
 ⟨7,none,(oP 13 (.build [(.int .i64 0),(.int .i64 0),(.int .i64 0),(.int .i64 0),(.int .i64 0),(.int .i64 0)] [(0,(1,(.t 11))),(1,(5,(.t 12)))])),[]⟩,
 ⟨8,(some 0),(oP 14 (.bslice false 6 1 [(.int .i64 0),(.int .i64 0),(.int .i64 0),(.int .i64 0),(.int .i64 0),(.int .i64 0)] [(0,(6,(.t 13)))])),[]⟩,
 ⟨9,none,(oP 15 (.app 6 48 (.t 10) (.t 14))),[]⟩,
 ⟨10,none,(oP 16 (.nilck (.t 6))),[]⟩,
 ⟨11,none,(oP 17 (.faddr 3 (.t 16))),[]⟩,
 ⟨12,none,(oW (.store 1 (.t 17) (.t 15))),[]⟩])
 (kL [0,1] 0 (.draw 0 [
 ⟨0,none,(mV 18 0),[]⟩,
 ⟨1,none,(mV 19 1),[]⟩,
 ⟨2,none,(oP 20 (.nilck (.t 18))),[]⟩,
 ⟨3,none,(oP 21 (.faddr 4 (.t 20))),[]⟩,
 ⟨4,none,(oP 22 (.iaddrA 16 1 (.t 21) (.t 19))),[]⟩,
 ⟨5,none,(oP 23 (lD 22)),[]⟩,
 ⟨6,none,(oP 24 (.bin .add .num (.t 23) (cI 1))),[]⟩,
 ⟨7,none,(oP 25 (.nilck (.t 18))),[]⟩,
 ⟨8,none,(oP 26 (.faddr 4 (.t 25))),[]⟩,
 ⟨9,none,(oP 27 (.iaddrA 16 1 (.t 26) (.t 19))),[]⟩,
 ⟨10,none,(oW (.store 1 (.t 27) (.t 24))),[]⟩]))))⟩
def n87:NF:=⟨49,[],
 .seq (.region [
 mV 8 1,
 oP 9 (.bin .add .num (.t 8) (cI 1)),
 mV 6 9])
 (kL [0,1,2,6] 0 (.block 0 (.loop (kL [0,1,2,6] 0 (.seq (.seq (.region [
 mV 10 6,
 mV 11 2,
 oP 12 (.bin .lss .num (.t 10) (.t 11))])
 (kL [0,1,2,6,12] 0 (.cond (.t 12)
 (.skip)
 (.exit 0))))
 (kL [0,1,2,6] 0 (.seq (.block 1 (.seq (.region [
 mV 15 6,
 mV 7 15])
 (kL [0,1,2,6,7] 0 (.block 2 (.loop (kL [0,1,2,6,7] 0 (.seq (.seq (.draw 0 [
 ⟨0,none,(mV 16 7),[]⟩,
 ⟨1,none,(mV 17 1),[]⟩,
 ⟨2,none,(oP 18 (.bin .gtr .num (.t 16) (.t 17))),[]⟩,
 ⟨3,none,(mV 19 18),[]⟩,
 ⟨4,none,(mG 20 0 19 true),[]⟩,
 ⟨5,none,(mG 21 7 19 true),[]⟩,
 ⟨6,none,(oG 22 (iA 1 20 21) 19 true),[]⟩,
 ⟨7,none,(oG 23 (lD 22) 19 true),[]⟩,
 ⟨8,none,(mG 24 0 19 true),[]⟩,
 ⟨9,none,(mG 25 7 19 true),[]⟩,
 ⟨10,none,(oG 26 (.bin .sub .num (.t 25) (cI 1)) 19 true),[]⟩,
 ⟨11,none,(oG 27 (iA 1 24 26) 19 true),[]⟩,
 ⟨12,none,(oG 28 (lD 27) 19 true),[]⟩,
 ⟨13,none,(oG 29 (.call 93 [(.t 23),(.t 28)]) 19 true),[]⟩,
 ⟨14,none,(oP 30 (.pick (.t 19) (.t 29) (cB false))),[]⟩])
 (kL [0,1,2,6,7,30] 0 (.cond (.t 30)
 (.skip)
 (.exit 2))))
 (kL [0,1,2,6,7] 0 (.seq (.block 3 (.draw 0 [
 ⟨0,none,(mV 33 0),[]⟩,
 ⟨1,none,(mV 34 7),[]⟩,
 ⟨2,none,(mV 35 0),[]⟩,
 ⟨3,none,(mV 36 7),[]⟩,
 ⟨4,none,(oP 37 (.bin .sub .num (.t 36) (cI 1))),[]⟩,
 ⟨5,none,(mV 38 0),[]⟩,
 ⟨6,none,(mV 39 7),[]⟩,
 ⟨7,none,(oP 40 (.bin .sub .num (.t 39) (cI 1))),[]⟩,
 ⟨8,none,(oP 41 (iA 1 38 40)),[]⟩,
 ⟨9,none,(oP 42 (lD 41)),[]⟩,
 ⟨10,none,(mV 43 0),[]⟩,
 ⟨11,none,(mV 44 7),[]⟩,
 ⟨12,none,(oP 45 (iA 1 43 44)),[]⟩,
 ⟨13,none,(oP 46 (lD 45)),[]⟩,
 ⟨14,none,(oP 47 (iA 1 33 34)),[]⟩,
 ⟨15,none,(oW (.store 1 (.t 47) (.t 42))),[]⟩,
 ⟨16,none,(oP 48 (iA 1 35 37)),[]⟩,
 ⟨17,none,(oW (.store 1 (.t 48) (.t 46))),[]⟩]))
 (kL [0,1,2,6,7] 0 (.region [
 mV 31 7,
 oP 32 (.bin .sub .num (.t 31) (cI 1)),
 mV 7 32])))))))))))
 (kL [0,1,2,6] 0 (.region [
 mV 13 6,
 oP 14 (.bin .add .num (.t 13) (cI 1)),
 mV 6 14])))))))))⟩
def n88:NF:=⟨56,[],
 .seq (.region [
 mV 11 1,
 mV 6 11])
 (kL [0,1,2,6] 0 (.seq (.region [
 oP 7 (.mov (cI 0))])
 (kL [0,1,2,6,7] 0 (.seq (.region [
 mV 12 2,
 mV 13 1,
 oP 14 (.bin .sub .num (.t 12) (.t 13)),
 mV 8 14])
 (kL [0,6,7,8] 0 (.seq (.seq (.region [
 mV 15 8,
 oP 16 (.bin .sub .num (.t 15) (cI 1)),
 oP 17 (.bin .quo .num (.t 16) (cI 2)),
 mV 9 17])
 (kL [0,6,7,8,9] 0 (.block 0 (.loop (kL [0,6,7,8,9] 0 (.seq (.seq (.region [
 mV 18 9,
 oP 19 (.bin .geq .num (.t 18) (cI 0))])
 (kL [0,6,7,8,9,19] 0 (.cond (.t 19)
 (.skip)
 (.exit 0))))
 (kL [0,6,7,8,9] 0 (.seq (.block 1 (.region [
 mV 22 0,
 mV 23 9,
 mV 24 8,
 mV 25 6,
 oP 26 (.call 107 [(.t 22),(.t 23),(.t 24),(.t 25)])]))
 (kL [0,6,7,8,9] 0 (.region [
 mV 20 9,
 oP 21 (.bin .sub .num (.t 20) (cI 1)),
 mV 9 21]))))))))))
 (kL [0,6,7,8] 0 (.seq (.region [
 mV 27 8,
 oP 28 (.bin .sub .num (.t 27) (cI 1)),
 mV 10 28])
 (kL [0,6,7,10] 0 (.block 2 (.loop (kL [0,6,7,10] 0 (.seq (.seq (.region [
 mV 29 10,
 oP 30 (.bin .geq .num (.t 29) (cI 0))])
 (kL [0,6,7,10,30] 0 (.cond (.t 30)
 (.skip)
 (.exit 2))))
 (kL [0,6,7,10] 0 (.seq (.block 3 (.seq (.draw 0 [
 ⟨0,none,(mV 33 0),[]⟩,
 ⟨1,none,(mV 34 6),[]⟩,
 ⟨2,none,(mV 35 0),[]⟩,
 ⟨3,none,(mV 36 6),[]⟩,
 ⟨4,none,(mV 37 10),[]⟩,
 ⟨5,none,(oP 38 (.bin .add .num (.t 36) (.t 37))),[]⟩,
 ⟨6,none,(mV 39 0),[]⟩,
 ⟨7,none,(mV 40 6),[]⟩,
 ⟨8,none,(mV 41 10),[]⟩,
 ⟨9,none,(oP 42 (.bin .add .num (.t 40) (.t 41))),[]⟩,
 ⟨10,none,(oP 43 (iA 1 39 42)),[]⟩,
 ⟨11,none,(oP 44 (lD 43)),[]⟩,
 ⟨12,none,(mV 45 0),[]⟩,
 ⟨13,none,(mV 46 6),[]⟩,
 ⟨14,none,(oP 47 (iA 1 45 46)),[]⟩,
 ⟨15,none,(oP 48 (lD 47)),[]⟩,
 ⟨16,none,(oP 49 (iA 1 33 34)),[]⟩,
 ⟨17,none,(oW (.store 1 (.t 49) (.t 44))),[]⟩,
 ⟨18,none,(oP 50 (iA 1 35 38)),[]⟩,
 ⟨19,none,(oW (.store 1 (.t 50) (.t 48))),[]⟩])
 (kL [0,6,7,10] 0 (.region [
 mV 51 0,
 mV 52 7,
 mV 53 10,
 mV 54 6,
 oP 55 (.call 107 [(.t 51),(.t 52),(.t 53),(.t 54)])]))))
 (kL [0,6,7,10] 0 (.region [
 mV 31 10,
 oP 32 (.bin .sub .num (.t 31) (cI 1)),
 mV 10 32])))))))))))))))))⟩
def n89:NF:=⟨65,[],
 .seq (.region [
 mV 11 2,
 mV 12 1,
 oP 13 (.bin .sub .num (.t 11) (.t 12)),
 mV 6 13])
 (kL [0,1,6] 0 (.seq (.region [
 mV 14 6,
 oP 15 (.bin .geq .num (.t 14) (cI 8))])
 (kL [0,1,6,15] 0 (.cond (.t 15)
 (.seq (.region [
 mV 16 6,
 oP 17 (.conv (.toInt .u64) (.t 16)),
 oP 7 (.box false 1 (.c (.c (.int .u64 0)))),
 oW (.store 1 (.t 7) (.t 17))])
 (kL [0,1,6,7] 0 (.seq (.region [
 mV 18 6,
 oP 19 (.call 108 [(.t 18)]),
 mV 8 19])
 (kL [0,1,6,7,8] 0 (.seq (.region [
 mV 20 1,
 mV 21 6,
 oP 22 (.bin .quo .num (.t 21) (cI 4)),
 oP 23 (.bin .mul .num (.t 22) (cI 2)),
 oP 24 (.bin .add .num (.t 20) (.t 23)),
 oP 25 (.bin .sub .num (.t 24) (cI 1)),
 mV 9 25])
 (kL [0,1,6,7,8,9] 0 (.block 0 (.loop (kL [0,1,6,7,8,9] 0 (.seq (.seq (.region [
 mV 26 9,
 mV 27 1,
 mV 28 6,
 oP 29 (.bin .quo .num (.t 28) (cI 4)),
 oP 30 (.bin .mul .num (.t 29) (cI 2)),
 oP 31 (.bin .add .num (.t 27) (.t 30)),
 oP 32 (.bin .add .num (.t 31) (cI 1)),
 oP 33 (.bin .leq .num (.t 26) (.t 32))])
 (kL [0,1,6,7,8,9,33] 0 (.cond (.t 33)
 (.skip)
 (.exit 0))))
 (kL [0,1,6,7,8,9] 0 (.seq (.block 1 (.seq (.region [
 oP 36 (.call 109 [(.t 7)]),
 mV 37 8,
 oP 38 (.bin .sub .num (.t 37) (.c (.c (.int .u64 1)))),
 oP 39 (.bin .and .num (.t 36) (.t 38)),
 oP 40 (.conv (.toInt .i64) (.t 39)),
 mV 10 40])
 (kL [0,1,6,7,8,9,10] 0 (.seq (.seq (.region [
 mV 41 10,
 mV 42 6,
 oP 43 (.bin .geq .num (.t 41) (.t 42))])
 (kL [0,1,6,7,8,9,10,43] 0 (.cond (.t 43)
 (.region [
 mV 44 10,
 mV 45 6,
 oP 46 (.bin .sub .num (.t 44) (.t 45)),
 mV 10 46])
 (.skip))))
 (kL [0,1,6,7,8,9,10] 0 (.draw 0 [
 ⟨0,none,(mV 47 0),[]⟩,
 ⟨1,none,(mV 48 9),[]⟩,
 ⟨2,none,(mV 49 0),[]⟩,
 ⟨3,none,(mV 50 1),[]⟩,
 ⟨4,none,(mV 51 10),[]⟩,
 ⟨5,none,(oP 52 (.bin .add .num (.t 50) (.t 51))),[]⟩,
 ⟨6,none,(mV 53 0),[]⟩,
 ⟨7,none,(mV 54 1),[]⟩,
 ⟨8,none,(mV 55 10),[]⟩,
 ⟨9,none,(oP 56 (.bin .add .num (.t 54) (.t 55))),[]⟩,
 ⟨10,none,(oP 57 (iA 1 53 56)),[]⟩,
 ⟨11,none,(oP 58 (lD 57)),[]⟩,
 ⟨12,none,(mV 59 0),[]⟩,
 ⟨13,none,(mV 60 9),[]⟩,
 ⟨14,none,(oP 61 (iA 1 59 60)),[]⟩,
 ⟨15,none,(oP 62 (lD 61)),[]⟩,
 ⟨16,none,(oP 63 (iA 1 47 48)),[]⟩,
 ⟨17,none,(oW (.store 1 (.t 63) (.t 58))),[]⟩,
 ⟨18,none,(oP 64 (iA 1 49 52)),[]⟩,
 ⟨19,none,(oW (.store 1 (.t 64) (.t 62))),[]⟩]))))))
 (kL [0,1,6,7,8,9] 0 (.region [
 mV 34 9,
 oP 35 (.bin .add .num (.t 34) (cI 1)),
 mV 9 35]))))))))))))))
 (.skip)))))⟩
def n90:NF:=⟨57,[6,7],
 .seq (.region [
 oP 6 (.mov (cI 0)),
 oP 7 (.mov (cI 0))])
 (kL [0,1,2] 0 (.seq (.region [
 mV 13 2,
 mV 14 1,
 oP 15 (.bin .sub .num (.t 13) (.t 14)),
 mV 8 15])
 (kL [0,1,8] 0 (.seq (.region [
 oP 9 (.box false 1 (cI 0))])
 (kL [0,1,8,9] 0 (.seq (.region [
 mV 16 1,
 mV 17 8,
 oP 18 (.bin .quo .num (.t 17) (cI 4)),
 oP 19 (.bin .mul .num (.t 18) (cI 1)),
 oP 20 (.bin .add .num (.t 16) (.t 19)),
 mV 10 20])
 (kL [0,1,8,9,10] 0 (.seq (.region [
 mV 21 1,
 mV 22 8,
 oP 23 (.bin .quo .num (.t 22) (cI 4)),
 oP 24 (.bin .mul .num (.t 23) (cI 2)),
 oP 25 (.bin .add .num (.t 21) (.t 24)),
 mV 11 25])
 (kL [0,1,8,9,10,11] 0 (.seq (.region [
 mV 26 1,
 mV 27 8,
 oP 28 (.bin .quo .num (.t 27) (cI 4)),
 oP 29 (.bin .mul .num (.t 28) (cI 3)),
 oP 30 (.bin .add .num (.t 26) (.t 29)),
 mV 12 30])
 (kL [0,8,9,10,11,12] 0 (.seq (.seq (.region [
 mV 31 8,
 oP 32 (.bin .geq .num (.t 31) (cI 8))])
 (kL [0,8,9,10,11,12,32] 0 (.cond (.t 32)
 (.seq (.seq (.region [
 mV 33 8,
 oP 34 (.bin .geq .num (.t 33) (cI 50))])
 (kL [0,9,10,11,12,34] 0 (.cond (.t 34)
 (.seq (.region [
 mV 35 0,
 mV 36 10,
 oP 37 (.call 110 [(.t 35),(.t 36),(.t 9)]),
 mV 10 37])
 (kL [0,9,10,11,12] 0 (.seq (.region [
 mV 38 0,
 mV 39 11,
 oP 40 (.call 110 [(.t 38),(.t 39),(.t 9)]),
 mV 11 40])
 (kL [0,9,10,11,12] 0 (.region [
 mV 41 0,
 mV 42 12,
 oP 43 (.call 110 [(.t 41),(.t 42),(.t 9)]),
 mV 12 43])))))
 (.skip))))
 (kL [0,9,10,11,12] 0 (.region [
 mV 44 0,
 mV 45 10,
 mV 46 11,
 mV 47 12,
 oP 48 (.call 111 [(.t 44),(.t 45),(.t 46),(.t 47),(.t 9)]),
 mV 11 48])))
 (.skip))))
 (kL [9,11] 0 (.seq (.region [
 oP 49 (lD 9)])
 (kL [11,49] 0 (.block 0 (.seq (.region [
 oP 52 (.bin .eql .num (.t 49) (cI 0)),
 mV 51 52])
 (kL [11,49,51] 0 (.cond (.t 51)
 (.seq (.region [
 mV 53 11,
 mV 6 53,
 oP 7 (.mov (cI 1))])
 (.ret))
 (.seq (.region [
 oP 55 (.bin .eql .num (.t 49) (cI 12)),
 mV 54 55])
 (kL [11,54] 0 (.cond (.t 54)
 (.seq (.region [
 mV 56 11,
 mV 6 56,
 oP 7 (.mov (cI 2))])
 (.ret))
 (.seq (.region [
 mV 50 11,
 mV 6 50,
 oP 7 (.mov (cI 0))])
 (.ret))))))))))))))))))))))))⟩
def n91:NF:=⟨32,[],
 .seq (.region [
 mV 8 1,
 mV 6 8])
 (kL [0,2,6] 0 (.seq (.region [
 mV 9 2,
 oP 10 (.bin .sub .num (.t 9) (cI 1)),
 mV 7 10])
 (kL [0,6,7] 0 (.block 0 (.loop (kL [0,6,7] 0 (.seq (.seq (.region [
 mV 11 6,
 mV 12 7,
 oP 13 (.bin .lss .num (.t 11) (.t 12))])
 (kL [0,6,7,13] 0 (.cond (.t 13)
 (.skip)
 (.exit 0))))
 (kL [0,6,7] 0 (.block 1 (.seq (.draw 0 [
 ⟨0,none,(mV 14 0),[]⟩,
 ⟨1,none,(mV 15 6),[]⟩,
 ⟨2,none,(mV 16 0),[]⟩,
 ⟨3,none,(mV 17 7),[]⟩,
 ⟨4,none,(mV 18 0),[]⟩,
 ⟨5,none,(mV 19 7),[]⟩,
 ⟨6,none,(oP 20 (iA 1 18 19)),[]⟩,
 ⟨7,none,(oP 21 (lD 20)),[]⟩,
 ⟨8,none,(mV 22 0),[]⟩,
 ⟨9,none,(mV 23 6),[]⟩,
 ⟨10,none,(oP 24 (iA 1 22 23)),[]⟩,
 ⟨11,none,(oP 25 (lD 24)),[]⟩,
 ⟨12,none,(oP 26 (iA 1 14 15)),[]⟩,
 ⟨13,none,(oW (.store 1 (.t 26) (.t 21))),[]⟩,
 ⟨14,none,(oP 27 (iA 1 16 17)),[]⟩,
 ⟨15,none,(oW (.store 1 (.t 27) (.t 25))),[]⟩])
 (kL [0,6,7] 0 (.seq (.region [
 mV 28 6,
 oP 29 (.bin .add .num (.t 28) (cI 1)),
 mV 6 29])
 (kL [0,6,7] 0 (.region [
 mV 30 7,
 oP 31 (.bin .sub .num (.t 30) (cI 1)),
 mV 7 31]))))))))))))))⟩
def n92:NF:=⟨133,[6],
 .seq (.region [
 oP 6 (.mov (cB false))])
 (kL [0,1,2] 0 (.seq (.region [
 mV 11 1,
 oP 12 (.bin .add .num (.t 11) (cI 1)),
 mV 7 12])
 (kL [0,1,2,7] 0 (.seq (.seq (.region [
 oP 8 (.mov (cI 0))])
 (kL [0,1,2,7,8] 0 (.block 0 (.loop (kL [0,1,2,7,8] 0 (.seq (.seq (.region [
 mV 13 8,
 oP 14 (.bin .lss .num (.t 13) (cI 5))])
 (kL [0,1,2,7,8,14] 0 (.cond (.t 14)
 (.skip)
 (.exit 0))))
 (kL [0,1,2,7,8] 0 (.seq (.block 1 (.seq (.block 2 (.loop (kL [0,1,2,7,8] 0 (.seq (.seq (.draw 0 [
 ⟨0,none,(mV 17 7),[]⟩,
 ⟨1,none,(mV 18 2),[]⟩,
 ⟨2,none,(oP 19 (.bin .lss .num (.t 17) (.t 18))),[]⟩,
 ⟨3,none,(mV 20 19),[]⟩,
 ⟨4,none,(mG 21 0 20 true),[]⟩,
 ⟨5,none,(mG 22 7 20 true),[]⟩,
 ⟨6,none,(oG 23 (iA 1 21 22) 20 true),[]⟩,
 ⟨7,none,(oG 24 (lD 23) 20 true),[]⟩,
 ⟨8,none,(mG 25 0 20 true),[]⟩,
 ⟨9,none,(mG 26 7 20 true),[]⟩,
 ⟨10,none,(oG 27 (.bin .sub .num (.t 26) (cI 1)) 20 true),[]⟩,
 ⟨11,none,(oG 28 (iA 1 25 27) 20 true),[]⟩,
 ⟨12,none,(oG 29 (lD 28) 20 true),[]⟩,
 ⟨13,none,(oG 30 (.call 93 [(.t 24),(.t 29)]) 20 true),[]⟩,
 ⟨14,none,(oG 31 (.un .not (.t 30)) 20 true),[]⟩,
 ⟨15,none,(oP 32 (.pick (.t 20) (.t 31) (cB false))),[]⟩])
 (kL [0,1,2,7,8,32] 0 (.cond (.t 32)
 (.skip)
 (.exit 2))))
 (kL [0,1,2,7,8] 0 (.block 3 (.region [
 mV 33 7,
 oP 34 (.bin .add .num (.t 33) (cI 1)),
 mV 7 34])))))))
 (kL [0,1,2,7,8] 0 (.seq (.seq (.region [
 mV 35 7,
 mV 36 2,
 oP 37 (.bin .eql .num (.t 35) (.t 36))])
 (kL [0,1,2,7,8,37] 0 (.cond (.t 37)
 (.seq (.region [
 oP 6 (.mov (cB true))])
 (.ret))
 (.skip))))
 (kL [0,1,2,7,8] 0 (.seq (.seq (.region [
 mV 38 2,
 mV 39 1,
 oP 40 (.bin .sub .num (.t 38) (.t 39)),
 oP 41 (.bin .lss .num (.t 40) (cI 50))])
 (kL [0,1,2,7,8,41] 0 (.cond (.t 41)
 (.seq (.region [
 oP 6 (.mov (cB false))])
 (.ret))
 (.skip))))
 (kL [0,1,2,7,8] 0 (.seq (.draw 0 [
 ⟨0,none,(mV 42 0),[]⟩,
 ⟨1,none,(mV 43 7),[]⟩,
 ⟨2,none,(mV 44 0),[]⟩,
 ⟨3,none,(mV 45 7),[]⟩,
 ⟨4,none,(oP 46 (.bin .sub .num (.t 45) (cI 1))),[]⟩,
 ⟨5,none,(mV 47 0),[]⟩,
 ⟨6,none,(mV 48 7),[]⟩,
 ⟨7,none,(oP 49 (.bin .sub .num (.t 48) (cI 1))),[]⟩,
 ⟨8,none,(oP 50 (iA 1 47 49)),[]⟩,
 ⟨9,none,(oP 51 (lD 50)),[]⟩,
 ⟨10,none,(mV 52 0),[]⟩,
 ⟨11,none,(mV 53 7),[]⟩,
 ⟨12,none,(oP 54 (iA 1 52 53)),[]⟩,
 ⟨13,none,(oP 55 (lD 54)),[]⟩,
 ⟨14,none,(oP 56 (iA 1 42 43)),[]⟩,
 ⟨15,none,(oW (.store 1 (.t 56) (.t 51))),[]⟩,
 ⟨16,none,(oP 57 (iA 1 44 46)),[]⟩,
 ⟨17,none,(oW (.store 1 (.t 57) (.t 55))),[]⟩])
 (kL [0,1,2,7,8] 0 (.seq (.seq (.region [
 mV 58 7,
 mV 59 1,
 oP 60 (.bin .sub .num (.t 58) (.t 59)),
 oP 61 (.bin .geq .num (.t 60) (cI 2))])
 (kL [0,1,2,7,8,61] 0 (.cond (.t 61)
 (.seq (.region [
 mV 62 7,
 oP 63 (.bin .sub .num (.t 62) (cI 1)),
 mV 9 63])
 (kL [0,1,2,7,8,9] 0 (.block 4 (.loop (kL [0,1,2,7,8,9] 0 (.seq (.seq (.region [
 mV 64 9,
 oP 65 (.bin .geq .num (.t 64) (cI 1))])
 (kL [0,1,2,7,8,9,65] 0 (.cond (.t 65)
 (.skip)
 (.exit 4))))
 (kL [0,1,2,7,8,9] 0 (.seq (.block 5 (.seq (.seq (.draw 0 [
 ⟨0,none,(mV 68 0),[]⟩,
 ⟨1,none,(mV 69 9),[]⟩,
 ⟨2,none,(oP 70 (iA 1 68 69)),[]⟩,
 ⟨3,none,(oP 71 (lD 70)),[]⟩,
 ⟨4,none,(mV 72 0),[]⟩,
 ⟨5,none,(mV 73 9),[]⟩,
 ⟨6,none,(oP 74 (.bin .sub .num (.t 73) (cI 1))),[]⟩,
 ⟨7,none,(oP 75 (iA 1 72 74)),[]⟩,
 ⟨8,none,(oP 76 (lD 75)),[]⟩,
 ⟨9,none,(oP 77 (.call 93 [(.t 71),(.t 76)])),[]⟩,
 ⟨10,none,(oP 78 (.un .not (.t 77))),[]⟩])
 (kL [0,1,2,7,8,9,78] 0 (.cond (.t 78)
 (.exit 4)
 (.skip))))
 (kL [0,1,2,7,8,9] 0 (.draw 0 [
 ⟨0,none,(mV 79 0),[]⟩,
 ⟨1,none,(mV 80 9),[]⟩,
 ⟨2,none,(mV 81 0),[]⟩,
 ⟨3,none,(mV 82 9),[]⟩,
 ⟨4,none,(oP 83 (.bin .sub .num (.t 82) (cI 1))),[]⟩,
 ⟨5,none,(mV 84 0),[]⟩,
 ⟨6,none,(mV 85 9),[]⟩,
 ⟨7,none,(oP 86 (.bin .sub .num (.t 85) (cI 1))),[]⟩,
 ⟨8,none,(oP 87 (iA 1 84 86)),[]⟩,
 ⟨9,none,(oP 88 (lD 87)),[]⟩,
 ⟨10,none,(mV 89 0),[]⟩,
 ⟨11,none,(mV 90 9),[]⟩,
 ⟨12,none,(oP 91 (iA 1 89 90)),[]⟩,
 ⟨13,none,(oP 92 (lD 91)),[]⟩,
 ⟨14,none,(oP 93 (iA 1 79 80)),[]⟩,
 ⟨15,none,(oW (.store 1 (.t 93) (.t 88))),[]⟩,
 ⟨16,none,(oP 94 (iA 1 81 83)),[]⟩,
 ⟨17,none,(oW (.store 1 (.t 94) (.t 92))),[]⟩]))))
 (kL [0,1,2,7,8,9] 0 (.region [
 mV 66 9,
 oP 67 (.bin .sub .num (.t 66) (cI 1)),
 mV 9 67]))))))))))
 (.skip))))
 (kL [0,1,2,7,8] 0 (.seq (.region [
 mV 95 2,
 mV 96 7,
 oP 97 (.bin .sub .num (.t 95) (.t 96)),
 oP 98 (.bin .geq .num (.t 97) (cI 2))])
 (kL [0,1,2,7,8,98] 0 (.cond (.t 98)
 (.seq (.region [
 mV 99 7,
 oP 100 (.bin .add .num (.t 99) (cI 1)),
 mV 10 100])
 (kL [0,1,2,7,8,10] 0 (.block 6 (.loop (kL [0,1,2,7,8,10] 0 (.seq (.seq (.region [
 mV 101 10,
 mV 102 2,
 oP 103 (.bin .lss .num (.t 101) (.t 102))])
 (kL [0,1,2,7,8,10,103] 0 (.cond (.t 103)
 (.skip)
 (.exit 6))))
 (kL [0,1,2,7,8,10] 0 (.seq (.block 7 (.seq (.seq (.draw 0 [
 ⟨0,none,(mV 106 0),[]⟩,
 ⟨1,none,(mV 107 10),[]⟩,
 ⟨2,none,(oP 108 (iA 1 106 107)),[]⟩,
 ⟨3,none,(oP 109 (lD 108)),[]⟩,
 ⟨4,none,(mV 110 0),[]⟩,
 ⟨5,none,(mV 111 10),[]⟩,
 ⟨6,none,(oP 112 (.bin .sub .num (.t 111) (cI 1))),[]⟩,
 ⟨7,none,(oP 113 (iA 1 110 112)),[]⟩,
 ⟨8,none,(oP 114 (lD 113)),[]⟩,
 ⟨9,none,(oP 115 (.call 93 [(.t 109),(.t 114)])),[]⟩,
 ⟨10,none,(oP 116 (.un .not (.t 115))),[]⟩])
 (kL [0,1,2,7,8,10,116] 0 (.cond (.t 116)
 (.exit 6)
 (.skip))))
 (kL [0,1,2,7,8,10] 0 (.draw 0 [
 ⟨0,none,(mV 117 0),[]⟩,
 ⟨1,none,(mV 118 10),[]⟩,
 ⟨2,none,(mV 119 0),[]⟩,
 ⟨3,none,(mV 120 10),[]⟩,
 ⟨4,none,(oP 121 (.bin .sub .num (.t 120) (cI 1))),[]⟩,
 ⟨5,none,(mV 122 0),[]⟩,
 ⟨6,none,(mV 123 10),[]⟩,
 ⟨7,none,(oP 124 (.bin .sub .num (.t 123) (cI 1))),[]⟩,
 ⟨8,none,(oP 125 (iA 1 122 124)),[]⟩,
 ⟨9,none,(oP 126 (lD 125)),[]⟩,
 ⟨10,none,(mV 127 0),[]⟩,
 ⟨11,none,(mV 128 10),[]⟩,
 ⟨12,none,(oP 129 (iA 1 127 128)),[]⟩,
 ⟨13,none,(oP 130 (lD 129)),[]⟩,
 ⟨14,none,(oP 131 (iA 1 117 118)),[]⟩,
 ⟨15,none,(oW (.store 1 (.t 131) (.t 126))),[]⟩,
 ⟨16,none,(oP 132 (iA 1 119 121)),[]⟩,
 ⟨17,none,(oW (.store 1 (.t 132) (.t 130))),[]⟩]))))
 (kL [0,1,2,7,8,10] 0 (.region [
 mV 104 10,
 oP 105 (.bin .add .num (.t 104) (cI 1)),
 mV 10 105]))))))))))
 (.skip)))))))))))))))
 (kL [0,1,2,7,8] 0 (.region [
 mV 15 8,
 oP 16 (.bin .add .num (.t 15) (cI 1)),
 mV 8 16]))))))))))
 (kL [] 0 (.seq (.region [
 oP 6 (.mov (cB false))])
 (.ret)))))))⟩
def n93:NF:=⟨17,[4],
 .seq (.region [
 oP 4 (.mov (cB false))])
 (kL [0,1] 0 (.seq (.region [
 mV 5 0,
 oP 6 (.call 47 [(.t 5)]),
 mV 7 6,
 mG 8 1 7 true,
 oG 9 (.call 47 [(.t 8)]) 7 true,
 oG 10 (.un .not (.t 9)) 7 true,
 oP 11 (.pick (.t 7) (.t 10) (cB false)),
 mV 12 11,
 mG 13 0 12 false,
 mG 14 1 12 false,
 oG 15 (.bin .lss .num (.t 13) (.t 14)) 12 false,
 oP 16 (.pick (.t 12) (cB true) (.t 15)),
 mV 4 16])
 (.ret)))⟩
def n94:NF:=⟨84,[8],
 .seq (.region [
 oP 8 (.mov (cI 0))])
 (kL [0,1,2,3] 0 (.seq (.draw 0 [
 ⟨0,none,(mV 11 0),[]⟩,
 ⟨1,none,(mV 12 1),[]⟩,
 ⟨2,none,(mV 13 0),[]⟩,
 ⟨3,none,(mV 14 3),[]⟩,
 ⟨4,none,(mV 15 0),[]⟩,
 ⟨5,none,(mV 16 3),[]⟩,
 ⟨6,none,(oP 17 (iA 1 15 16)),[]⟩,
 ⟨7,none,(oP 18 (lD 17)),[]⟩,
 ⟨8,none,(mV 19 0),[]⟩,
 ⟨9,none,(mV 20 1),[]⟩,
 ⟨10,none,(oP 21 (iA 1 19 20)),[]⟩,
 ⟨11,none,(oP 22 (lD 21)),[]⟩,
 ⟨12,none,(oP 23 (iA 1 11 12)),[]⟩,
 ⟨13,none,(oW (.store 1 (.t 23) (.t 18))),[]⟩,
 ⟨14,none,(oP 24 (iA 1 13 14)),[]⟩,
 ⟨15,none,(oW (.store 1 (.t 24) (.t 22))),[]⟩])
 (kL [0,1,2] 0 (.seq (.region [
 mV 25 1,
 oP 26 (.bin .add .num (.t 25) (cI 1)),
 mV 27 2,
 oP 28 (.bin .sub .num (.t 27) (cI 1)),
 mV 9 26,
 mV 10 28])
 (kL [0,1,9,10] 0 (.seq (.block 0 (.loop (kL [0,1,9,10] 0 (.block 1 (.seq (.block 2 (.loop (kL [0,1,9,10] 0 (.seq (.seq (.draw 0 [
 ⟨0,none,(mV 29 9),[]⟩,
 ⟨1,none,(mV 30 10),[]⟩,
 ⟨2,none,(oP 31 (.bin .leq .num (.t 29) (.t 30))),[]⟩,
 ⟨3,none,(mV 32 31),[]⟩,
 ⟨4,none,(mG 33 0 32 true),[]⟩,
 ⟨5,none,(mG 34 1 32 true),[]⟩,
 ⟨6,none,(oG 35 (iA 1 33 34) 32 true),[]⟩,
 ⟨7,none,(oG 36 (lD 35) 32 true),[]⟩,
 ⟨8,none,(mG 37 0 32 true),[]⟩,
 ⟨9,none,(mG 38 9 32 true),[]⟩,
 ⟨10,none,(oG 39 (iA 1 37 38) 32 true),[]⟩,
 ⟨11,none,(oG 40 (lD 39) 32 true),[]⟩,
 ⟨12,none,(oG 41 (.call 93 [(.t 36),(.t 40)]) 32 true),[]⟩,
 ⟨13,none,(oG 42 (.un .not (.t 41)) 32 true),[]⟩,
 ⟨14,none,(oP 43 (.pick (.t 32) (.t 42) (cB false))),[]⟩])
 (kL [0,1,9,10,43] 0 (.cond (.t 43)
 (.skip)
 (.exit 2))))
 (kL [0,1,9,10] 0 (.block 3 (.region [
 mV 44 9,
 oP 45 (.bin .add .num (.t 44) (cI 1)),
 mV 9 45])))))))
 (kL [0,1,9,10] 0 (.seq (.block 4 (.loop (kL [0,1,9,10] 0 (.seq (.seq (.draw 0 [
 ⟨0,none,(mV 46 9),[]⟩,
 ⟨1,none,(mV 47 10),[]⟩,
 ⟨2,none,(oP 48 (.bin .leq .num (.t 46) (.t 47))),[]⟩,
 ⟨3,none,(mV 49 48),[]⟩,
 ⟨4,none,(mG 50 0 49 true),[]⟩,
 ⟨5,none,(mG 51 1 49 true),[]⟩,
 ⟨6,none,(oG 52 (iA 1 50 51) 49 true),[]⟩,
 ⟨7,none,(oG 53 (lD 52) 49 true),[]⟩,
 ⟨8,none,(mG 54 0 49 true),[]⟩,
 ⟨9,none,(mG 55 10 49 true),[]⟩,
 ⟨10,none,(oG 56 (iA 1 54 55) 49 true),[]⟩,
 ⟨11,none,(oG 57 (lD 56) 49 true),[]⟩,
 ⟨12,none,(oG 58 (.call 93 [(.t 53),(.t 57)]) 49 true),[]⟩,
 ⟨13,none,(oP 59 (.pick (.t 49) (.t 58) (cB false))),[]⟩])
 (kL [0,1,9,10,59] 0 (.cond (.t 59)
 (.skip)
 (.exit 4))))
 (kL [0,1,9,10] 0 (.block 5 (.region [
 mV 60 10,
 oP 61 (.bin .sub .num (.t 60) (cI 1)),
 mV 10 61])))))))
 (kL [0,1,9,10] 0 (.seq (.seq (.region [
 mV 62 9,
 mV 63 10,
 oP 64 (.bin .gtr .num (.t 62) (.t 63))])
 (kL [0,1,9,10,64] 0 (.cond (.t 64)
 (.exit 0)
 (.skip))))
 (kL [0,1,9,10] 0 (.seq (.draw 0 [
 ⟨0,none,(mV 65 0),[]⟩,
 ⟨1,none,(mV 66 9),[]⟩,
 ⟨2,none,(mV 67 0),[]⟩,
 ⟨3,none,(mV 68 10),[]⟩,
 ⟨4,none,(mV 69 0),[]⟩,
 ⟨5,none,(mV 70 10),[]⟩,
 ⟨6,none,(oP 71 (iA 1 69 70)),[]⟩,
 ⟨7,none,(oP 72 (lD 71)),[]⟩,
 ⟨8,none,(mV 73 0),[]⟩,
 ⟨9,none,(mV 74 9),[]⟩,
 ⟨10,none,(oP 75 (iA 1 73 74)),[]⟩,
 ⟨11,none,(oP 76 (lD 75)),[]⟩,
 ⟨12,none,(oP 77 (iA 1 65 66)),[]⟩,
 ⟨13,none,(oW (.store 1 (.t 77) (.t 72))),[]⟩,
 ⟨14,none,(oP 78 (iA 1 67 68)),[]⟩,
 ⟨15,none,(oW (.store 1 (.t 78) (.t 76))),[]⟩])
 (kL [0,1,9,10] 0 (.seq (.region [
 mV 79 9,
 oP 80 (.bin .add .num (.t 79) (cI 1)),
 mV 9 80])
 (kL [0,1,9,10] 0 (.region [
 mV 81 10,
 oP 82 (.bin .sub .num (.t 81) (cI 1)),
 mV 10 82])))))))))))))))
 (kL [9] 0 (.seq (.region [
 mV 83 9,
 mV 8 83])
 (.ret)))))))))⟩
def n95:NF:=⟨168,[8,9],
 .seq (.region [
 oP 8 (.mov (cI 0)),
 oP 9 (.mov (cB false))])
 (kL [0,1,2,3] 0 (.seq (.draw 0 [
 ⟨0,none,(mV 12 0),[]⟩,
 ⟨1,none,(mV 13 1),[]⟩,
 ⟨2,none,(mV 14 0),[]⟩,
 ⟨3,none,(mV 15 3),[]⟩,
 ⟨4,none,(mV 16 0),[]⟩,
 ⟨5,none,(mV 17 3),[]⟩,
 ⟨6,none,(oP 18 (iA 1 16 17)),[]⟩,
 ⟨7,none,(oP 19 (lD 18)),[]⟩,
 ⟨8,none,(mV 20 0),[]⟩,
 ⟨9,none,(mV 21 1),[]⟩,
 ⟨10,none,(oP 22 (iA 1 20 21)),[]⟩,
 ⟨11,none,(oP 23 (lD 22)),[]⟩,
 ⟨12,none,(oP 24 (iA 1 12 13)),[]⟩,
 ⟨13,none,(oW (.store 1 (.t 24) (.t 19))),[]⟩,
 ⟨14,none,(oP 25 (iA 1 14 15)),[]⟩,
 ⟨15,none,(oW (.store 1 (.t 25) (.t 23))),[]⟩])
 (kL [0,1,2] 0 (.seq (.region [
 mV 26 1,
 oP 27 (.bin .add .num (.t 26) (cI 1)),
 mV 28 2,
 oP 29 (.bin .sub .num (.t 28) (cI 1)),
 mV 10 27,
 mV 11 29])
 (kL [0,1,10,11] 0 (.seq (.block 0 (.loop (kL [0,1,10,11] 0 (.seq (.seq (.draw 0 [
 ⟨0,none,(mV 30 10),[]⟩,
 ⟨1,none,(mV 31 11),[]⟩,
 ⟨2,none,(oP 32 (.bin .leq .num (.t 30) (.t 31))),[]⟩,
 ⟨3,none,(mV 33 32),[]⟩,
 ⟨4,none,(mG 34 0 33 true),[]⟩,
 ⟨5,none,(mG 35 10 33 true),[]⟩,
 ⟨6,none,(oG 36 (iA 1 34 35) 33 true),[]⟩,
 ⟨7,none,(oG 37 (lD 36) 33 true),[]⟩,
 ⟨8,none,(mG 38 0 33 true),[]⟩,
 ⟨9,none,(mG 39 1 33 true),[]⟩,
 ⟨10,none,(oG 40 (iA 1 38 39) 33 true),[]⟩,
 ⟨11,none,(oG 41 (lD 40) 33 true),[]⟩,
 ⟨12,none,(oG 42 (.call 93 [(.t 37),(.t 41)]) 33 true),[]⟩,
 ⟨13,none,(oP 43 (.pick (.t 33) (.t 42) (cB false))),[]⟩])
 (kL [0,1,10,11,43] 0 (.cond (.t 43)
 (.skip)
 (.exit 0))))
 (kL [0,1,10,11] 0 (.block 1 (.region [
 mV 44 10,
 oP 45 (.bin .add .num (.t 44) (cI 1)),
 mV 10 45])))))))
 (kL [0,1,10,11] 0 (.seq (.block 2 (.loop (kL [0,1,10,11] 0 (.seq (.seq (.draw 0 [
 ⟨0,none,(mV 46 10),[]⟩,
 ⟨1,none,(mV 47 11),[]⟩,
 ⟨2,none,(oP 48 (.bin .leq .num (.t 46) (.t 47))),[]⟩,
 ⟨3,none,(mV 49 48),[]⟩,
 ⟨4,none,(mG 50 0 49 true),[]⟩,
 ⟨5,none,(mG 51 11 49 true),[]⟩,
 ⟨6,none,(oG 52 (iA 1 50 51) 49 true),[]⟩,
 ⟨7,none,(oG 53 (lD 52) 49 true),[]⟩,
 ⟨8,none,(mG 54 0 49 true),[]⟩,
 ⟨9,none,(mG 55 1 49 true),[]⟩,
 ⟨10,none,(oG 56 (iA 1 54 55) 49 true),[]⟩,
 ⟨11,none,(oG 57 (lD 56) 49 true),[]⟩,
 ⟨12,none,(oG 58 (.call 93 [(.t 53),(.t 57)]) 49 true),[]⟩,
 ⟨13,none,(oG 59 (.un .not (.t 58)) 49 true),[]⟩,
 ⟨14,none,(oP 60 (.pick (.t 49) (.t 59) (cB false))),[]⟩])
 (kL [0,1,10,11,60] 0 (.cond (.t 60)
 (.skip)
 (.exit 2))))
 (kL [0,1,10,11] 0 (.block 3 (.region [
 mV 61 11,
 oP 62 (.bin .sub .num (.t 61) (cI 1)),
 mV 11 62])))))))
 (kL [0,1,10,11] 0 (.seq (.seq (.region [
 mV 63 10,
 mV 64 11,
 oP 65 (.bin .gtr .num (.t 63) (.t 64))])
 (kL [0,1,10,11,65] 0 (.cond (.t 65)
 (.seq (.draw 0 [
 ⟨0,none,(mV 66 0),[]⟩,
 ⟨1,none,(mV 67 11),[]⟩,
 ⟨2,none,(mV 68 0),[]⟩,
 ⟨3,none,(mV 69 1),[]⟩,
 ⟨4,none,(mV 70 0),[]⟩,
 ⟨5,none,(mV 71 1),[]⟩,
 ⟨6,none,(oP 72 (iA 1 70 71)),[]⟩,
 ⟨7,none,(oP 73 (lD 72)),[]⟩,
 ⟨8,none,(mV 74 0),[]⟩,
 ⟨9,none,(mV 75 11),[]⟩,
 ⟨10,none,(oP 76 (iA 1 74 75)),[]⟩,
 ⟨11,none,(oP 77 (lD 76)),[]⟩,
 ⟨12,none,(oP 78 (iA 1 66 67)),[]⟩,
 ⟨13,none,(oW (.store 1 (.t 78) (.t 73))),[]⟩,
 ⟨14,none,(oP 79 (iA 1 68 69)),[]⟩,
 ⟨15,none,(oW (.store 1 (.t 79) (.t 77))),[]⟩])
 (kL [11] 0 (.seq (.region [
 mV 80 11,
 mV 8 80,
 oP 9 (.mov (cB true))])
 (.ret))))
 (.skip))))
 (kL [0,1,10,11] 0 (.seq (.draw 0 [
 ⟨0,none,(mV 81 0),[]⟩,
 ⟨1,none,(mV 82 10),[]⟩,
 ⟨2,none,(mV 83 0),[]⟩,
 ⟨3,none,(mV 84 11),[]⟩,
 ⟨4,none,(mV 85 0),[]⟩,
 ⟨5,none,(mV 86 11),[]⟩,
 ⟨6,none,(oP 87 (iA 1 85 86)),[]⟩,
 ⟨7,none,(oP 88 (lD 87)),[]⟩,
 ⟨8,none,(mV 89 0),[]⟩,
 ⟨9,none,(mV 90 10),[]⟩,
 ⟨10,none,(oP 91 (iA 1 89 90)),[]⟩,
 ⟨11,none,(oP 92 (lD 91)),[]⟩,
 ⟨12,none,(oP 93 (iA 1 81 82)),[]⟩,
 ⟨13,none,(oW (.store 1 (.t 93) (.t 88))),[]⟩,
 ⟨14,none,(oP 94 (iA 1 83 84)),[]⟩,
 ⟨15,none,(oW (.store 1 (.t 94) (.t 92))),[]⟩])
 (kL [0,1,10,11] 0 (.seq (.region [
 mV 95 10,
 oP 96 (.bin .add .num (.t 95) (cI 1)),
 mV 10 96])
 (kL [0,1,10,11] 0 (.seq (.region [
 mV 97 11,
 oP 98 (.bin .sub .num (.t 97) (cI 1)),
 mV 11 98])
 (kL [0,1,10,11] 0 (.seq (.block 4 (.loop (kL [0,1,10,11] 0 (.block 5 (.seq (.block 6 (.loop (kL [0,1,10,11] 0 (.seq (.seq (.draw 0 [
 ⟨0,none,(mV 99 10),[]⟩,
 ⟨1,none,(mV 100 11),[]⟩,
 ⟨2,none,(oP 101 (.bin .leq .num (.t 99) (.t 100))),[]⟩,
 ⟨3,none,(mV 102 101),[]⟩,
 ⟨4,none,(mG 103 0 102 true),[]⟩,
 ⟨5,none,(mG 104 10 102 true),[]⟩,
 ⟨6,none,(oG 105 (iA 1 103 104) 102 true),[]⟩,
 ⟨7,none,(oG 106 (lD 105) 102 true),[]⟩,
 ⟨8,none,(mG 107 0 102 true),[]⟩,
 ⟨9,none,(mG 108 1 102 true),[]⟩,
 ⟨10,none,(oG 109 (iA 1 107 108) 102 true),[]⟩,
 ⟨11,none,(oG 110 (lD 109) 102 true),[]⟩,
 ⟨12,none,(oG 111 (.call 93 [(.t 106),(.t 110)]) 102 true),[]⟩,
 ⟨13,none,(oP 112 (.pick (.t 102) (.t 111) (cB false))),[]⟩])
 (kL [0,1,10,11,112] 0 (.cond (.t 112)
 (.skip)
 (.exit 6))))
 (kL [0,1,10,11] 0 (.block 7 (.region [
 mV 113 10,
 oP 114 (.bin .add .num (.t 113) (cI 1)),
 mV 10 114])))))))
 (kL [0,1,10,11] 0 (.seq (.block 8 (.loop (kL [0,1,10,11] 0 (.seq (.seq (.draw 0 [
 ⟨0,none,(mV 115 10),[]⟩,
 ⟨1,none,(mV 116 11),[]⟩,
 ⟨2,none,(oP 117 (.bin .leq .num (.t 115) (.t 116))),[]⟩,
 ⟨3,none,(mV 118 117),[]⟩,
 ⟨4,none,(mG 119 0 118 true),[]⟩,
 ⟨5,none,(mG 120 11 118 true),[]⟩,
 ⟨6,none,(oG 121 (iA 1 119 120) 118 true),[]⟩,
 ⟨7,none,(oG 122 (lD 121) 118 true),[]⟩,
 ⟨8,none,(mG 123 0 118 true),[]⟩,
 ⟨9,none,(mG 124 1 118 true),[]⟩,
 ⟨10,none,(oG 125 (iA 1 123 124) 118 true),[]⟩,
 ⟨11,none,(oG 126 (lD 125) 118 true),[]⟩,
 ⟨12,none,(oG 127 (.call 93 [(.t 122),(.t 126)]) 118 true),[]⟩,
 ⟨13,none,(oG 128 (.un .not (.t 127)) 118 true),[]⟩,
 ⟨14,none,(oP 129 (.pick (.t 118) (.t 128) (cB false))),[]⟩])
 (kL [0,1,10,11,129] 0 (.cond (.t 129)
 (.skip)
 (.exit 8))))
 (kL [0,1,10,11] 0 (.block 9 (.region [
 mV 130 11,
 oP 131 (.bin .sub .num (.t 130) (cI 1)),
 mV 11 131])))))))
 (kL [0,1,10,11] 0 (.seq (.seq (.region [
 mV 132 10,
 mV 133 11,
 oP 134 (.bin .gtr .num (.t 132) (.t 133))])
 (kL [0,1,10,11,134] 0 (.cond (.t 134)
 (.exit 4)
 (.skip))))
 (kL [0,1,10,11] 0 (.seq (.draw 0 [
 ⟨0,none,(mV 135 0),[]⟩,
 ⟨1,none,(mV 136 10),[]⟩,
 ⟨2,none,(mV 137 0),[]⟩,
 ⟨3,none,(mV 138 11),[]⟩,
 ⟨4,none,(mV 139 0),[]⟩,
 ⟨5,none,(mV 140 11),[]⟩,
 ⟨6,none,(oP 141 (iA 1 139 140)),[]⟩,
 ⟨7,none,(oP 142 (lD 141)),[]⟩,
 ⟨8,none,(mV 143 0),[]⟩,
 ⟨9,none,(mV 144 10),[]⟩,
 ⟨10,none,(oP 145 (iA 1 143 144)),[]⟩,
 ⟨11,none,(oP 146 (lD 145)),[]⟩,
 ⟨12,none,(oP 147 (iA 1 135 136)),[]⟩,
 ⟨13,none,(oW (.store 1 (.t 147) (.t 142))),[]⟩,
 ⟨14,none,(oP 148 (iA 1 137 138)),[]⟩,
 ⟨15,none,(oW (.store 1 (.t 148) (.t 146))),[]⟩])
 (kL [0,1,10,11] 0 (.seq (.region [
 mV 149 10,
 oP 150 (.bin .add .num (.t 149) (cI 1)),
 mV 10 150])
 (kL [0,1,10,11] 0 (.region [
 mV 151 11,
 oP 152 (.bin .sub .num (.t 151) (cI 1)),
 mV 11 152])))))))))))))))
 (kL [0,1,11] 0 (.seq (.draw 0 [
 ⟨0,none,(mV 153 0),[]⟩,
 ⟨1,none,(mV 154 11),[]⟩,
 ⟨2,none,(mV 155 0),[]⟩,
 ⟨3,none,(mV 156 1),[]⟩,
 ⟨4,none,(mV 157 0),[]⟩,
 ⟨5,none,(mV 158 1),[]⟩,
 ⟨6,none,(oP 159 (iA 1 157 158)),[]⟩,
 ⟨7,none,(oP 160 (lD 159)),[]⟩,
 ⟨8,none,(mV 161 0),[]⟩,
 ⟨9,none,(mV 162 11),[]⟩,
 ⟨10,none,(oP 163 (iA 1 161 162)),[]⟩,
 ⟨11,none,(oP 164 (lD 163)),[]⟩,
 ⟨12,none,(oP 165 (iA 1 153 154)),[]⟩,
 ⟨13,none,(oW (.store 1 (.t 165) (.t 160))),[]⟩,
 ⟨14,none,(oP 166 (iA 1 155 156)),[]⟩,
 ⟨15,none,(oW (.store 1 (.t 166) (.t 164))),[]⟩])
 (kL [11] 0 (.seq (.region [
 mV 167 11,
 mV 8 167,
 oP 9 (.mov (cB false))])
 (.ret)))))))))))))))))))))))⟩
def n96:NF:=⟨19,[2],
 .seq (.region [
 oP 2 (.mov (cI 0))])
 (kL [0,2] 0 (.seq (.seq (.region [
 mV 3 0,
 oP 4 (.bin .geq .num (.t 3) (.c (.c (.int .u32 65536))))])
 (kL [0,2,4] 0 (.cond (.t 4)
 (.seq (.region [
 mV 5 0,
 oP 6 (.bin .shr .num (.t 5) (.c (.c (.int .u64 16)))),
 mV 0 6])
 (kL [0] 0 (.region [
 oP 2 (.mov (cI 16))])))
 (.skip))))
 (kL [0,2] 0 (.seq (.seq (.region [
 mV 7 0,
 oP 8 (.bin .geq .num (.t 7) (.c (.c (.int .u32 256))))])
 (kL [0,2,8] 0 (.cond (.t 8)
 (.seq (.region [
 mV 9 0,
 oP 10 (.bin .shr .num (.t 9) (.c (.c (.int .u64 8)))),
 mV 0 10])
 (kL [0,2] 0 (.region [
 mV 11 2,
 oP 12 (.bin .add .num (.t 11) (cI 8)),
 mV 2 12])))
 (.skip))))
 (kL [0,2] 0 (.seq (.region [
 mV 13 2,
 mV 14 0,
 oP 15 (.conv (.toInt .u8) (.t 14)),
 oP 16 (.indexS (.c (.c (.str (bs [0,1,2,2,3,3,3,3,4,4,4,4,4,4,4,4,5,5,5,5,5,5,5,5,5,5,5,5,5,5,5,5,6,6,6,6,6,6,6,6,6,6,6,6,6,6,6,6,6,6,6,6,6,6,6,6,6,6,6,6,6,6,6,6,7,7,7,7,7,7,7,7,7,7,7,7,7,7,7,7,7,7,7,7,7,7,7,7,7,7,7,7,7,7,7,7,7,7,7,7,7,7,7,7,7,7,7,7,7,7,7,7,7,7,7,7,7,7,7,7,7,7,7,7,7,7,7,7,8,8,8,8,8,8,8,8,8,8,8,8,8,8,8,8,8,8,8,8,8,8,8,8,8,8,8,8,8,8,8,8,8,8,8,8,8,8,8,8,8,8,8,8,8,8,8,8,8,8,8,8,8,8,8,8,8,8,8,8,8,8,8,8,8,8,8,8,8,8,8,8,8,8,8,8,8,8,8,8,8,8,8,8,8,8,8,8,8,8,8,8,8,8,8,8,8,8,8,8,8,8,8,8,8,8,8,8,8,8,8,8,8,8,8,8,8,8,8,8,8,8,8,8,8,8,8,8])))) (.t 15)),
 oP 17 (.conv (.toInt .i64) (.t 16)),
 oP 18 (.bin .add .num (.t 13) (.t 17)),
 mV 2 18])
 (.ret)))))))⟩
def n97:NF:=⟨25,[2],
 .seq (.region [
 oP 2 (.mov (cI 0))])
 (kL [0,2] 0 (.seq (.seq (.region [
 mV 3 0,
 oP 4 (.bin .geq .num (.t 3) (.c (.c (.int .u64 4294967296))))])
 (kL [0,2,4] 0 (.cond (.t 4)
 (.seq (.region [
 mV 5 0,
 oP 6 (.bin .shr .num (.t 5) (.c (.c (.int .u64 32)))),
 mV 0 6])
 (kL [0] 0 (.region [
 oP 2 (.mov (cI 32))])))
 (.skip))))
 (kL [0,2] 0 (.seq (.seq (.region [
 mV 7 0,
 oP 8 (.bin .geq .num (.t 7) (.c (.c (.int .u64 65536))))])
 (kL [0,2,8] 0 (.cond (.t 8)
 (.seq (.region [
 mV 9 0,
 oP 10 (.bin .shr .num (.t 9) (.c (.c (.int .u64 16)))),
 mV 0 10])
 (kL [0,2] 0 (.region [
 mV 11 2,
 oP 12 (.bin .add .num (.t 11) (cI 16)),
 mV 2 12])))
 (.skip))))
 (kL [0,2] 0 (.seq (.seq (.region [
 mV 13 0,
 oP 14 (.bin .geq .num (.t 13) (.c (.c (.int .u64 256))))])
 (kL [0,2,14] 0 (.cond (.t 14)
 (.seq (.region [
 mV 15 0,
 oP 16 (.bin .shr .num (.t 15) (.c (.c (.int .u64 8)))),
 mV 0 16])
 (kL [0,2] 0 (.region [
 mV 17 2,
 oP 18 (.bin .add .num (.t 17) (cI 8)),
 mV 2 18])))
 (.skip))))
 (kL [0,2] 0 (.seq (.region [
 mV 19 2,
 mV 20 0,
 oP 21 (.conv (.toInt .u8) (.t 20)),
 oP 22 (.indexS (.c (.c (.str (bs [0,1,2,2,3,3,3,3,4,4,4,4,4,4,4,4,5,5,5,5,5,5,5,5,5,5,5,5,5,5,5,5,6,6,6,6,6,6,6,6,6,6,6,6,6,6,6,6,6,6,6,6,6,6,6,6,6,6,6,6,6,6,6,6,7,7,7,7,7,7,7,7,7,7,7,7,7,7,7,7,7,7,7,7,7,7,7,7,7,7,7,7,7,7,7,7,7,7,7,7,7,7,7,7,7,7,7,7,7,7,7,7,7,7,7,7,7,7,7,7,7,7,7,7,7,7,7,7,8,8,8,8,8,8,8,8,8,8,8,8,8,8,8,8,8,8,8,8,8,8,8,8,8,8,8,8,8,8,8,8,8,8,8,8,8,8,8,8,8,8,8,8,8,8,8,8,8,8,8,8,8,8,8,8,8,8,8,8,8,8,8,8,8,8,8,8,8,8,8,8,8,8,8,8,8,8,8,8,8,8,8,8,8,8,8,8,8,8,8,8,8,8,8,8,8,8,8,8,8,8,8,8,8,8,8,8,8,8,8,8,8,8,8,8,8,8,8,8,8,8,8,8,8,8,8,8])))) (.t 21)),
 oP 23 (.conv (.toInt .i64) (.t 22)),
 oP 24 (.bin .add .num (.t 19) (.t 23)),
 mV 2 24])
 (.ret)))))))))⟩
def n158:NF:=⟨53,[],
 .seq (.region [
 mV 10 1,
 oP 11 (.bin .add .num (.t 10) (cI 1)),
 mV 8 11])
 (kL [0,1,2,3,8] 0 (.block 0 (.loop (kL [0,1,2,3,8] 0 (.seq (.seq (.region [
 mV 12 8,
 mV 13 2,
 oP 14 (.bin .lss .num (.t 12) (.t 13))])
 (kL [0,1,2,3,8,14] 0 (.cond (.t 14)
 (.skip)
 (.exit 0))))
 (kL [0,1,2,3,8] 0 (.seq (.block 1 (.seq (.region [
 mV 17 8,
 mV 9 17])
 (kL [0,1,2,3,8,9] 0 (.block 2 (.loop (kL [0,1,2,3,8,9] 0 (.seq (.seq (.draw 0 [
 ⟨0,none,(mV 18 9),[]⟩,
 ⟨1,none,(mV 19 1),[]⟩,
 ⟨2,none,(oP 20 (.bin .gtr .num (.t 18) (.t 19))),[]⟩,
 ⟨3,none,(mV 21 20),[]⟩,
 ⟨4,none,(mG 22 3 21 true),[]⟩,
 ⟨5,none,(mG 23 0 21 true),[]⟩,
 ⟨6,none,(mG 24 9 21 true),[]⟩,
 ⟨7,none,(oG 25 (iA 5 23 24) 21 true),[]⟩,
 ⟨8,none,(oG 26 (.load (some 5) (.t 25)) 21 true),[]⟩,
 ⟨9,none,(mG 27 0 21 true),[]⟩,
 ⟨10,none,(mG 28 9 21 true),[]⟩,
 ⟨11,none,(oG 29 (.bin .sub .num (.t 28) (cI 1)) 21 true),[]⟩,
 ⟨12,none,(oG 30 (iA 5 27 29) 21 true),[]⟩,
 ⟨13,none,(oG 31 (.load (some 5) (.t 30)) 21 true),[]⟩,
 ⟨14,none,(oG 32 (.dyn (.t 22) [(.t 26),(.t 31)]) 21 true),[]⟩,
 ⟨15,none,(oG 33 (.bin .lss .num (.t 32) (cI 0)) 21 true),[]⟩,
 ⟨16,none,(oP 34 (.pick (.t 21) (.t 33) (cB false))),[]⟩])
 (kL [0,1,2,3,8,9,34] 0 (.cond (.t 34)
 (.skip)
 (.exit 2))))
 (kL [0,1,2,3,8,9] 0 (.seq (.block 3 (.draw 0 [
 ⟨0,none,(mV 37 0),[]⟩,
 ⟨1,none,(mV 38 9),[]⟩,
 ⟨2,none,(mV 39 0),[]⟩,
 ⟨3,none,(mV 40 9),[]⟩,
 ⟨4,none,(oP 41 (.bin .sub .num (.t 40) (cI 1))),[]⟩,
 ⟨5,none,(mV 42 0),[]⟩,
 ⟨6,none,(mV 43 9),[]⟩,
 ⟨7,none,(oP 44 (.bin .sub .num (.t 43) (cI 1))),[]⟩,
 ⟨8,none,(oP 45 (iA 5 42 44)),[]⟩,
 ⟨9,none,(oP 46 (.load (some 5) (.t 45))),[]⟩,
 ⟨10,none,(mV 47 0),[]⟩,
 ⟨11,none,(mV 48 9),[]⟩,
 ⟨12,none,(oP 49 (iA 5 47 48)),[]⟩,
 ⟨13,none,(oP 50 (.load (some 5) (.t 49))),[]⟩,
 ⟨14,none,(oP 51 (iA 5 37 38)),[]⟩,
 ⟨15,none,(oW (.store 5 (.t 51) (.t 46))),[]⟩,
 ⟨16,none,(oP 52 (iA 5 39 41)),[]⟩,
 ⟨17,none,(oW (.store 5 (.t 52) (.t 50))),[]⟩]))
 (kL [0,1,2,3,8,9] 0 (.region [
 mV 35 9,
 oP 36 (.bin .sub .num (.t 35) (cI 1)),
 mV 9 36])))))))))))
 (kL [0,1,2,3,8] 0 (.region [
 mV 15 8,
 oP 16 (.bin .add .num (.t 15) (cI 1)),
 mV 8 16])))))))))⟩
def n159:NF:=⟨60,[],
 .seq (.region [
 mV 13 1,
 mV 8 13])
 (kL [0,1,2,3,8] 0 (.seq (.region [
 oP 9 (.mov (cI 0))])
 (kL [0,1,2,3,8,9] 0 (.seq (.region [
 mV 14 2,
 mV 15 1,
 oP 16 (.bin .sub .num (.t 14) (.t 15)),
 mV 10 16])
 (kL [0,3,8,9,10] 0 (.seq (.seq (.region [
 mV 17 10,
 oP 18 (.bin .sub .num (.t 17) (cI 1)),
 oP 19 (.bin .quo .num (.t 18) (cI 2)),
 mV 11 19])
 (kL [0,3,8,9,10,11] 0 (.block 0 (.loop (kL [0,3,8,9,10,11] 0 (.seq (.seq (.region [
 mV 20 11,
 oP 21 (.bin .geq .num (.t 20) (cI 0))])
 (kL [0,3,8,9,10,11,21] 0 (.cond (.t 21)
 (.skip)
 (.exit 0))))
 (kL [0,3,8,9,10,11] 0 (.seq (.block 1 (.region [
 mV 24 0,
 mV 25 11,
 mV 26 10,
 mV 27 8,
 mV 28 3,
 oP 29 (.call 166 [(.t 24),(.t 25),(.t 26),(.t 27),(.t 28)])]))
 (kL [0,3,8,9,10,11] 0 (.region [
 mV 22 11,
 oP 23 (.bin .sub .num (.t 22) (cI 1)),
 mV 11 23]))))))))))
 (kL [0,3,8,9,10] 0 (.seq (.region [
 mV 30 10,
 oP 31 (.bin .sub .num (.t 30) (cI 1)),
 mV 12 31])
 (kL [0,3,8,9,12] 0 (.block 2 (.loop (kL [0,3,8,9,12] 0 (.seq (.seq (.region [
 mV 32 12,
 oP 33 (.bin .geq .num (.t 32) (cI 0))])
 (kL [0,3,8,9,12,33] 0 (.cond (.t 33)
 (.skip)
 (.exit 2))))
 (kL [0,3,8,9,12] 0 (.seq (.block 3 (.seq (.draw 0 [
 ⟨0,none,(mV 36 0),[]⟩,
 ⟨1,none,(mV 37 8),[]⟩,
 ⟨2,none,(mV 38 0),[]⟩,
 ⟨3,none,(mV 39 8),[]⟩,
 ⟨4,none,(mV 40 12),[]⟩,
 ⟨5,none,(oP 41 (.bin .add .num (.t 39) (.t 40))),[]⟩,
 ⟨6,none,(mV 42 0),[]⟩,
 ⟨7,none,(mV 43 8),[]⟩,
 ⟨8,none,(mV 44 12),[]⟩,
 ⟨9,none,(oP 45 (.bin .add .num (.t 43) (.t 44))),[]⟩,
 ⟨10,none,(oP 46 (iA 5 42 45)),[]⟩,
 ⟨11,none,(oP 47 (.load (some 5) (.t 46))),[]⟩,
 ⟨12,none,(mV 48 0),[]⟩,
 ⟨13,none,(mV 49 8),[]⟩,
 ⟨14,none,(oP 50 (iA 5 48 49)),[]⟩,
 ⟨15,none,(oP 51 (.load (some 5) (.t 50))),[]⟩,
 ⟨16,none,(oP 52 (iA 5 36 37)),[]⟩,
 ⟨17,none,(oW (.store 5 (.t 52) (.t 47))),[]⟩,
 ⟨18,none,(oP 53 (iA 5 38 41)),[]⟩,
 ⟨19,none,(oW (.store 5 (.t 53) (.t 51))),[]⟩])
 (kL [0,3,8,9,12] 0 (.region [
 mV 54 0,
 mV 55 9,
 mV 56 12,
 mV 57 8,
 mV 58 3,
 oP 59 (.call 166 [(.t 54),(.t 55),(.t 56),(.t 57),(.t 58)])]))))
 (kL [0,3,8,9,12] 0 (.region [
 mV 34 12,
 oP 35 (.bin .sub .num (.t 34) (cI 1)),
 mV 12 35])))))))))))))))))⟩
def n160:NF:=⟨67,[],
 .seq (.region [
 mV 13 2,
 mV 14 1,
 oP 15 (.bin .sub .num (.t 13) (.t 14)),
 mV 8 15])
 (kL [0,1,8] 0 (.seq (.region [
 mV 16 8,
 oP 17 (.bin .geq .num (.t 16) (cI 8))])
 (kL [0,1,8,17] 0 (.cond (.t 17)
 (.seq (.region [
 mV 18 8,
 oP 19 (.conv (.toInt .u64) (.t 18)),
 oP 9 (.box false 1 (.c (.c (.int .u64 0)))),
 oW (.store 1 (.t 9) (.t 19))])
 (kL [0,1,8,9] 0 (.seq (.region [
 mV 20 8,
 oP 21 (.call 108 [(.t 20)]),
 mV 10 21])
 (kL [0,1,8,9,10] 0 (.seq (.region [
 mV 22 1,
 mV 23 8,
 oP 24 (.bin .quo .num (.t 23) (cI 4)),
 oP 25 (.bin .mul .num (.t 24) (cI 2)),
 oP 26 (.bin .add .num (.t 22) (.t 25)),
 oP 27 (.bin .sub .num (.t 26) (cI 1)),
 mV 11 27])
 (kL [0,1,8,9,10,11] 0 (.block 0 (.loop (kL [0,1,8,9,10,11] 0 (.seq (.seq (.region [
 mV 28 11,
 mV 29 1,
 mV 30 8,
 oP 31 (.bin .quo .num (.t 30) (cI 4)),
 oP 32 (.bin .mul .num (.t 31) (cI 2)),
 oP 33 (.bin .add .num (.t 29) (.t 32)),
 oP 34 (.bin .add .num (.t 33) (cI 1)),
 oP 35 (.bin .leq .num (.t 28) (.t 34))])
 (kL [0,1,8,9,10,11,35] 0 (.cond (.t 35)
 (.skip)
 (.exit 0))))
 (kL [0,1,8,9,10,11] 0 (.seq (.block 1 (.seq (.region [
 oP 38 (.call 109 [(.t 9)]),
 mV 39 10,
 oP 40 (.bin .sub .num (.t 39) (.c (.c (.int .u64 1)))),
 oP 41 (.bin .and .num (.t 38) (.t 40)),
 oP 42 (.conv (.toInt .i64) (.t 41)),
 mV 12 42])
 (kL [0,1,8,9,10,11,12] 0 (.seq (.seq (.region [
 mV 43 12,
 mV 44 8,
 oP 45 (.bin .geq .num (.t 43) (.t 44))])
 (kL [0,1,8,9,10,11,12,45] 0 (.cond (.t 45)
 (.region [
 mV 46 12,
 mV 47 8,
 oP 48 (.bin .sub .num (.t 46) (.t 47)),
 mV 12 48])
 (.skip))))
 (kL [0,1,8,9,10,11,12] 0 (.draw 0 [
 ⟨0,none,(mV 49 0),[]⟩,
 ⟨1,none,(mV 50 11),[]⟩,
 ⟨2,none,(mV 51 0),[]⟩,
 ⟨3,none,(mV 52 1),[]⟩,
 ⟨4,none,(mV 53 12),[]⟩,
 ⟨5,none,(oP 54 (.bin .add .num (.t 52) (.t 53))),[]⟩,
 ⟨6,none,(mV 55 0),[]⟩,
 ⟨7,none,(mV 56 1),[]⟩,
 ⟨8,none,(mV 57 12),[]⟩,
 ⟨9,none,(oP 58 (.bin .add .num (.t 56) (.t 57))),[]⟩,
 ⟨10,none,(oP 59 (iA 5 55 58)),[]⟩,
 ⟨11,none,(oP 60 (.load (some 5) (.t 59))),[]⟩,
 ⟨12,none,(mV 61 0),[]⟩,
 ⟨13,none,(mV 62 11),[]⟩,
 ⟨14,none,(oP 63 (iA 5 61 62)),[]⟩,
 ⟨15,none,(oP 64 (.load (some 5) (.t 63))),[]⟩,
 ⟨16,none,(oP 65 (iA 5 49 50)),[]⟩,
 ⟨17,none,(oW (.store 5 (.t 65) (.t 60))),[]⟩,
 ⟨18,none,(oP 66 (iA 5 51 54)),[]⟩,
 ⟨19,none,(oW (.store 5 (.t 66) (.t 64))),[]⟩]))))))
 (kL [0,1,8,9,10,11] 0 (.region [
 mV 36 11,
 oP 37 (.bin .add .num (.t 36) (cI 1)),
 mV 11 37]))))))))))))))
 (.skip)))))⟩
def n161:NF:=⟨63,[8,9],
 .seq (.region [
 oP 8 (.mov (cI 0)),
 oP 9 (.mov (cI 0))])
 (kL [0,1,2,3] 0 (.seq (.region [
 mV 15 2,
 mV 16 1,
 oP 17 (.bin .sub .num (.t 15) (.t 16)),
 mV 10 17])
 (kL [0,1,3,10] 0 (.seq (.region [
 oP 11 (.box false 1 (cI 0))])
 (kL [0,1,3,10,11] 0 (.seq (.region [
 mV 18 1,
 mV 19 10,
 oP 20 (.bin .quo .num (.t 19) (cI 4)),
 oP 21 (.bin .mul .num (.t 20) (cI 1)),
 oP 22 (.bin .add .num (.t 18) (.t 21)),
 mV 12 22])
 (kL [0,1,3,10,11,12] 0 (.seq (.region [
 mV 23 1,
 mV 24 10,
 oP 25 (.bin .quo .num (.t 24) (cI 4)),
 oP 26 (.bin .mul .num (.t 25) (cI 2)),
 oP 27 (.bin .add .num (.t 23) (.t 26)),
 mV 13 27])
 (kL [0,1,3,10,11,12,13] 0 (.seq (.region [
 mV 28 1,
 mV 29 10,
 oP 30 (.bin .quo .num (.t 29) (cI 4)),
 oP 31 (.bin .mul .num (.t 30) (cI 3)),
 oP 32 (.bin .add .num (.t 28) (.t 31)),
 mV 14 32])
 (kL [0,3,10,11,12,13,14] 0 (.seq (.seq (.region [
 mV 33 10,
 oP 34 (.bin .geq .num (.t 33) (cI 8))])
 (kL [0,3,10,11,12,13,14,34] 0 (.cond (.t 34)
 (.seq (.seq (.region [
 mV 35 10,
 oP 36 (.bin .geq .num (.t 35) (cI 50))])
 (kL [0,3,11,12,13,14,36] 0 (.cond (.t 36)
 (.seq (.region [
 mV 37 0,
 mV 38 12,
 mV 39 3,
 oP 40 (.call 167 [(.t 37),(.t 38),(.t 11),(.t 39)]),
 mV 12 40])
 (kL [0,3,11,12,13,14] 0 (.seq (.region [
 mV 41 0,
 mV 42 13,
 mV 43 3,
 oP 44 (.call 167 [(.t 41),(.t 42),(.t 11),(.t 43)]),
 mV 13 44])
 (kL [0,3,11,12,13,14] 0 (.region [
 mV 45 0,
 mV 46 14,
 mV 47 3,
 oP 48 (.call 167 [(.t 45),(.t 46),(.t 11),(.t 47)]),
 mV 14 48])))))
 (.skip))))
 (kL [0,3,11,12,13,14] 0 (.region [
 mV 49 0,
 mV 50 12,
 mV 51 13,
 mV 52 14,
 mV 53 3,
 oP 54 (.call 168 [(.t 49),(.t 50),(.t 51),(.t 52),(.t 11),(.t 53)]),
 mV 13 54])))
 (.skip))))
 (kL [11,13] 0 (.seq (.region [
 oP 55 (lD 11)])
 (kL [13,55] 0 (.block 0 (.seq (.region [
 oP 58 (.bin .eql .num (.t 55) (cI 0)),
 mV 57 58])
 (kL [13,55,57] 0 (.cond (.t 57)
 (.seq (.region [
 mV 59 13,
 mV 8 59,
 oP 9 (.mov (cI 1))])
 (.ret))
 (.seq (.region [
 oP 61 (.bin .eql .num (.t 55) (cI 12)),
 mV 60 61])
 (kL [13,60] 0 (.cond (.t 60)
 (.seq (.region [
 mV 62 13,
 mV 8 62,
 oP 9 (.mov (cI 2))])
 (.ret))
 (.seq (.region [
 mV 56 13,
 mV 8 56,
 oP 9 (.mov (cI 0))])
 (.ret))))))))))))))))))))))))⟩
def n162:NF:=⟨34,[],
 .seq (.region [
 mV 10 1,
 mV 8 10])
 (kL [0,2,8] 0 (.seq (.region [
 mV 11 2,
 oP 12 (.bin .sub .num (.t 11) (cI 1)),
 mV 9 12])
 (kL [0,8,9] 0 (.block 0 (.loop (kL [0,8,9] 0 (.seq (.seq (.region [
 mV 13 8,
 mV 14 9,
 oP 15 (.bin .lss .num (.t 13) (.t 14))])
 (kL [0,8,9,15] 0 (.cond (.t 15)
 (.skip)
 (.exit 0))))
 (kL [0,8,9] 0 (.block 1 (.seq (.draw 0 [
 ⟨0,none,(mV 16 0),[]⟩,
 ⟨1,none,(mV 17 8),[]⟩,
 ⟨2,none,(mV 18 0),[]⟩,
 ⟨3,none,(mV 19 9),[]⟩,
 ⟨4,none,(mV 20 0),[]⟩,
 ⟨5,none,(mV 21 9),[]⟩,
 ⟨6,none,(oP 22 (iA 5 20 21)),[]⟩,
 ⟨7,none,(oP 23 (.load (some 5) (.t 22))),[]⟩,
 ⟨8,none,(mV 24 0),[]⟩,
 ⟨9,none,(mV 25 8),[]⟩,
 ⟨10,none,(oP 26 (iA 5 24 25)),[]⟩,
 ⟨11,none,(oP 27 (.load (some 5) (.t 26))),[]⟩,
 ⟨12,none,(oP 28 (iA 5 16 17)),[]⟩,
 ⟨13,none,(oW (.store 5 (.t 28) (.t 23))),[]⟩,
 ⟨14,none,(oP 29 (iA 5 18 19)),[]⟩,
 ⟨15,none,(oW (.store 5 (.t 29) (.t 27))),[]⟩])
 (kL [0,8,9] 0 (.seq (.region [
 mV 30 8,
 oP 31 (.bin .add .num (.t 30) (cI 1)),
 mV 8 31])
 (kL [0,8,9] 0 (.region [
 mV 32 9,
 oP 33 (.bin .sub .num (.t 32) (cI 1)),
 mV 9 33]))))))))))))))⟩
def n163:NF:=⟨141,[8],
 .seq (.region [
 oP 8 (.mov (cB false))])
 (kL [0,1,2,3] 0 (.seq (.region [
 mV 13 1,
 oP 14 (.bin .add .num (.t 13) (cI 1)),
 mV 9 14])
 (kL [0,1,2,3,9] 0 (.seq (.seq (.region [
 oP 10 (.mov (cI 0))])
 (kL [0,1,2,3,9,10] 0 (.block 0 (.loop (kL [0,1,2,3,9,10] 0 (.seq (.seq (.region [
 mV 15 10,
 oP 16 (.bin .lss .num (.t 15) (cI 5))])
 (kL [0,1,2,3,9,10,16] 0 (.cond (.t 16)
 (.skip)
 (.exit 0))))
 (kL [0,1,2,3,9,10] 0 (.seq (.block 1 (.seq (.block 2 (.loop (kL [0,1,2,3,9,10] 0 (.seq (.seq (.draw 0 [
 ⟨0,none,(mV 19 9),[]⟩,
 ⟨1,none,(mV 20 2),[]⟩,
 ⟨2,none,(oP 21 (.bin .lss .num (.t 19) (.t 20))),[]⟩,
 ⟨3,none,(mV 22 21),[]⟩,
 ⟨4,none,(mG 23 3 22 true),[]⟩,
 ⟨5,none,(mG 24 0 22 true),[]⟩,
 ⟨6,none,(mG 25 9 22 true),[]⟩,
 ⟨7,none,(oG 26 (iA 5 24 25) 22 true),[]⟩,
 ⟨8,none,(oG 27 (.load (some 5) (.t 26)) 22 true),[]⟩,
 ⟨9,none,(mG 28 0 22 true),[]⟩,
 ⟨10,none,(mG 29 9 22 true),[]⟩,
 ⟨11,none,(oG 30 (.bin .sub .num (.t 29) (cI 1)) 22 true),[]⟩,
 ⟨12,none,(oG 31 (iA 5 28 30) 22 true),[]⟩,
 ⟨13,none,(oG 32 (.load (some 5) (.t 31)) 22 true),[]⟩,
 ⟨14,none,(oG 33 (.dyn (.t 23) [(.t 27),(.t 32)]) 22 true),[]⟩,
 ⟨15,none,(oG 34 (.bin .lss .num (.t 33) (cI 0)) 22 true),[]⟩,
 ⟨16,none,(oG 35 (.un .not (.t 34)) 22 true),[]⟩,
 ⟨17,none,(oP 36 (.pick (.t 22) (.t 35) (cB false))),[]⟩])
 (kL [0,1,2,3,9,10,36] 0 (.cond (.t 36)
 (.skip)
 (.exit 2))))
 (kL [0,1,2,3,9,10] 0 (.block 3 (.region [
 mV 37 9,
 oP 38 (.bin .add .num (.t 37) (cI 1)),
 mV 9 38])))))))
 (kL [0,1,2,3,9,10] 0 (.seq (.seq (.region [
 mV 39 9,
 mV 40 2,
 oP 41 (.bin .eql .num (.t 39) (.t 40))])
 (kL [0,1,2,3,9,10,41] 0 (.cond (.t 41)
 (.seq (.region [
 oP 8 (.mov (cB true))])
 (.ret))
 (.skip))))
 (kL [0,1,2,3,9,10] 0 (.seq (.seq (.region [
 mV 42 2,
 mV 43 1,
 oP 44 (.bin .sub .num (.t 42) (.t 43)),
 oP 45 (.bin .lss .num (.t 44) (cI 50))])
 (kL [0,1,2,3,9,10,45] 0 (.cond (.t 45)
 (.seq (.region [
 oP 8 (.mov (cB false))])
 (.ret))
 (.skip))))
 (kL [0,1,2,3,9,10] 0 (.seq (.draw 0 [
 ⟨0,none,(mV 46 0),[]⟩,
 ⟨1,none,(mV 47 9),[]⟩,
 ⟨2,none,(mV 48 0),[]⟩,
 ⟨3,none,(mV 49 9),[]⟩,
 ⟨4,none,(oP 50 (.bin .sub .num (.t 49) (cI 1))),[]⟩,
 ⟨5,none,(mV 51 0),[]⟩,
 ⟨6,none,(mV 52 9),[]⟩,
 ⟨7,none,(oP 53 (.bin .sub .num (.t 52) (cI 1))),[]⟩,
 ⟨8,none,(oP 54 (iA 5 51 53)),[]⟩,
 ⟨9,none,(oP 55 (.load (some 5) (.t 54))),[]⟩,
 ⟨10,none,(mV 56 0),[]⟩,
 ⟨11,none,(mV 57 9),[]⟩,
 ⟨12,none,(oP 58 (iA 5 56 57)),[]⟩,
 ⟨13,none,(oP 59 (.load (some 5) (.t 58))),[]⟩,
 ⟨14,none,(oP 60 (iA 5 46 47)),[]⟩,
 ⟨15,none,(oW (.store 5 (.t 60) (.t 55))),[]⟩,
 ⟨16,none,(oP 61 (iA 5 48 50)),[]⟩,
 ⟨17,none,(oW (.store 5 (.t 61) (.t 59))),[]⟩])
 (kL [0,1,2,3,9,10] 0 (.seq (.seq (.region [
 mV 62 9,
 mV 63 1,
 oP 64 (.bin .sub .num (.t 62) (.t 63)),
 oP 65 (.bin .geq .num (.t 64) (cI 2))])
 (kL [0,1,2,3,9,10,65] 0 (.cond (.t 65)
 (.seq (.region [
 mV 66 9,
 oP 67 (.bin .sub .num (.t 66) (cI 1)),
 mV 11 67])
 (kL [0,1,2,3,9,10,11] 0 (.block 4 (.loop (kL [0,1,2,3,9,10,11] 0 (.seq (.seq (.region [
 mV 68 11,
 oP 69 (.bin .geq .num (.t 68) (cI 1))])
 (kL [0,1,2,3,9,10,11,69] 0 (.cond (.t 69)
 (.skip)
 (.exit 4))))
 (kL [0,1,2,3,9,10,11] 0 (.seq (.block 5 (.seq (.seq (.draw 0 [
 ⟨0,none,(mV 72 3),[]⟩,
 ⟨1,none,(mV 73 0),[]⟩,
 ⟨2,none,(mV 74 11),[]⟩,
 ⟨3,none,(oP 75 (iA 5 73 74)),[]⟩,
 ⟨4,none,(oP 76 (.load (some 5) (.t 75))),[]⟩,
 ⟨5,none,(mV 77 0),[]⟩,
 ⟨6,none,(mV 78 11),[]⟩,
 ⟨7,none,(oP 79 (.bin .sub .num (.t 78) (cI 1))),[]⟩,
 ⟨8,none,(oP 80 (iA 5 77 79)),[]⟩,
 ⟨9,none,(oP 81 (.load (some 5) (.t 80))),[]⟩,
 ⟨10,none,(oP 82 (.dyn (.t 72) [(.t 76),(.t 81)])),[]⟩,
 ⟨11,none,(oP 83 (.bin .lss .num (.t 82) (cI 0))),[]⟩,
 ⟨12,none,(oP 84 (.un .not (.t 83))),[]⟩])
 (kL [0,1,2,3,9,10,11,84] 0 (.cond (.t 84)
 (.exit 4)
 (.skip))))
 (kL [0,1,2,3,9,10,11] 0 (.draw 0 [
 ⟨0,none,(mV 85 0),[]⟩,
 ⟨1,none,(mV 86 11),[]⟩,
 ⟨2,none,(mV 87 0),[]⟩,
 ⟨3,none,(mV 88 11),[]⟩,
 ⟨4,none,(oP 89 (.bin .sub .num (.t 88) (cI 1))),[]⟩,
 ⟨5,none,(mV 90 0),[]⟩,
 ⟨6,none,(mV 91 11),[]⟩,
 ⟨7,none,(oP 92 (.bin .sub .num (.t 91) (cI 1))),[]⟩,
 ⟨8,none,(oP 93 (iA 5 90 92)),[]⟩,
 ⟨9,none,(oP 94 (.load (some 5) (.t 93))),[]⟩,
 ⟨10,none,(mV 95 0),[]⟩,
 ⟨11,none,(mV 96 11),[]⟩,
 ⟨12,none,(oP 97 (iA 5 95 96)),[]⟩,
 ⟨13,none,(oP 98 (.load (some 5) (.t 97))),[]⟩,
 ⟨14,none,(oP 99 (iA 5 85 86)),[]⟩,
 ⟨15,none,(oW (.store 5 (.t 99) (.t 94))),[]⟩,
 ⟨16,none,(oP 100 (iA 5 87 89)),[]⟩,
 ⟨17,none,(oW (.store 5 (.t 100) (.t 98))),[]⟩]))))
 (kL [0,1,2,3,9,10,11] 0 (.region [
 mV 70 11,
 oP 71 (.bin .sub .num (.t 70) (cI 1)),
 mV 11 71]))))))))))
 (.skip))))
 (kL [0,1,2,3,9,10] 0 (.seq (.region [
 mV 101 2,
 mV 102 9,
 oP 103 (.bin .sub .num (.t 101) (.t 102)),
 oP 104 (.bin .geq .num (.t 103) (cI 2))])
 (kL [0,1,2,3,9,10,104] 0 (.cond (.t 104)
 (.seq (.region [
 mV 105 9,
 oP 106 (.bin .add .num (.t 105) (cI 1)),
 mV 12 106])
 (kL [0,1,2,3,9,10,12] 0 (.block 6 (.loop (kL [0,1,2,3,9,10,12] 0 (.seq (.seq (.region [
 mV 107 12,
 mV 108 2,
 oP 109 (.bin .lss .num (.t 107) (.t 108))])
 (kL [0,1,2,3,9,10,12,109] 0 (.cond (.t 109)
 (.skip)
 (.exit 6))))
 (kL [0,1,2,3,9,10,12] 0 (.seq (.block 7 (.seq (.seq (.draw 0 [
 ⟨0,none,(mV 112 3),[]⟩,
 ⟨1,none,(mV 113 0),[]⟩,
 ⟨2,none,(mV 114 12),[]⟩,
 ⟨3,none,(oP 115 (iA 5 113 114)),[]⟩,
 ⟨4,none,(oP 116 (.load (some 5) (.t 115))),[]⟩,
 ⟨5,none,(mV 117 0),[]⟩,
 ⟨6,none,(mV 118 12),[]⟩,
 ⟨7,none,(oP 119 (.bin .sub .num (.t 118) (cI 1))),[]⟩,
 ⟨8,none,(oP 120 (iA 5 117 119)),[]⟩,
 ⟨9,none,(oP 121 (.load (some 5) (.t 120))),[]⟩,
 ⟨10,none,(oP 122 (.dyn (.t 112) [(.t 116),(.t 121)])),[]⟩,
 ⟨11,none,(oP 123 (.bin .lss .num (.t 122) (cI 0))),[]⟩,
 ⟨12,none,(oP 124 (.un .not (.t 123))),[]⟩])
 (kL [0,1,2,3,9,10,12,124] 0 (.cond (.t 124)
 (.exit 6)
 (.skip))))
 (kL [0,1,2,3,9,10,12] 0 (.draw 0 [
 ⟨0,none,(mV 125 0),[]⟩,
 ⟨1,none,(mV 126 12),[]⟩,
 ⟨2,none,(mV 127 0),[]⟩,
 ⟨3,none,(mV 128 12),[]⟩,
 ⟨4,none,(oP 129 (.bin .sub .num (.t 128) (cI 1))),[]⟩,
 ⟨5,none,(mV 130 0),[]⟩,
 ⟨6,none,(mV 131 12),[]⟩,
 ⟨7,none,(oP 132 (.bin .sub .num (.t 131) (cI 1))),[]⟩,
 ⟨8,none,(oP 133 (iA 5 130 132)),[]⟩,
 ⟨9,none,(oP 134 (.load (some 5) (.t 133))),[]⟩,
 ⟨10,none,(mV 135 0),[]⟩,
 ⟨11,none,(mV 136 12),[]⟩,
 ⟨12,none,(oP 137 (iA 5 135 136)),[]⟩,
 ⟨13,none,(oP 138 (.load (some 5) (.t 137))),[]⟩,
 ⟨14,none,(oP 139 (iA 5 125 126)),[]⟩,
 ⟨15,none,(oW (.store 5 (.t 139) (.t 134))),[]⟩,
 ⟨16,none,(oP 140 (iA 5 127 129)),[]⟩,
 ⟨17,none,(oW (.store 5 (.t 140) (.t 138))),[]⟩]))))
 (kL [0,1,2,3,9,10,12] 0 (.region [
 mV 110 12,
 oP 111 (.bin .add .num (.t 110) (cI 1)),
 mV 12 111]))))))))))
 (.skip)))))))))))))))
 (kL [0,1,2,3,9,10] 0 (.region [
 mV 17 10,
 oP 18 (.bin .add .num (.t 17) (cI 1)),
 mV 10 18]))))))))))
 (kL [] 0 (.seq (.region [
 oP 8 (.mov (cB false))])
 (.ret)))))))⟩
def n164:NF:=⟨90,[10],
 .seq (.region [
 oP 10 (.mov (cI 0))])
 (kL [0,1,2,3,4] 0 (.seq (.draw 0 [
 ⟨0,none,(mV 13 0),[]⟩,
 ⟨1,none,(mV 14 1),[]⟩,
 ⟨2,none,(mV 15 0),[]⟩,
 ⟨3,none,(mV 16 3),[]⟩,
 ⟨4,none,(mV 17 0),[]⟩,
 ⟨5,none,(mV 18 3),[]⟩,
 ⟨6,none,(oP 19 (iA 5 17 18)),[]⟩,
 ⟨7,none,(oP 20 (.load (some 5) (.t 19))),[]⟩,
 ⟨8,none,(mV 21 0),[]⟩,
 ⟨9,none,(mV 22 1),[]⟩,
 ⟨10,none,(oP 23 (iA 5 21 22)),[]⟩,
 ⟨11,none,(oP 24 (.load (some 5) (.t 23))),[]⟩,
 ⟨12,none,(oP 25 (iA 5 13 14)),[]⟩,
 ⟨13,none,(oW (.store 5 (.t 25) (.t 20))),[]⟩,
 ⟨14,none,(oP 26 (iA 5 15 16)),[]⟩,
 ⟨15,none,(oW (.store 5 (.t 26) (.t 24))),[]⟩])
 (kL [0,1,2,4] 0 (.seq (.region [
 mV 27 1,
 oP 28 (.bin .add .num (.t 27) (cI 1)),
 mV 29 2,
 oP 30 (.bin .sub .num (.t 29) (cI 1)),
 mV 11 28,
 mV 12 30])
 (kL [0,1,4,11,12] 0 (.seq (.block 0 (.loop (kL [0,1,4,11,12] 0 (.block 1 (.seq (.block 2 (.loop (kL [0,1,4,11,12] 0 (.seq (.seq (.draw 0 [
 ⟨0,none,(mV 31 11),[]⟩,
 ⟨1,none,(mV 32 12),[]⟩,
 ⟨2,none,(oP 33 (.bin .leq .num (.t 31) (.t 32))),[]⟩,
 ⟨3,none,(mV 34 33),[]⟩,
 ⟨4,none,(mG 35 4 34 true),[]⟩,
 ⟨5,none,(mG 36 0 34 true),[]⟩,
 ⟨6,none,(mG 37 1 34 true),[]⟩,
 ⟨7,none,(oG 38 (iA 5 36 37) 34 true),[]⟩,
 ⟨8,none,(oG 39 (.load (some 5) (.t 38)) 34 true),[]⟩,
 ⟨9,none,(mG 40 0 34 true),[]⟩,
 ⟨10,none,(mG 41 11 34 true),[]⟩,
 ⟨11,none,(oG 42 (iA 5 40 41) 34 true),[]⟩,
 ⟨12,none,(oG 43 (.load (some 5) (.t 42)) 34 true),[]⟩,
 ⟨13,none,(oG 44 (.dyn (.t 35) [(.t 39),(.t 43)]) 34 true),[]⟩,
 ⟨14,none,(oG 45 (.bin .lss .num (.t 44) (cI 0)) 34 true),[]⟩,
 ⟨15,none,(oG 46 (.un .not (.t 45)) 34 true),[]⟩,
 ⟨16,none,(oP 47 (.pick (.t 34) (.t 46) (cB false))),[]⟩])
 (kL [0,1,4,11,12,47] 0 (.cond (.t 47)
 (.skip)
 (.exit 2))))
 (kL [0,1,4,11,12] 0 (.block 3 (.region [
 mV 48 11,
 oP 49 (.bin .add .num (.t 48) (cI 1)),
 mV 11 49])))))))
 (kL [0,1,4,11,12] 0 (.seq (.block 4 (.loop (kL [0,1,4,11,12] 0 (.seq (.seq (.draw 0 [
 ⟨0,none,(mV 50 11),[]⟩,
 ⟨1,none,(mV 51 12),[]⟩,
 ⟨2,none,(oP 52 (.bin .leq .num (.t 50) (.t 51))),[]⟩,
 ⟨3,none,(mV 53 52),[]⟩,
 ⟨4,none,(mG 54 4 53 true),[]⟩,
 ⟨5,none,(mG 55 0 53 true),[]⟩,
 ⟨6,none,(mG 56 1 53 true),[]⟩,
 ⟨7,none,(oG 57 (iA 5 55 56) 53 true),[]⟩,
 ⟨8,none,(oG 58 (.load (some 5) (.t 57)) 53 true),[]⟩,
 ⟨9,none,(mG 59 0 53 true),[]⟩,
 ⟨10,none,(mG 60 12 53 true),[]⟩,
 ⟨11,none,(oG 61 (iA 5 59 60) 53 true),[]⟩,
 ⟨12,none,(oG 62 (.load (some 5) (.t 61)) 53 true),[]⟩,
 ⟨13,none,(oG 63 (.dyn (.t 54) [(.t 58),(.t 62)]) 53 true),[]⟩,
 ⟨14,none,(oG 64 (.bin .lss .num (.t 63) (cI 0)) 53 true),[]⟩,
 ⟨15,none,(oP 65 (.pick (.t 53) (.t 64) (cB false))),[]⟩])
 (kL [0,1,4,11,12,65] 0 (.cond (.t 65)
 (.skip)
 (.exit 4))))
 (kL [0,1,4,11,12] 0 (.block 5 (.region [
 mV 66 12,
 oP 67 (.bin .sub .num (.t 66) (cI 1)),
 mV 12 67])))))))
 (kL [0,1,4,11,12] 0 (.seq (.seq (.region [
 mV 68 11,
 mV 69 12,
 oP 70 (.bin .gtr .num (.t 68) (.t 69))])
 (kL [0,1,4,11,12,70] 0 (.cond (.t 70)
 (.exit 0)
 (.skip))))
 (kL [0,1,4,11,12] 0 (.seq (.draw 0 [
 ⟨0,none,(mV 71 0),[]⟩,
 ⟨1,none,(mV 72 11),[]⟩,
 ⟨2,none,(mV 73 0),[]⟩,
 ⟨3,none,(mV 74 12),[]⟩,
 ⟨4,none,(mV 75 0),[]⟩,
 ⟨5,none,(mV 76 12),[]⟩,
 ⟨6,none,(oP 77 (iA 5 75 76)),[]⟩,
 ⟨7,none,(oP 78 (.load (some 5) (.t 77))),[]⟩,
 ⟨8,none,(mV 79 0),[]⟩,
 ⟨9,none,(mV 80 11),[]⟩,
 ⟨10,none,(oP 81 (iA 5 79 80)),[]⟩,
 ⟨11,none,(oP 82 (.load (some 5) (.t 81))),[]⟩,
 ⟨12,none,(oP 83 (iA 5 71 72)),[]⟩,
 ⟨13,none,(oW (.store 5 (.t 83) (.t 78))),[]⟩,
 ⟨14,none,(oP 84 (iA 5 73 74)),[]⟩,
 ⟨15,none,(oW (.store 5 (.t 84) (.t 82))),[]⟩])
 (kL [0,1,4,11,12] 0 (.seq (.region [
 mV 85 11,
 oP 86 (.bin .add .num (.t 85) (cI 1)),
 mV 11 86])
 (kL [0,1,4,11,12] 0 (.region [
 mV 87 12,
 oP 88 (.bin .sub .num (.t 87) (cI 1)),
 mV 12 88])))))))))))))))
 (kL [11] 0 (.seq (.region [
 mV 89 11,
 mV 10 89])
 (.ret)))))))))⟩
def n165:NF:=⟨178,[10,11],
 .seq (.region [
 oP 10 (.mov (cI 0)),
 oP 11 (.mov (cB false))])
 (kL [0,1,2,3,4] 0 (.seq (.draw 0 [
 ⟨0,none,(mV 14 0),[]⟩,
 ⟨1,none,(mV 15 1),[]⟩,
 ⟨2,none,(mV 16 0),[]⟩,
 ⟨3,none,(mV 17 3),[]⟩,
 ⟨4,none,(mV 18 0),[]⟩,
 ⟨5,none,(mV 19 3),[]⟩,
 ⟨6,none,(oP 20 (iA 5 18 19)),[]⟩,
 ⟨7,none,(oP 21 (.load (some 5) (.t 20))),[]⟩,
 ⟨8,none,(mV 22 0),[]⟩,
 ⟨9,none,(mV 23 1),[]⟩,
 ⟨10,none,(oP 24 (iA 5 22 23)),[]⟩,
 ⟨11,none,(oP 25 (.load (some 5) (.t 24))),[]⟩,
 ⟨12,none,(oP 26 (iA 5 14 15)),[]⟩,
 ⟨13,none,(oW (.store 5 (.t 26) (.t 21))),[]⟩,
 ⟨14,none,(oP 27 (iA 5 16 17)),[]⟩,
 ⟨15,none,(oW (.store 5 (.t 27) (.t 25))),[]⟩])
 (kL [0,1,2,4] 0 (.seq (.region [
 mV 28 1,
 oP 29 (.bin .add .num (.t 28) (cI 1)),
 mV 30 2,
 oP 31 (.bin .sub .num (.t 30) (cI 1)),
 mV 12 29,
 mV 13 31])
 (kL [0,1,4,12,13] 0 (.seq (.block 0 (.loop (kL [0,1,4,12,13] 0 (.seq (.seq (.draw 0 [
 ⟨0,none,(mV 32 12),[]⟩,
 ⟨1,none,(mV 33 13),[]⟩,
 ⟨2,none,(oP 34 (.bin .leq .num (.t 32) (.t 33))),[]⟩,
 ⟨3,none,(mV 35 34),[]⟩,
 ⟨4,none,(mG 36 4 35 true),[]⟩,
 ⟨5,none,(mG 37 0 35 true),[]⟩,
 ⟨6,none,(mG 38 12 35 true),[]⟩,
 ⟨7,none,(oG 39 (iA 5 37 38) 35 true),[]⟩,
 ⟨8,none,(oG 40 (.load (some 5) (.t 39)) 35 true),[]⟩,
 ⟨9,none,(mG 41 0 35 true),[]⟩,
 ⟨10,none,(mG 42 1 35 true),[]⟩,
 ⟨11,none,(oG 43 (iA 5 41 42) 35 true),[]⟩,
 ⟨12,none,(oG 44 (.load (some 5) (.t 43)) 35 true),[]⟩,
 ⟨13,none,(oG 45 (.dyn (.t 36) [(.t 40),(.t 44)]) 35 true),[]⟩,
 ⟨14,none,(oG 46 (.bin .lss .num (.t 45) (cI 0)) 35 true),[]⟩,
 ⟨15,none,(oP 47 (.pick (.t 35) (.t 46) (cB false))),[]⟩])
 (kL [0,1,4,12,13,47] 0 (.cond (.t 47)
 (.skip)
 (.exit 0))))
 (kL [0,1,4,12,13] 0 (.block 1 (.region [
 mV 48 12,
 oP 49 (.bin .add .num (.t 48) (cI 1)),
 mV 12 49])))))))
 (kL [0,1,4,12,13] 0 (.seq (.block 2 (.loop (kL [0,1,4,12,13] 0 (.seq (.seq (.draw 0 [
 ⟨0,none,(mV 50 12),[]⟩,
 ⟨1,none,(mV 51 13),[]⟩,
 ⟨2,none,(oP 52 (.bin .leq .num (.t 50) (.t 51))),[]⟩,
 ⟨3,none,(mV 53 52),[]⟩,
 ⟨4,none,(mG 54 4 53 true),[]⟩,
 ⟨5,none,(mG 55 0 53 true),[]⟩,
 ⟨6,none,(mG 56 13 53 true),[]⟩,
 ⟨7,none,(oG 57 (iA 5 55 56) 53 true),[]⟩,
 ⟨8,none,(oG 58 (.load (some 5) (.t 57)) 53 true),[]⟩,
 ⟨9,none,(mG 59 0 53 true),[]⟩,
 ⟨10,none,(mG 60 1 53 true),[]⟩,
 ⟨11,none,(oG 61 (iA 5 59 60) 53 true),[]⟩,
 ⟨12,none,(oG 62 (.load (some 5) (.t 61)) 53 true),[]⟩,
 ⟨13,none,(oG 63 (.dyn (.t 54) [(.t 58),(.t 62)]) 53 true),[]⟩,
 ⟨14,none,(oG 64 (.bin .lss .num (.t 63) (cI 0)) 53 true),[]⟩,
 ⟨15,none,(oG 65 (.un .not (.t 64)) 53 true),[]⟩,
 ⟨16,none,(oP 66 (.pick (.t 53) (.t 65) (cB false))),[]⟩])
 (kL [0,1,4,12,13,66] 0 (.cond (.t 66)
 (.skip)
 (.exit 2))))
 (kL [0,1,4,12,13] 0 (.block 3 (.region [
 mV 67 13,
 oP 68 (.bin .sub .num (.t 67) (cI 1)),
 mV 13 68])))))))
 (kL [0,1,4,12,13] 0 (.seq (.seq (.region [
 mV 69 12,
 mV 70 13,
 oP 71 (.bin .gtr .num (.t 69) (.t 70))])
 (kL [0,1,4,12,13,71] 0 (.cond (.t 71)
 (.seq (.draw 0 [
 ⟨0,none,(mV 72 0),[]⟩,
 ⟨1,none,(mV 73 13),[]⟩,
 ⟨2,none,(mV 74 0),[]⟩,
 ⟨3,none,(mV 75 1),[]⟩,
 ⟨4,none,(mV 76 0),[]⟩,
 ⟨5,none,(mV 77 1),[]⟩,
 ⟨6,none,(oP 78 (iA 5 76 77)),[]⟩,
 ⟨7,none,(oP 79 (.load (some 5) (.t 78))),[]⟩,
 ⟨8,none,(mV 80 0),[]⟩,
 ⟨9,none,(mV 81 13),[]⟩,
 ⟨10,none,(oP 82 (iA 5 80 81)),[]⟩,
 ⟨11,none,(oP 83 (.load (some 5) (.t 82))),[]⟩,
 ⟨12,none,(oP 84 (iA 5 72 73)),[]⟩,
 ⟨13,none,(oW (.store 5 (.t 84) (.t 79))),[]⟩,
 ⟨14,none,(oP 85 (iA 5 74 75)),[]⟩,
 ⟨15,none,(oW (.store 5 (.t 85) (.t 83))),[]⟩])
 (kL [13] 0 (.seq (.region [
 mV 86 13,
 mV 10 86,
 oP 11 (.mov (cB true))])
 (.ret))))
 (.skip))))
 (kL [0,1,4,12,13] 0 (.seq (.draw 0 [
 ⟨0,none,(mV 87 0),[]⟩,
 ⟨1,none,(mV 88 12),[]⟩,
 ⟨2,none,(mV 89 0),[]⟩,
 ⟨3,none,(mV 90 13),[]⟩,
 ⟨4,none,(mV 91 0),[]⟩,
 ⟨5,none,(mV 92 13),[]⟩,
 ⟨6,none,(oP 93 (iA 5 91 92)),[]⟩,
 ⟨7,none,(oP 94 (.load (some 5) (.t 93))),[]⟩,
 ⟨8,none,(mV 95 0),[]⟩,
 ⟨9,none,(mV 96 12),[]⟩,
 ⟨10,none,(oP 97 (iA 5 95 96)),[]⟩,
 ⟨11,none,(oP 98 (.load (some 5) (.t 97))),[]⟩,
 ⟨12,none,(oP 99 (iA 5 87 88)),[]⟩,
 ⟨13,none,(oW (.store 5 (.t 99) (.t 94))),[]⟩,
 ⟨14,none,(oP 100 (iA 5 89 90)),[]⟩,
 ⟨15,none,(oW (.store 5 (.t 100) (.t 98))),[]⟩])
 (kL [0,1,4,12,13] 0 (.seq (.region [
 mV 101 12,
 oP 102 (.bin .add .num (.t 101) (cI 1)),
 mV 12 102])
 (kL [0,1,4,12,13] 0 (.seq (.region [
 mV 103 13,
 oP 104 (.bin .sub .num (.t 103) (cI 1)),
 mV 13 104])
 (kL [0,1,4,12,13] 0 (.seq (.block 4 (.loop (kL [0,1,4,12,13] 0 (.block 5 (.seq (.block 6 (.loop (kL [0,1,4,12,13] 0 (.seq (.seq (.draw 0 [
 ⟨0,none,(mV 105 12),[]⟩,
 ⟨1,none,(mV 106 13),[]⟩,
 ⟨2,none,(oP 107 (.bin .leq .num (.t 105) (.t 106))),[]⟩,
 ⟨3,none,(mV 108 107),[]⟩,
 ⟨4,none,(mG 109 4 108 true),[]⟩,
 ⟨5,none,(mG 110 0 108 true),[]⟩,
 ⟨6,none,(mG 111 12 108 true),[]⟩,
 ⟨7,none,(oG 112 (iA 5 110 111) 108 true),[]⟩,
 ⟨8,none,(oG 113 (.load (some 5) (.t 112)) 108 true),[]⟩,
 ⟨9,none,(mG 114 0 108 true),[]⟩,
 ⟨10,none,(mG 115 1 108 true),[]⟩,
 ⟨11,none,(oG 116 (iA 5 114 115) 108 true),[]⟩,
 ⟨12,none,(oG 117 (.load (some 5) (.t 116)) 108 true),[]⟩,
 ⟨13,none,(oG 118 (.dyn (.t 109) [(.t 113),(.t 117)]) 108 true),[]⟩,
 ⟨14,none,(oG 119 (.bin .lss .num (.t 118) (cI 0)) 108 true),[]⟩,
 ⟨15,none,(oP 120 (.pick (.t 108) (.t 119) (cB false))),[]⟩])
 (kL [0,1,4,12,13,120] 0 (.cond (.t 120)
 (.skip)
 (.exit 6))))
 (kL [0,1,4,12,13] 0 (.block 7 (.region [
 mV 121 12,
 oP 122 (.bin .add .num (.t 121) (cI 1)),
 mV 12 122])))))))
 (kL [0,1,4,12,13] 0 (.seq (.block 8 (.loop (kL [0,1,4,12,13] 0 (.seq (.seq (.draw 0 [
 ⟨0,none,(mV 123 12),[]⟩,
 ⟨1,none,(mV 124 13),[]⟩,
 ⟨2,none,(oP 125 (.bin .leq .num (.t 123) (.t 124))),[]⟩,
 ⟨3,none,(mV 126 125),[]⟩,
 ⟨4,none,(mG 127 4 126 true),[]⟩,
 ⟨5,none,(mG 128 0 126 true),[]⟩,
 ⟨6,none,(mG 129 13 126 true),[]⟩,
 ⟨7,none,(oG 130 (iA 5 128 129) 126 true),[]⟩,
 ⟨8,none,(oG 131 (.load (some 5) (.t 130)) 126 true),[]⟩,
 ⟨9,none,(mG 132 0 126 true),[]⟩,
 ⟨10,none,(mG 133 1 126 true),[]⟩,
 ⟨11,none,(oG 134 (iA 5 132 133) 126 true),[]⟩,
 ⟨12,none,(oG 135 (.load (some 5) (.t 134)) 126 true),[]⟩,
 ⟨13,none,(oG 136 (.dyn (.t 127) [(.t 131),(.t 135)]) 126 true),[]⟩,
 ⟨14,none,(oG 137 (.bin .lss .num (.t 136) (cI 0)) 126 true),[]⟩,
 ⟨15,none,(oG 138 (.un .not (.t 137)) 126 true),[]⟩,
 ⟨16,none,(oP 139 (.pick (.t 126) (.t 138) (cB false))),[]⟩])
 (kL [0,1,4,12,13,139] 0 (.cond (.t 139)
 (.skip)
 (.exit 8))))
 (kL [0,1,4,12,13] 0 (.block 9 (.region [
 mV 140 13,
 oP 141 (.bin .sub .num (.t 140) (cI 1)),
 mV 13 141])))))))
 (kL [0,1,4,12,13] 0 (.seq (.seq (.region [
 mV 142 12,
 mV 143 13,
 oP 144 (.bin .gtr .num (.t 142) (.t 143))])
 (kL [0,1,4,12,13,144] 0 (.cond (.t 144)
 (.exit 4)
 (.skip))))
 (kL [0,1,4,12,13] 0 (.seq (.draw 0 [
 ⟨0,none,(mV 145 0),[]⟩,
 ⟨1,none,(mV 146 12),[]⟩,
 ⟨2,none,(mV 147 0),[]⟩,
 ⟨3,none,(mV 148 13),[]⟩,
 ⟨4,none,(mV 149 0),[]⟩,
 ⟨5,none,(mV 150 13),[]⟩,
 ⟨6,none,(oP 151 (iA 5 149 150)),[]⟩,
 ⟨7,none,(oP 152 (.load (some 5) (.t 151))),[]⟩,
 ⟨8,none,(mV 153 0),[]⟩,
 ⟨9,none,(mV 154 12),[]⟩,
 ⟨10,none,(oP 155 (iA 5 153 154)),[]⟩,
 ⟨11,none,(oP 156 (.load (some 5) (.t 155))),[]⟩,
 ⟨12,none,(oP 157 (iA 5 145 146)),[]⟩,
 ⟨13,none,(oW (.store 5 (.t 157) (.t 152))),[]⟩,
 ⟨14,none,(oP 158 (iA 5 147 148)),[]⟩,
 ⟨15,none,(oW (.store 5 (.t 158) (.t 156))),[]⟩])
 (kL [0,1,4,12,13] 0 (.seq (.region [
 mV 159 12,
 oP 160 (.bin .add .num (.t 159) (cI 1)),
 mV 12 160])
 (kL [0,1,4,12,13] 0 (.region [
 mV 161 13,
 oP 162 (.bin .sub .num (.t 161) (cI 1)),
 mV 13 162])))))))))))))))
 (kL [0,1,13] 0 (.seq (.draw 0 [
 ⟨0,none,(mV 163 0),[]⟩,
 ⟨1,none,(mV 164 13),[]⟩,
 ⟨2,none,(mV 165 0),[]⟩,
 ⟨3,none,(mV 166 1),[]⟩,
 ⟨4,none,(mV 167 0),[]⟩,
 ⟨5,none,(mV 168 1),[]⟩,
 ⟨6,none,(oP 169 (iA 5 167 168)),[]⟩,
 ⟨7,none,(oP 170 (.load (some 5) (.t 169))),[]⟩,
 ⟨8,none,(mV 171 0),[]⟩,
 ⟨9,none,(mV 172 13),[]⟩,
 ⟨10,none,(oP 173 (iA 5 171 172)),[]⟩,
 ⟨11,none,(oP 174 (.load (some 5) (.t 173))),[]⟩,
 ⟨12,none,(oP 175 (iA 5 163 164)),[]⟩,
 ⟨13,none,(oW (.store 5 (.t 175) (.t 170))),[]⟩,
 ⟨14,none,(oP 176 (iA 5 165 166)),[]⟩,
 ⟨15,none,(oW (.store 5 (.t 176) (.t 174))),[]⟩])
 (kL [13] 0 (.seq (.region [
 mV 177 13,
 mV 10 177,
 oP 11 (.mov (cB false))])
 (.ret)))))))))))))))))))))))⟩
def n86:NF:=⟨18,[2],
 .seq (.region [
 oP 2 (.mov (cI 0))])
 (kL [0] 0 (.seq (.region [
 oP 3 (.mov (cI 0))])
 (kL [0,3] 0 (.seq (.seq (.region [
 mV 6 0,
 oP 7 (.len .sl (.t 6)),
 oP 8 (.mov (cI 0))])
 (kL [3,6,7,8] 0 (.block 0 (.loop (kL [3,6,7,8] 0 (.seq (.region [
 oP 9 (.bin .lss .num (.t 8) (.t 7))])
 (kL [3,6,7,8,9] 0 (.seq (.cond (.t 9)
 (.skip)
 (.exit 0))
 (kL [3,6,7,8] 0 (.seq (.block 1 (.seq (.region [
 oP 10 (iA 1 6 8),
 oP 11 (lD 10),
 mV 5 11])
 (kL [3,5,6,7,8] 0 (.seq (.region [
 mV 12 5,
 mV 13 3,
 oP 14 (.bin .neq .num (.t 12) (.t 13))])
 (kL [3,5,6,7,8,14] 0 (.cond (.t 14)
 (.seq (.region [
 mV 15 5,
 mV 2 15])
 (.ret))
 (.skip)))))))
 (kL [3,6,7,8] 0 (.region [
 oP 16 (.bin .add .num (.t 8) (cI 1)),
 mV 8 16]))))))))))))
 (kL [3] 0 (.seq (.region [
 mV 17 3,
 mV 2 17])
 (.ret)))))))⟩
def n208:NF:=⟨63,[],
 .seq (.region [
 oP 6 (.mov (cI 20))])
 (kL [0,1,2,6] 0 (.seq (.region [
 mV 10 6,
 oP 7 (.mov (cI 0)),
 mV 8 10])
 (kL [0,1,2,6,7,8] 0 (.seq (.block 0 (.loop (kL [0,1,2,6,7,8] 0 (.seq (.seq (.region [
 mV 11 8,
 mV 12 1,
 oP 13 (.bin .leq .num (.t 11) (.t 12))])
 (kL [0,1,2,6,7,8,13] 0 (.cond (.t 13)
 (.skip)
 (.exit 0))))
 (kL [0,1,2,6,7,8] 0 (.block 1 (.seq (.region [
 mV 14 0,
 mV 15 7,
 mV 16 8,
 mV 17 2,
 oP 18 (.call 209 [(.t 14),(.t 15),(.t 16),(.t 17)])])
 (kL [0,1,2,6,8] 0 (.seq (.region [
 mV 19 8,
 mV 7 19])
 (kL [0,1,2,6,7,8] 0 (.region [
 mV 20 8,
 mV 21 6,
 oP 22 (.bin .add .num (.t 20) (.t 21)),
 mV 8 22])))))))))))
 (kL [0,1,2,6,7] 0 (.seq (.region [
 mV 23 0,
 mV 24 7,
 mV 25 1,
 mV 26 2,
 oP 27 (.call 209 [(.t 23),(.t 24),(.t 25),(.t 26)])])
 (kL [0,1,2,6] 0 (.block 2 (.loop (kL [0,1,2,6] 0 (.seq (.seq (.region [
 mV 28 6,
 mV 29 1,
 oP 30 (.bin .lss .num (.t 28) (.t 29))])
 (kL [0,1,2,6,30] 0 (.cond (.t 30)
 (.skip)
 (.exit 2))))
 (kL [0,1,2,6] 0 (.block 3 (.seq (.region [
 mV 31 6,
 oP 32 (.bin .mul .num (cI 2) (.t 31)),
 oP 7 (.mov (cI 0)),
 mV 8 32])
 (kL [0,1,2,6,7,8] 0 (.seq (.block 4 (.loop (kL [0,1,2,6,7,8] 0 (.seq (.seq (.region [
 mV 33 8,
 mV 34 1,
 oP 35 (.bin .leq .num (.t 33) (.t 34))])
 (kL [0,1,2,6,7,8,35] 0 (.cond (.t 35)
 (.skip)
 (.exit 4))))
 (kL [0,1,2,6,7,8] 0 (.block 5 (.seq (.region [
 mV 36 0,
 mV 37 7,
 mV 38 7,
 mV 39 6,
 oP 40 (.bin .add .num (.t 38) (.t 39)),
 mV 41 8,
 mV 42 2,
 oP 43 (.call 210 [(.t 36),(.t 37),(.t 40),(.t 41),(.t 42)])])
 (kL [0,1,2,6,8] 0 (.seq (.region [
 mV 44 8,
 mV 7 44])
 (kL [0,1,2,6,7,8] 0 (.region [
 mV 45 8,
 mV 46 6,
 oP 47 (.bin .mul .num (cI 2) (.t 46)),
 oP 48 (.bin .add .num (.t 45) (.t 47)),
 mV 8 48])))))))))))
 (kL [0,1,2,6,7] 0 (.seq (.seq (.region [
 mV 49 7,
 mV 50 6,
 oP 51 (.bin .add .num (.t 49) (.t 50)),
 mV 9 51])
 (kL [0,1,2,6,7,9] 0 (.seq (.region [
 mV 52 9,
 mV 53 1,
 oP 54 (.bin .lss .num (.t 52) (.t 53))])
 (kL [0,1,2,6,7,9,54] 0 (.cond (.t 54)
 (.region [
 mV 55 0,
 mV 56 7,
 mV 57 9,
 mV 58 1,
 mV 59 2,
 oP 60 (.call 210 [(.t 55),(.t 56),(.t 57),(.t 58),(.t 59)])])
 (.skip))))))
 (kL [0,1,2,6] 0 (.region [
 mV 61 6,
 oP 62 (.bin .mul .num (.t 61) (cI 2)),
 mV 6 62]))))))))))))))))))))⟩
def n47:NF:=⟨6,[2],
 .seq (.region [
 oP 2 (.mov (cB false))])
 (kL [0] 0 (.seq (.region [
 mV 3 0,
 mV 4 0,
 oP 5 (.bin .neq .num (.t 3) (.t 4)),
 mV 2 5])
 (.ret)))⟩
def n107:NF:=⟨76,[],
 .seq (.region [
 mV 10 1,
 mV 8 10])
 (kL [0,2,3,8] 0 (.block 0 (.loop (kL [0,2,3,8] 0 (.block 1 (.seq (.region [
 mV 11 8,
 oP 12 (.bin .mul .num (cI 2) (.t 11)),
 oP 13 (.bin .add .num (.t 12) (cI 1)),
 mV 9 13])
 (kL [0,2,3,8,9] 0 (.seq (.seq (.region [
 mV 14 9,
 mV 15 2,
 oP 16 (.bin .geq .num (.t 14) (.t 15))])
 (kL [0,2,3,8,9,16] 0 (.cond (.t 16)
 (.exit 0)
 (.skip))))
 (kL [0,2,3,8,9] 0 (.seq (.seq (.draw 0 [
 ⟨0,none,(mV 17 9),[]⟩,
 ⟨1,none,(oP 18 (.bin .add .num (.t 17) (cI 1))),[]⟩,
 ⟨2,none,(mV 19 2),[]⟩,
 ⟨3,none,(oP 20 (.bin .lss .num (.t 18) (.t 19))),[]⟩,
 ⟨4,none,(mV 21 20),[]⟩,
 ⟨5,none,(mG 22 0 21 true),[]⟩,
 ⟨6,none,(mG 23 3 21 true),[]⟩,
 ⟨7,none,(mG 24 9 21 true),[]⟩,
 ⟨8,none,(oG 25 (.bin .add .num (.t 23) (.t 24)) 21 true),[]⟩,
 ⟨9,none,(oG 26 (iA 1 22 25) 21 true),[]⟩,
 ⟨10,none,(oG 27 (lD 26) 21 true),[]⟩,
 ⟨11,none,(mG 28 0 21 true),[]⟩,
 ⟨12,none,(mG 29 3 21 true),[]⟩,
 ⟨13,none,(mG 30 9 21 true),[]⟩,
 ⟨14,none,(oG 31 (.bin .add .num (.t 29) (.t 30)) 21 true),[]⟩,
 ⟨15,none,(oG 32 (.bin .add .num (.t 31) (cI 1)) 21 true),[]⟩,
 ⟨16,none,(oG 33 (iA 1 28 32) 21 true),[]⟩,
 ⟨17,none,(oG 34 (lD 33) 21 true),[]⟩,
 ⟨18,none,(oG 35 (.call 93 [(.t 27),(.t 34)]) 21 true),[]⟩,
 ⟨19,none,(oP 36 (.pick (.t 21) (.t 35) (cB false))),[]⟩])
 (kL [0,2,3,8,9,36] 0 (.cond (.t 36)
 (.region [
 mV 37 9,
 oP 38 (.bin .add .num (.t 37) (cI 1)),
 mV 9 38])
 (.skip))))
 (kL [0,2,3,8,9] 0 (.seq (.seq (.draw 0 [
 ⟨0,none,(mV 39 0),[]⟩,
 ⟨1,none,(mV 40 3),[]⟩,
 ⟨2,none,(mV 41 8),[]⟩,
 ⟨3,none,(oP 42 (.bin .add .num (.t 40) (.t 41))),[]⟩,
 ⟨4,none,(oP 43 (iA 1 39 42)),[]⟩,
 ⟨5,none,(oP 44 (lD 43)),[]⟩,
 ⟨6,none,(mV 45 0),[]⟩,
 ⟨7,none,(mV 46 3),[]⟩,
 ⟨8,none,(mV 47 9),[]⟩,
 ⟨9,none,(oP 48 (.bin .add .num (.t 46) (.t 47))),[]⟩,
 ⟨10,none,(oP 49 (iA 1 45 48)),[]⟩,
 ⟨11,none,(oP 50 (lD 49)),[]⟩,
 ⟨12,none,(oP 51 (.call 93 [(.t 44),(.t 50)])),[]⟩,
 ⟨13,none,(oP 52 (.un .not (.t 51))),[]⟩])
 (kL [0,2,3,8,9,52] 0 (.cond (.t 52)
 (.ret)
 (.skip))))
 (kL [0,2,3,8,9] 0 (.seq (.draw 0 [
 ⟨0,none,(mV 53 0),[]⟩,
 ⟨1,none,(mV 54 3),[]⟩,
 ⟨2,none,(mV 55 8),[]⟩,
 ⟨3,none,(oP 56 (.bin .add .num (.t 54) (.t 55))),[]⟩,
 ⟨4,none,(mV 57 0),[]⟩,
 ⟨5,none,(mV 58 3),[]⟩,
 ⟨6,none,(mV 59 9),[]⟩,
 ⟨7,none,(oP 60 (.bin .add .num (.t 58) (.t 59))),[]⟩,
 ⟨8,none,(mV 61 0),[]⟩,
 ⟨9,none,(mV 62 3),[]⟩,
 ⟨10,none,(mV 63 9),[]⟩,
 ⟨11,none,(oP 64 (.bin .add .num (.t 62) (.t 63))),[]⟩,
 ⟨12,none,(oP 65 (iA 1 61 64)),[]⟩,
 ⟨13,none,(oP 66 (lD 65)),[]⟩,
 ⟨14,none,(mV 67 0),[]⟩,
 ⟨15,none,(mV 68 3),[]⟩,
 ⟨16,none,(mV 69 8),[]⟩,
 ⟨17,none,(oP 70 (.bin .add .num (.t 68) (.t 69))),[]⟩,
 ⟨18,none,(oP 71 (iA 1 67 70)),[]⟩,
 ⟨19,none,(oP 72 (lD 71)),[]⟩,
 ⟨20,none,(oP 73 (iA 1 53 56)),[]⟩,
 ⟨21,none,(oW (.store 1 (.t 73) (.t 66))),[]⟩,
 ⟨22,none,(oP 74 (iA 1 57 60)),[]⟩,
 ⟨23,none,(oW (.store 1 (.t 74) (.t 72))),[]⟩])
 (kL [0,2,3,9] 0 (.region [
 mV 75 9,
 mV 8 75]))))))))))))))))⟩
def n108:NF:=⟨7,[2],
 .seq (.region [
 oP 2 (.mov (.c (.c (.int .u64 0))))])
 (kL [0] 0 (.seq (.region [
 mV 3 0,
 oP 4 (.conv (.toInt .u64) (.t 3)),
 oP 5 (.call 82 [(.t 4)]),
 oP 6 (.bin .shl .num (.c (.c (.int .u64 1))) (.t 5)),
 mV 2 6])
 (.ret)))⟩
def n109:NF:=⟨33,[2],
 .seq (.region [
 oP 2 (.mov (.c (.c (.int .u64 0))))])
 (kL [0] 0 (.seq (.draw 0 [
 ⟨0,none,(mV 3 0),[]⟩,
 ⟨1,none,(oP 4 (.nilck (.t 3))),[]⟩,
 ⟨2,none,(oP 5 (lD 4)),[]⟩,
 ⟨3,none,(mV 6 0),[]⟩,
 ⟨4,none,(oP 7 (.nilck (.t 6))),[]⟩,
 ⟨5,none,(oP 8 (lD 7)),[]⟩,
 ⟨6,none,(oP 9 (.bin .shl .num (.t 8) (.c (.c (.int .u64 13))))),[]⟩,
 ⟨7,none,(oP 10 (.bin .xor .num (.t 5) (.t 9))),[]⟩,
 ⟨8,none,(oP 11 (.nilck (.t 3))),[]⟩,
 ⟨9,none,(oW (.store 1 (.t 11) (.t 10))),[]⟩])
 (kL [0] 0 (.seq (.draw 0 [
 ⟨0,none,(mV 12 0),[]⟩,
 ⟨1,none,(oP 13 (.nilck (.t 12))),[]⟩,
 ⟨2,none,(oP 14 (lD 13)),[]⟩,
 ⟨3,none,(mV 15 0),[]⟩,
 ⟨4,none,(oP 16 (.nilck (.t 15))),[]⟩,
 ⟨5,none,(oP 17 (lD 16)),[]⟩,
 ⟨6,none,(oP 18 (.bin .shr .num (.t 17) (.c (.c (.int .u64 7))))),[]⟩,
 ⟨7,none,(oP 19 (.bin .xor .num (.t 14) (.t 18))),[]⟩,
 ⟨8,none,(oP 20 (.nilck (.t 12))),[]⟩,
 ⟨9,none,(oW (.store 1 (.t 20) (.t 19))),[]⟩])
 (kL [0] 0 (.seq (.draw 0 [
 ⟨0,none,(mV 21 0),[]⟩,
 ⟨1,none,(oP 22 (.nilck (.t 21))),[]⟩,
 ⟨2,none,(oP 23 (lD 22)),[]⟩,
 ⟨3,none,(mV 24 0),[]⟩,
 ⟨4,none,(oP 25 (.nilck (.t 24))),[]⟩,
 ⟨5,none,(oP 26 (lD 25)),[]⟩,
 ⟨6,none,(oP 27 (.bin .shl .num (.t 26) (.c (.c (.int .u64 17))))),[]⟩,
 ⟨7,none,(oP 28 (.bin .xor .num (.t 23) (.t 27))),[]⟩,
 ⟨8,none,(oP 29 (.nilck (.t 21))),[]⟩,
 ⟨9,none,(oW (.store 1 (.t 29) (.t 28))),[]⟩])
 (kL [0] 0 (.seq (.region [
 mV 30 0,
 oP 31 (.nilck (.t 30)),
 oP 32 (lD 31),
 mV 2 32])
 (.ret)))))))))⟩
def n110:NF:=⟨15,[6],
 .seq (.region [
 oP 6 (.mov (cI 0))])
 (kL [0,1,2] 0 (.seq (.region [
 mV 7 0,
 mV 8 1,
 oP 9 (.bin .sub .num (.t 8) (cI 1)),
 mV 10 1,
 mV 11 1,
 oP 12 (.bin .add .num (.t 11) (cI 1)),
 mV 13 2,
 oP 14 (.call 111 [(.t 7),(.t 9),(.t 10),(.t 12),(.t 13)]),
 mV 6 14])
 (.ret)))⟩
def n111:NF:=⟨36,[10],
 .seq (.region [
 oP 10 (.mov (cI 0))])
 (kL [0,1,2,3,4] 0 (.seq (.region [
 mV 12 0,
 mV 13 1,
 mV 14 2,
 mV 15 4,
 oP 16 (.call 115 [(.t 12),(.t 13),(.t 14),(.t 15)]),
 mV 11 16,
 oP 17 (.ext (.t 11) 0),
 oP 18 (.ext (.t 11) 1),
 mV 1 17,
 mV 2 18])
 (kL [0,1,2,3,4] 0 (.seq (.region [
 mV 20 0,
 mV 21 2,
 mV 22 3,
 mV 23 4,
 oP 24 (.call 115 [(.t 20),(.t 21),(.t 22),(.t 23)]),
 mV 19 24,
 oP 25 (.ext (.t 19) 0),
 oP 26 (.ext (.t 19) 1),
 mV 2 25,
 mV 3 26])
 (kL [0,1,2,4] 0 (.seq (.region [
 mV 28 0,
 mV 29 1,
 mV 30 2,
 mV 31 4,
 oP 32 (.call 115 [(.t 28),(.t 29),(.t 30),(.t 31)]),
 mV 27 32,
 oP 33 (.ext (.t 27) 0),
 oP 34 (.ext (.t 27) 1),
 mV 1 33,
 mV 2 34])
 (kL [2] 0 (.seq (.region [
 mV 35 2,
 mV 10 35])
 (.ret)))))))))⟩
def n166:NF:=⟨82,[],
 .seq (.region [
 mV 12 1,
 mV 10 12])
 (kL [0,2,3,4,10] 0 (.block 0 (.loop (kL [0,2,3,4,10] 0 (.block 1 (.seq (.region [
 mV 13 10,
 oP 14 (.bin .mul .num (cI 2) (.t 13)),
 oP 15 (.bin .add .num (.t 14) (cI 1)),
 mV 11 15])
 (kL [0,2,3,4,10,11] 0 (.seq (.seq (.region [
 mV 16 11,
 mV 17 2,
 oP 18 (.bin .geq .num (.t 16) (.t 17))])
 (kL [0,2,3,4,10,11,18] 0 (.cond (.t 18)
 (.exit 0)
 (.skip))))
 (kL [0,2,3,4,10,11] 0 (.seq (.seq (.draw 0 [
 ⟨0,none,(mV 19 11),[]⟩,
 ⟨1,none,(oP 20 (.bin .add .num (.t 19) (cI 1))),[]⟩,
 ⟨2,none,(mV 21 2),[]⟩,
 ⟨3,none,(oP 22 (.bin .lss .num (.t 20) (.t 21))),[]⟩,
 ⟨4,none,(mV 23 22),[]⟩,
 ⟨5,none,(mG 24 4 23 true),[]⟩,
 ⟨6,none,(mG 25 0 23 true),[]⟩,
 ⟨7,none,(mG 26 3 23 true),[]⟩,
 ⟨8,none,(mG 27 11 23 true),[]⟩,
 ⟨9,none,(oG 28 (.bin .add .num (.t 26) (.t 27)) 23 true),[]⟩,
 ⟨10,none,(oG 29 (iA 5 25 28) 23 true),[]⟩,
 ⟨11,none,(oG 30 (.load (some 5) (.t 29)) 23 true),[]⟩,
 ⟨12,none,(mG 31 0 23 true),[]⟩,
 ⟨13,none,(mG 32 3 23 true),[]⟩,
 ⟨14,none,(mG 33 11 23 true),[]⟩,
 ⟨15,none,(oG 34 (.bin .add .num (.t 32) (.t 33)) 23 true),[]⟩,
 ⟨16,none,(oG 35 (.bin .add .num (.t 34) (cI 1)) 23 true),[]⟩,
 ⟨17,none,(oG 36 (iA 5 31 35) 23 true),[]⟩,
 ⟨18,none,(oG 37 (.load (some 5) (.t 36)) 23 true),[]⟩,
 ⟨19,none,(oG 38 (.dyn (.t 24) [(.t 30),(.t 37)]) 23 true),[]⟩,
 ⟨20,none,(oG 39 (.bin .lss .num (.t 38) (cI 0)) 23 true),[]⟩,
 ⟨21,none,(oP 40 (.pick (.t 23) (.t 39) (cB false))),[]⟩])
 (kL [0,2,3,4,10,11,40] 0 (.cond (.t 40)
 (.region [
 mV 41 11,
 oP 42 (.bin .add .num (.t 41) (cI 1)),
 mV 11 42])
 (.skip))))
 (kL [0,2,3,4,10,11] 0 (.seq (.seq (.draw 0 [
 ⟨0,none,(mV 43 4),[]⟩,
 ⟨1,none,(mV 44 0),[]⟩,
 ⟨2,none,(mV 45 3),[]⟩,
 ⟨3,none,(mV 46 10),[]⟩,
 ⟨4,none,(oP 47 (.bin .add .num (.t 45) (.t 46))),[]⟩,
 ⟨5,none,(oP 48 (iA 5 44 47)),[]⟩,
 ⟨6,none,(oP 49 (.load (some 5) (.t 48))),[]⟩,
 ⟨7,none,(mV 50 0),[]⟩,
 ⟨8,none,(mV 51 3),[]⟩,
 ⟨9,none,(mV 52 11),[]⟩,
 ⟨10,none,(oP 53 (.bin .add .num (.t 51) (.t 52))),[]⟩,
 ⟨11,none,(oP 54 (iA 5 50 53)),[]⟩,
 ⟨12,none,(oP 55 (.load (some 5) (.t 54))),[]⟩,
 ⟨13,none,(oP 56 (.dyn (.t 43) [(.t 49),(.t 55)])),[]⟩,
 ⟨14,none,(oP 57 (.bin .lss .num (.t 56) (cI 0))),[]⟩,
 ⟨15,none,(oP 58 (.un .not (.t 57))),[]⟩])
 (kL [0,2,3,4,10,11,58] 0 (.cond (.t 58)
 (.ret)
 (.skip))))
 (kL [0,2,3,4,10,11] 0 (.seq (.draw 0 [
 ⟨0,none,(mV 59 0),[]⟩,
 ⟨1,none,(mV 60 3),[]⟩,
 ⟨2,none,(mV 61 10),[]⟩,
 ⟨3,none,(oP 62 (.bin .add .num (.t 60) (.t 61))),[]⟩,
 ⟨4,none,(mV 63 0),[]⟩,
 ⟨5,none,(mV 64 3),[]⟩,
 ⟨6,none,(mV 65 11),[]⟩,
 ⟨7,none,(oP 66 (.bin .add .num (.t 64) (.t 65))),[]⟩,
 ⟨8,none,(mV 67 0),[]⟩,
 ⟨9,none,(mV 68 3),[]⟩,
 ⟨10,none,(mV 69 11),[]⟩,
 ⟨11,none,(oP 70 (.bin .add .num (.t 68) (.t 69))),[]⟩,
 ⟨12,none,(oP 71 (iA 5 67 70)),[]⟩,
 ⟨13,none,(oP 72 (.load (some 5) (.t 71))),[]⟩,
 ⟨14,none,(mV 73 0),[]⟩,
 ⟨15,none,(mV 74 3),[]⟩,
 ⟨16,none,(mV 75 10),[]⟩,
 ⟨17,none,(oP 76 (.bin .add .num (.t 74) (.t 75))),[]⟩,
 ⟨18,none,(oP 77 (iA 5 73 76)),[]⟩,
 ⟨19,none,(oP 78 (.load (some 5) (.t 77))),[]⟩,
 ⟨20,none,(oP 79 (iA 5 59 62)),[]⟩,
 ⟨21,none,(oW (.store 5 (.t 79) (.t 72))),[]⟩,
 ⟨22,none,(oP 80 (iA 5 63 66)),[]⟩,
 ⟨23,none,(oW (.store 5 (.t 80) (.t 78))),[]⟩])
 (kL [0,2,3,4,11] 0 (.region [
 mV 81 11,
 mV 10 81]))))))))))))))))⟩
def n167:NF:=⟨18,[8],
 .seq (.region [
 oP 8 (.mov (cI 0))])
 (kL [0,1,2,3] 0 (.seq (.region [
 mV 9 0,
 mV 10 1,
 oP 11 (.bin .sub .num (.t 10) (cI 1)),
 mV 12 1,
 mV 13 1,
 oP 14 (.bin .add .num (.t 13) (cI 1)),
 mV 15 2,
 mV 16 3,
 oP 17 (.call 168 [(.t 9),(.t 11),(.t 12),(.t 14),(.t 15),(.t 16)]),
 mV 8 17])
 (.ret)))⟩
def n168:NF:=⟨41,[12],
 .seq (.region [
 oP 12 (.mov (cI 0))])
 (kL [0,1,2,3,4,5] 0 (.seq (.region [
 mV 14 0,
 mV 15 1,
 mV 16 2,
 mV 17 4,
 mV 18 5,
 oP 19 (.call 169 [(.t 14),(.t 15),(.t 16),(.t 17),(.t 18)]),
 mV 13 19,
 oP 20 (.ext (.t 13) 0),
 oP 21 (.ext (.t 13) 1),
 mV 1 20,
 mV 2 21])
 (kL [0,1,2,3,4,5] 0 (.seq (.region [
 mV 23 0,
 mV 24 2,
 mV 25 3,
 mV 26 4,
 mV 27 5,
 oP 28 (.call 169 [(.t 23),(.t 24),(.t 25),(.t 26),(.t 27)]),
 mV 22 28,
 oP 29 (.ext (.t 22) 0),
 oP 30 (.ext (.t 22) 1),
 mV 2 29,
 mV 3 30])
 (kL [0,1,2,4,5] 0 (.seq (.region [
 mV 32 0,
 mV 33 1,
 mV 34 2,
 mV 35 4,
 mV 36 5,
 oP 37 (.call 169 [(.t 32),(.t 33),(.t 34),(.t 35),(.t 36)]),
 mV 31 37,
 oP 38 (.ext (.t 31) 0),
 oP 39 (.ext (.t 31) 1),
 mV 1 38,
 mV 2 39])
 (kL [2] 0 (.seq (.region [
 mV 40 2,
 mV 12 40])
 (.ret)))))))))⟩
def n209:NF:=⟨53,[],
 .seq (.region [
 mV 10 1,
 oP 11 (.bin .add .num (.t 10) (cI 1)),
 mV 8 11])
 (kL [0,1,2,3,8] 0 (.block 0 (.loop (kL [0,1,2,3,8] 0 (.seq (.seq (.region [
 mV 12 8,
 mV 13 2,
 oP 14 (.bin .lss .num (.t 12) (.t 13))])
 (kL [0,1,2,3,8,14] 0 (.cond (.t 14)
 (.skip)
 (.exit 0))))
 (kL [0,1,2,3,8] 0 (.seq (.block 1 (.seq (.region [
 mV 17 8,
 mV 9 17])
 (kL [0,1,2,3,8,9] 0 (.block 2 (.loop (kL [0,1,2,3,8,9] 0 (.seq (.seq (.draw 0 [
 ⟨0,none,(mV 18 9),[]⟩,
 ⟨1,none,(mV 19 1),[]⟩,
 ⟨2,none,(oP 20 (.bin .gtr .num (.t 18) (.t 19))),[]⟩,
 ⟨3,none,(mV 21 20),[]⟩,
 ⟨4,none,(mG 22 3 21 true),[]⟩,
 ⟨5,none,(mG 23 0 21 true),[]⟩,
 ⟨6,none,(mG 24 9 21 true),[]⟩,
 ⟨7,none,(oG 25 (iA 1 23 24) 21 true),[]⟩,
 ⟨8,none,(oG 26 (lD 25) 21 true),[]⟩,
 ⟨9,none,(mG 27 0 21 true),[]⟩,
 ⟨10,none,(mG 28 9 21 true),[]⟩,
 ⟨11,none,(oG 29 (.bin .sub .num (.t 28) (cI 1)) 21 true),[]⟩,
 ⟨12,none,(oG 30 (iA 1 27 29) 21 true),[]⟩,
 ⟨13,none,(oG 31 (lD 30) 21 true),[]⟩,
 ⟨14,none,(oG 32 (.dyn (.t 22) [(.t 26),(.t 31)]) 21 true),[]⟩,
 ⟨15,none,(oG 33 (.bin .lss .num (.t 32) (cI 0)) 21 true),[]⟩,
 ⟨16,none,(oP 34 (.pick (.t 21) (.t 33) (cB false))),[]⟩])
 (kL [0,1,2,3,8,9,34] 0 (.cond (.t 34)
 (.skip)
 (.exit 2))))
 (kL [0,1,2,3,8,9] 0 (.seq (.block 3 (.draw 0 [
 ⟨0,none,(mV 37 0),[]⟩,
 ⟨1,none,(mV 38 9),[]⟩,
 ⟨2,none,(mV 39 0),[]⟩,
 ⟨3,none,(mV 40 9),[]⟩,
 ⟨4,none,(oP 41 (.bin .sub .num (.t 40) (cI 1))),[]⟩,
 ⟨5,none,(mV 42 0),[]⟩,
 ⟨6,none,(mV 43 9),[]⟩,
 ⟨7,none,(oP 44 (.bin .sub .num (.t 43) (cI 1))),[]⟩,
 ⟨8,none,(oP 45 (iA 1 42 44)),[]⟩,
 ⟨9,none,(oP 46 (lD 45)),[]⟩,
 ⟨10,none,(mV 47 0),[]⟩,
 ⟨11,none,(mV 48 9),[]⟩,
 ⟨12,none,(oP 49 (iA 1 47 48)),[]⟩,
 ⟨13,none,(oP 50 (lD 49)),[]⟩,
 ⟨14,none,(oP 51 (iA 1 37 38)),[]⟩,
 ⟨15,none,(oW (.store 1 (.t 51) (.t 46))),[]⟩,
 ⟨16,none,(oP 52 (iA 1 39 41)),[]⟩,
 ⟨17,none,(oW (.store 1 (.t 52) (.t 50))),[]⟩]))
 (kL [0,1,2,3,8,9] 0 (.region [
 mV 35 9,
 oP 36 (.bin .sub .num (.t 35) (cI 1)),
 mV 9 36])))))))))))
 (kL [0,1,2,3,8] 0 (.region [
 mV 15 8,
 oP 16 (.bin .add .num (.t 15) (cI 1)),
 mV 8 16])))))))))⟩
def n210:NF:=⟨220,[],
 .seq (.seq (.region [
 mV 25 2,
 mV 26 1,
 oP 27 (.bin .sub .num (.t 25) (.t 26)),
 oP 28 (.bin .eql .num (.t 27) (cI 1))])
 (kL [0,1,2,3,4,28] 0 (.cond (.t 28)
 (.seq (.region [
 mV 29 2,
 mV 10 29])
 (kL [0,1,3,4,10] 0 (.seq (.region [
 mV 30 3,
 mV 11 30])
 (kL [0,1,4,10,11] 0 (.seq (.block 0 (.loop (kL [0,1,4,10,11] 0 (.seq (.seq (.region [
 mV 31 10,
 mV 32 11,
 oP 33 (.bin .lss .num (.t 31) (.t 32))])
 (kL [0,1,4,10,11,33] 0 (.cond (.t 33)
 (.skip)
 (.exit 0))))
 (kL [0,1,4,10,11] 0 (.block 1 (.seq (.region [
 mV 34 10,
 mV 35 11,
 oP 36 (.bin .add .num (.t 34) (.t 35)),
 oP 37 (.conv (.toInt .u64) (.t 36)),
 oP 38 (.bin .shr .num (.t 37) (.c (.c (.int .u64 1)))),
 oP 39 (.conv (.toInt .i64) (.t 38)),
 mV 12 39])
 (kL [0,1,4,10,11,12] 0 (.seq (.draw 0 [
 ⟨0,none,(mV 40 4),[]⟩,
 ⟨1,none,(mV 41 0),[]⟩,
 ⟨2,none,(mV 42 12),[]⟩,
 ⟨3,none,(oP 43 (iA 1 41 42)),[]⟩,
 ⟨4,none,(oP 44 (lD 43)),[]⟩,
 ⟨5,none,(mV 45 0),[]⟩,
 ⟨6,none,(mV 46 1),[]⟩,
 ⟨7,none,(oP 47 (iA 1 45 46)),[]⟩,
 ⟨8,none,(oP 48 (lD 47)),[]⟩,
 ⟨9,none,(oP 49 (.dyn (.t 40) [(.t 44),(.t 48)])),[]⟩,
 ⟨10,none,(oP 50 (.bin .lss .num (.t 49) (cI 0))),[]⟩])
 (kL [0,1,4,10,11,12,50] 0 (.cond (.t 50)
 (.region [
 mV 51 12,
 oP 52 (.bin .add .num (.t 51) (cI 1)),
 mV 10 52])
 (.region [
 mV 53 12,
 mV 11 53]))))))))))))
 (kL [0,1,10] 0 (.seq (.seq (.region [
 mV 54 1,
 mV 13 54])
 (kL [0,10,13] 0 (.block 2 (.loop (kL [0,10,13] 0 (.seq (.seq (.region [
 mV 55 13,
 mV 56 10,
 oP 57 (.bin .sub .num (.t 56) (cI 1)),
 oP 58 (.bin .lss .num (.t 55) (.t 57))])
 (kL [0,10,13,58] 0 (.cond (.t 58)
 (.skip)
 (.exit 2))))
 (kL [0,10,13] 0 (.seq (.block 3 (.draw 0 [
 ⟨0,none,(mV 61 0),[]⟩,
 ⟨1,none,(mV 62 13),[]⟩,
 ⟨2,none,(mV 63 0),[]⟩,
 ⟨3,none,(mV 64 13),[]⟩,
 ⟨4,none,(oP 65 (.bin .add .num (.t 64) (cI 1))),[]⟩,
 ⟨5,none,(mV 66 0),[]⟩,
 ⟨6,none,(mV 67 13),[]⟩,
 ⟨7,none,(oP 68 (.bin .add .num (.t 67) (cI 1))),[]⟩,
 ⟨8,none,(oP 69 (iA 1 66 68)),[]⟩,
 ⟨9,none,(oP 70 (lD 69)),[]⟩,
 ⟨10,none,(mV 71 0),[]⟩,
 ⟨11,none,(mV 72 13),[]⟩,
 ⟨12,none,(oP 73 (iA 1 71 72)),[]⟩,
 ⟨13,none,(oP 74 (lD 73)),[]⟩,
 ⟨14,none,(oP 75 (iA 1 61 62)),[]⟩,
 ⟨15,none,(oW (.store 1 (.t 75) (.t 70))),[]⟩,
 ⟨16,none,(oP 76 (iA 1 63 65)),[]⟩,
 ⟨17,none,(oW (.store 1 (.t 76) (.t 74))),[]⟩]))
 (kL [0,10,13] 0 (.region [
 mV 59 13,
 oP 60 (.bin .add .num (.t 59) (cI 1)),
 mV 13 60]))))))))))
 (.ret))))))))
 (.skip))))
 (kL [0,1,2,3,4] 0 (.seq (.seq (.region [
 mV 77 3,
 mV 78 2,
 oP 79 (.bin .sub .num (.t 77) (.t 78)),
 oP 80 (.bin .eql .num (.t 79) (cI 1))])
 (kL [0,1,2,3,4,80] 0 (.cond (.t 80)
 (.seq (.region [
 mV 81 1,
 mV 14 81])
 (kL [0,2,4,14] 0 (.seq (.region [
 mV 82 2,
 mV 15 82])
 (kL [0,2,4,14,15] 0 (.seq (.block 4 (.loop (kL [0,2,4,14,15] 0 (.seq (.seq (.region [
 mV 83 14,
 mV 84 15,
 oP 85 (.bin .lss .num (.t 83) (.t 84))])
 (kL [0,2,4,14,15,85] 0 (.cond (.t 85)
 (.skip)
 (.exit 4))))
 (kL [0,2,4,14,15] 0 (.block 5 (.seq (.region [
 mV 86 14,
 mV 87 15,
 oP 88 (.bin .add .num (.t 86) (.t 87)),
 oP 89 (.conv (.toInt .u64) (.t 88)),
 oP 90 (.bin .shr .num (.t 89) (.c (.c (.int .u64 1)))),
 oP 91 (.conv (.toInt .i64) (.t 90)),
 mV 16 91])
 (kL [0,2,4,14,15,16] 0 (.seq (.draw 0 [
 ⟨0,none,(mV 92 4),[]⟩,
 ⟨1,none,(mV 93 0),[]⟩,
 ⟨2,none,(mV 94 2),[]⟩,
 ⟨3,none,(oP 95 (iA 1 93 94)),[]⟩,
 ⟨4,none,(oP 96 (lD 95)),[]⟩,
 ⟨5,none,(mV 97 0),[]⟩,
 ⟨6,none,(mV 98 16),[]⟩,
 ⟨7,none,(oP 99 (iA 1 97 98)),[]⟩,
 ⟨8,none,(oP 100 (lD 99)),[]⟩,
 ⟨9,none,(oP 101 (.dyn (.t 92) [(.t 96),(.t 100)])),[]⟩,
 ⟨10,none,(oP 102 (.bin .lss .num (.t 101) (cI 0))),[]⟩,
 ⟨11,none,(oP 103 (.un .not (.t 102))),[]⟩])
 (kL [0,2,4,14,15,16,103] 0 (.cond (.t 103)
 (.region [
 mV 104 16,
 oP 105 (.bin .add .num (.t 104) (cI 1)),
 mV 14 105])
 (.region [
 mV 106 16,
 mV 15 106]))))))))))))
 (kL [0,2,14] 0 (.seq (.seq (.region [
 mV 107 2,
 mV 17 107])
 (kL [0,14,17] 0 (.block 6 (.loop (kL [0,14,17] 0 (.seq (.seq (.region [
 mV 108 17,
 mV 109 14,
 oP 110 (.bin .gtr .num (.t 108) (.t 109))])
 (kL [0,14,17,110] 0 (.cond (.t 110)
 (.skip)
 (.exit 6))))
 (kL [0,14,17] 0 (.seq (.block 7 (.draw 0 [
 ⟨0,none,(mV 113 0),[]⟩,
 ⟨1,none,(mV 114 17),[]⟩,
 ⟨2,none,(mV 115 0),[]⟩,
 ⟨3,none,(mV 116 17),[]⟩,
 ⟨4,none,(oP 117 (.bin .sub .num (.t 116) (cI 1))),[]⟩,
 ⟨5,none,(mV 118 0),[]⟩,
 ⟨6,none,(mV 119 17),[]⟩,
 ⟨7,none,(oP 120 (.bin .sub .num (.t 119) (cI 1))),[]⟩,
 ⟨8,none,(oP 121 (iA 1 118 120)),[]⟩,
 ⟨9,none,(oP 122 (lD 121)),[]⟩,
 ⟨10,none,(mV 123 0),[]⟩,
 ⟨11,none,(mV 124 17),[]⟩,
 ⟨12,none,(oP 125 (iA 1 123 124)),[]⟩,
 ⟨13,none,(oP 126 (lD 125)),[]⟩,
 ⟨14,none,(oP 127 (iA 1 113 114)),[]⟩,
 ⟨15,none,(oW (.store 1 (.t 127) (.t 122))),[]⟩,
 ⟨16,none,(oP 128 (iA 1 115 117)),[]⟩,
 ⟨17,none,(oW (.store 1 (.t 128) (.t 126))),[]⟩]))
 (kL [0,14,17] 0 (.region [
 mV 111 17,
 oP 112 (.bin .sub .num (.t 111) (cI 1)),
 mV 17 112]))))))))))
 (.ret))))))))
 (.skip))))
 (kL [0,1,2,3,4] 0 (.seq (.region [
 mV 129 1,
 mV 130 3,
 oP 131 (.bin .add .num (.t 129) (.t 130)),
 oP 132 (.conv (.toInt .u64) (.t 131)),
 oP 133 (.bin .shr .num (.t 132) (.c (.c (.int .u64 1)))),
 oP 134 (.conv (.toInt .i64) (.t 133)),
 mV 18 134])
 (kL [0,1,2,3,4,18] 0 (.seq (.region [
 mV 135 18,
 mV 136 2,
 oP 137 (.bin .add .num (.t 135) (.t 136)),
 mV 19 137])
 (kL [0,1,2,3,4,18,19] 0 (.seq (.region [
 oP 20 (.mov (cI 0)),
 oP 21 (.mov (cI 0))])
 (kL [0,1,2,3,4,18,19] 0 (.seq (.seq (.region [
 mV 138 2,
 mV 139 18,
 oP 140 (.bin .gtr .num (.t 138) (.t 139))])
 (kL [0,1,2,3,4,18,19,140] 0 (.cond (.t 140)
 (.seq (.region [
 mV 141 19,
 mV 142 3,
 oP 143 (.bin .sub .num (.t 141) (.t 142)),
 mV 20 143])
 (kL [0,1,2,3,4,18,19,20] 0 (.region [
 mV 144 18,
 mV 21 144])))
 (.seq (.region [
 mV 145 1,
 mV 20 145])
 (kL [0,1,2,3,4,18,19,20] 0 (.region [
 mV 146 2,
 mV 21 146]))))))
 (kL [0,1,2,3,4,18,19,20,21] 0 (.seq (.region [
 mV 147 19,
 oP 148 (.bin .sub .num (.t 147) (cI 1)),
 mV 22 148])
 (kL [0,1,2,3,4,18,19,20,21,22] 0 (.seq (.block 8 (.loop (kL [0,1,2,3,4,18,19,20,21,22] 0 (.seq (.seq (.region [
 mV 149 20,
 mV 150 21,
 oP 151 (.bin .lss .num (.t 149) (.t 150))])
 (kL [0,1,2,3,4,18,19,20,21,22,151] 0 (.cond (.t 151)
 (.skip)
 (.exit 8))))
 (kL [0,1,2,3,4,18,19,20,21,22] 0 (.block 9 (.seq (.region [
 mV 152 20,
 mV 153 21,
 oP 154 (.bin .add .num (.t 152) (.t 153)),
 oP 155 (.conv (.toInt .u64) (.t 154)),
 oP 156 (.bin .shr .num (.t 155) (.c (.c (.int .u64 1)))),
 oP 157 (.conv (.toInt .i64) (.t 156)),
 mV 23 157])
 (kL [0,1,2,3,4,18,19,20,21,22,23] 0 (.seq (.draw 0 [
 ⟨0,none,(mV 158 4),[]⟩,
 ⟨1,none,(mV 159 0),[]⟩,
 ⟨2,none,(mV 160 22),[]⟩,
 ⟨3,none,(mV 161 23),[]⟩,
 ⟨4,none,(oP 162 (.bin .sub .num (.t 160) (.t 161))),[]⟩,
 ⟨5,none,(oP 163 (iA 1 159 162)),[]⟩,
 ⟨6,none,(oP 164 (lD 163)),[]⟩,
 ⟨7,none,(mV 165 0),[]⟩,
 ⟨8,none,(mV 166 23),[]⟩,
 ⟨9,none,(oP 167 (iA 1 165 166)),[]⟩,
 ⟨10,none,(oP 168 (lD 167)),[]⟩,
 ⟨11,none,(oP 169 (.dyn (.t 158) [(.t 164),(.t 168)])),[]⟩,
 ⟨12,none,(oP 170 (.bin .lss .num (.t 169) (cI 0))),[]⟩,
 ⟨13,none,(oP 171 (.un .not (.t 170))),[]⟩])
 (kL [0,1,2,3,4,18,19,20,21,22,23,171] 0 (.cond (.t 171)
 (.region [
 mV 172 23,
 oP 173 (.bin .add .num (.t 172) (cI 1)),
 mV 20 173])
 (.region [
 mV 174 23,
 mV 21 174]))))))))))))
 (kL [0,1,2,3,4,18,19,20] 0 (.seq (.region [
 mV 175 19,
 mV 176 20,
 oP 177 (.bin .sub .num (.t 175) (.t 176)),
 mV 24 177])
 (kL [0,1,2,3,4,18,20,24] 0 (.seq (.seq (.region [
 mV 178 20,
 mV 179 2,
 oP 180 (.bin .lss .num (.t 178) (.t 179)),
 mV 181 180,
 mG 182 2 181 true,
 mG 183 24 181 true,
 oG 184 (.bin .lss .num (.t 182) (.t 183)) 181 true,
 oP 185 (.pick (.t 181) (.t 184) (cB false))])
 (kL [0,1,2,3,4,18,20,24,185] 0 (.cond (.t 185)
 (.region [
 mV 186 0,
 mV 187 20,
 mV 188 2,
 mV 189 24,
 mV 190 4,
 oP 191 (.call 211 [(.t 186),(.t 187),(.t 188),(.t 189),(.t 190)])])
 (.skip))))
 (kL [0,1,3,4,18,20,24] 0 (.seq (.seq (.region [
 mV 192 1,
 mV 193 20,
 oP 194 (.bin .lss .num (.t 192) (.t 193)),
 mV 195 194,
 mG 196 20 195 true,
 mG 197 18 195 true,
 oG 198 (.bin .lss .num (.t 196) (.t 197)) 195 true,
 oP 199 (.pick (.t 195) (.t 198) (cB false))])
 (kL [0,1,3,4,18,20,24,199] 0 (.cond (.t 199)
 (.region [
 mV 200 0,
 mV 201 1,
 mV 202 20,
 mV 203 18,
 mV 204 4,
 oP 205 (.call 210 [(.t 200),(.t 201),(.t 202),(.t 203),(.t 204)])])
 (.skip))))
 (kL [0,3,4,18,24] 0 (.seq (.region [
 mV 206 18,
 mV 207 24,
 oP 208 (.bin .lss .num (.t 206) (.t 207)),
 mV 209 208,
 mG 210 24 209 true,
 mG 211 3 209 true,
 oG 212 (.bin .lss .num (.t 210) (.t 211)) 209 true,
 oP 213 (.pick (.t 209) (.t 212) (cB false))])
 (kL [0,3,4,18,24,213] 0 (.cond (.t 213)
 (.region [
 mV 214 0,
 mV 215 18,
 mV 216 24,
 mV 217 3,
 mV 218 4,
 oP 219 (.call 210 [(.t 214),(.t 215),(.t 216),(.t 217),(.t 218)])])
 (.skip)))))))))))))))))))))))))⟩
def n115:NF:=⟨28,[8,9],
 .seq (.region [
 oP 8 (.mov (cI 0)),
 oP 9 (.mov (cI 0))])
 (kL [0,1,2,3] 0 (.seq (.seq (.draw 0 [
 ⟨0,none,(mV 10 0),[]⟩,
 ⟨1,none,(mV 11 2),[]⟩,
 ⟨2,none,(oP 12 (iA 1 10 11)),[]⟩,
 ⟨3,none,(oP 13 (lD 12)),[]⟩,
 ⟨4,none,(mV 14 0),[]⟩,
 ⟨5,none,(mV 15 1),[]⟩,
 ⟨6,none,(oP 16 (iA 1 14 15)),[]⟩,
 ⟨7,none,(oP 17 (lD 16)),[]⟩,
 ⟨8,none,(oP 18 (.call 93 [(.t 13),(.t 17)])),[]⟩])
 (kL [1,2,3,18] 0 (.cond (.t 18)
 (.seq (.region [
 mV 19 3,
 oP 20 (.nilck (.t 19)),
 oP 21 (lD 20),
 oP 22 (.bin .add .num (.t 21) (cI 1)),
 oP 23 (.nilck (.t 19)),
 oW (.store 1 (.t 23) (.t 22))])
 (kL [1,2] 0 (.seq (.region [
 mV 24 2,
 mV 25 1,
 mV 8 24,
 mV 9 25])
 (.ret))))
 (.skip))))
 (kL [1,2] 0 (.seq (.region [
 mV 26 1,
 mV 27 2,
 mV 8 26,
 mV 9 27])
 (.ret)))))⟩
def n169:NF:=⟨32,[10,11],
 .seq (.region [
 oP 10 (.mov (cI 0)),
 oP 11 (.mov (cI 0))])
 (kL [0,1,2,3,4] 0 (.seq (.seq (.draw 0 [
 ⟨0,none,(mV 12 4),[]⟩,
 ⟨1,none,(mV 13 0),[]⟩,
 ⟨2,none,(mV 14 2),[]⟩,
 ⟨3,none,(oP 15 (iA 5 13 14)),[]⟩,
 ⟨4,none,(oP 16 (.load (some 5) (.t 15))),[]⟩,
 ⟨5,none,(mV 17 0),[]⟩,
 ⟨6,none,(mV 18 1),[]⟩,
 ⟨7,none,(oP 19 (iA 5 17 18)),[]⟩,
 ⟨8,none,(oP 20 (.load (some 5) (.t 19))),[]⟩,
 ⟨9,none,(oP 21 (.dyn (.t 12) [(.t 16),(.t 20)])),[]⟩,
 ⟨10,none,(oP 22 (.bin .lss .num (.t 21) (cI 0))),[]⟩])
 (kL [1,2,3,22] 0 (.cond (.t 22)
 (.seq (.region [
 mV 23 3,
 oP 24 (.nilck (.t 23)),
 oP 25 (lD 24),
 oP 26 (.bin .add .num (.t 25) (cI 1)),
 oP 27 (.nilck (.t 23)),
 oW (.store 1 (.t 27) (.t 26))])
 (kL [1,2] 0 (.seq (.region [
 mV 28 2,
 mV 29 1,
 mV 10 28,
 mV 11 29])
 (.ret))))
 (.skip))))
 (kL [1,2] 0 (.seq (.region [
 mV 30 1,
 mV 31 2,
 mV 10 30,
 mV 11 31])
 (.ret)))))⟩
def n211:NF:=⟨58,[],
 .seq (.region [
 mV 12 2,
 mV 13 1,
 oP 14 (.bin .sub .num (.t 12) (.t 13)),
 mV 10 14])
 (kL [0,2,3,4,10] 0 (.seq (.region [
 mV 15 3,
 mV 16 2,
 oP 17 (.bin .sub .num (.t 15) (.t 16)),
 mV 11 17])
 (kL [0,2,4,10,11] 0 (.seq (.block 0 (.loop (kL [0,2,4,10,11] 0 (.seq (.seq (.region [
 mV 18 10,
 mV 19 11,
 oP 20 (.bin .neq .num (.t 18) (.t 19))])
 (kL [0,2,4,10,11,20] 0 (.cond (.t 20)
 (.skip)
 (.exit 0))))
 (kL [0,2,4,10,11] 0 (.block 1 (.seq (.region [
 mV 21 10,
 mV 22 11,
 oP 23 (.bin .gtr .num (.t 21) (.t 22))])
 (kL [0,2,4,10,11,23] 0 (.cond (.t 23)
 (.seq (.region [
 mV 24 0,
 mV 25 2,
 mV 26 10,
 oP 27 (.bin .sub .num (.t 25) (.t 26)),
 mV 28 2,
 mV 29 11,
 mV 30 4,
 oP 31 (.call 212 [(.t 24),(.t 27),(.t 28),(.t 29),(.t 30)])])
 (kL [0,2,4,10,11] 0 (.region [
 mV 32 10,
 mV 33 11,
 oP 34 (.bin .sub .num (.t 32) (.t 33)),
 mV 10 34])))
 (.seq (.region [
 mV 35 0,
 mV 36 2,
 mV 37 10,
 oP 38 (.bin .sub .num (.t 36) (.t 37)),
 mV 39 2,
 mV 40 11,
 oP 41 (.bin .add .num (.t 39) (.t 40)),
 mV 42 10,
 oP 43 (.bin .sub .num (.t 41) (.t 42)),
 mV 44 10,
 mV 45 4,
 oP 46 (.call 212 [(.t 35),(.t 38),(.t 43),(.t 44),(.t 45)])])
 (kL [0,2,4,10,11] 0 (.region [
 mV 47 11,
 mV 48 10,
 oP 49 (.bin .sub .num (.t 47) (.t 48)),
 mV 11 49]))))))))))))
 (kL [0,2,4,10] 0 (.region [
 mV 50 0,
 mV 51 2,
 mV 52 10,
 oP 53 (.bin .sub .num (.t 51) (.t 52)),
 mV 54 2,
 mV 55 10,
 mV 56 4,
 oP 57 (.call 212 [(.t 50),(.t 53),(.t 54),(.t 55),(.t 56)])]))))))⟩
def n212:NF:=⟨38,[],
 .seq (.region [
 oP 10 (.mov (cI 0))])
 (kL [0,1,2,3,10] 0 (.block 0 (.loop (kL [0,1,2,3,10] 0 (.seq (.seq (.region [
 mV 11 10,
 mV 12 3,
 oP 13 (.bin .lss .num (.t 11) (.t 12))])
 (kL [0,1,2,3,10,13] 0 (.cond (.t 13)
 (.skip)
 (.exit 0))))
 (kL [0,1,2,3,10] 0 (.seq (.block 1 (.draw 0 [
 ⟨0,none,(mV 16 0),[]⟩,
 ⟨1,none,(mV 17 1),[]⟩,
 ⟨2,none,(mV 18 10),[]⟩,
 ⟨3,none,(oP 19 (.bin .add .num (.t 17) (.t 18))),[]⟩,
 ⟨4,none,(mV 20 0),[]⟩,
 ⟨5,none,(mV 21 2),[]⟩,
 ⟨6,none,(mV 22 10),[]⟩,
 ⟨7,none,(oP 23 (.bin .add .num (.t 21) (.t 22))),[]⟩,
 ⟨8,none,(mV 24 0),[]⟩,
 ⟨9,none,(mV 25 2),[]⟩,
 ⟨10,none,(mV 26 10),[]⟩,
 ⟨11,none,(oP 27 (.bin .add .num (.t 25) (.t 26))),[]⟩,
 ⟨12,none,(oP 28 (iA 1 24 27)),[]⟩,
 ⟨13,none,(oP 29 (lD 28)),[]⟩,
 ⟨14,none,(mV 30 0),[]⟩,
 ⟨15,none,(mV 31 1),[]⟩,
 ⟨16,none,(mV 32 10),[]⟩,
 ⟨17,none,(oP 33 (.bin .add .num (.t 31) (.t 32))),[]⟩,
 ⟨18,none,(oP 34 (iA 1 30 33)),[]⟩,
 ⟨19,none,(oP 35 (lD 34)),[]⟩,
 ⟨20,none,(oP 36 (iA 1 16 19)),[]⟩,
 ⟨21,none,(oW (.store 1 (.t 36) (.t 29))),[]⟩,
 ⟨22,none,(oP 37 (iA 1 20 23)),[]⟩,
 ⟨23,none,(oW (.store 1 (.t 37) (.t 35))),[]⟩]))
 (kL [0,1,2,3,10] 0 (.region [
 mV 14 10,
 oP 15 (.bin .add .num (.t 14) (cI 1)),
 mV 10 15])))))))))⟩
def N0:Nat→Option NF
 | 2=>some n2
 | 3=>some n3
 | 4=>some n4
 | 5=>some n5
 | 7=>some n7
 | 11=>some n11
 | 12=>some n12
 | 13=>some n13
 | 15=>some n15
 | 17=>some n17
 | 18=>some n18
 | 19=>some n19
 | 20=>some n20
 | 21=>some n21
 | 22=>some n22
 | 44=>some n44
 | 46=>some n46
 | 47=>some n47
 | 74=>some n74
 | 82=>some n82
 | 83=>some n83
 | 86=>some n86
 | 87=>some n87
 | 88=>some n88
 | 89=>some n89
 | 90=>some n90
 | 91=>some n91
 | 92=>some n92
 | 93=>some n93
 | 94=>some n94
 | 95=>some n95
 | 96=>some n96
 | 97=>some n97
 | 107=>some n107
 | 108=>some n108
 | 109=>some n109
 | 110=>some n110
 | 111=>some n111
 | 115=>some n115
 | 118=>some n118
 | 119=>some n119
 | 120=>some n120
 | 121=>some n121
 | 122=>some n122
 | 123=>some n123
 | 124=>some n124
 | 125=>some n125
 | 126=>some n126
 | 127=>some n127
 | 128=>some n128
 | 129=>some n129
 | 151=>some n151
 | 155=>some n155
 | 156=>some n156
 | 157=>some n157
 | 158=>some n158
 | 159=>some n159
 | 160=>some n160
 | 161=>some n161
 | 162=>some n162
 | 163=>some n163
 | 164=>some n164
 | 165=>some n165
 | 166=>some n166
 | 167=>some n167
 | 168=>some n168
 | 169=>some n169
 | 196=>some n196
 | 197=>some n197
 | 199=>some n199
 | 202=>some n202
 | 203=>some n203
 | 206=>some n206
 | 207=>some n207
 | 208=>some n208
 | 209=>some n209
 | 210=>some n210
 | 211=>some n211
 | 212=>some n212
 | 216=>some n216
 | 218=>some n218
 | 219=>some n219
 | 229=>some n229
 | 232=>some n232
 | 233=>some n233
 | 237=>some n237
 | 238=>some n238
 | 244=>some n244
 | 245=>some n245
 | 246=>some n246
 | 247=>some n247
 | 250=>some n250
 | 251=>some n251
 | 252=>some n252
 | 253=>some n253
 | 254=>some n254
 | 255=>some n255
 | _=>none
abbrev N:Nat→Option NF:=withF N0 156 lessN
end
end Camp
