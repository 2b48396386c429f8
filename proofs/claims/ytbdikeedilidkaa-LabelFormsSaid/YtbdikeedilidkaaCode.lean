/- What Norm gives: plain Lean over the model's own decoding. Functions of the program, as the machine runs them. Printed by a program of mine (ncode.py). -/
import Derived.Lib.RuneBytes
import Derived.Test.YtbdikeedilidkaaEngF

set_option linter.unnecessarySimpa false
set_option linter.unusedVariables false
set_option linter.unusedSimpArgs false
set_option linter.unusedSectionVars false
/-! CpNormF -/
namespace Go.Proofs
def Nrm.great (r : Int) : Prop := (65 ≤ r ∧ r ≤ 90) ∨ (913 ≤ r ∧ r ≤ 937 ∧ r ≠ 930)
instance (r : Int) : Decidable (Nrm.great r) := inferInstanceAs (Decidable (_ ∨ _))
def Nrm.low (r : Int) : Int := if Nrm.great r then r + 32 else r
def Nrm.from (s : ByteArray) : Nat → Nat → List UInt8
  | 0, _ => []
  | fuel + 1, pos => if pos < s.size then Lib.encodeRune (Nrm.low (Utf8.decode s pos).1) ++ Nrm.from s fuel (pos + (Utf8.decode s pos).2) else []
def Nrm.norm (s : ByteArray) : List UInt8 := Nrm.from s s.size 0
end Go.Proofs
namespace Camp
open Go
def normF : List AV → Option AV
  | [.c (.str s)] => if s.size ≤ 35184372088832 then some (.c (.str ⟨(Go.Proofs.Nrm.norm s).toArray⟩)) else none
  | _ => none
end Camp

/-! CnLab -/
namespace Camp
open Go
def bs (l : List UInt8) : ByteArray := ⟨⟨l⟩⟩
/-- campanile/campanilelaw1.LabelMay -/
def n170 : NF := ⟨59, [2],
 .seq (.region [
  ⟨(some 2), (.mov (.c (.c (.bool false)))), none⟩])
 (.seq (.kill [0] 0) (.seq (.seq (.region [
  ⟨(some 5), (.mov (.t 0)), none⟩,
  ⟨(some 6), (.len .str (.t 5)), none⟩,
  ⟨(some 7), (.bin .gtr .num (.t 6) (.c (.c (.int .i64 200)))), none⟩])
 (.seq (.kill [0, 7] 0) (.cond (.t 7)
 (.seq (.region [
   ⟨(some 8), (.call 171 []), none⟩,
   ⟨(some 2), (.mov (.t 8)), none⟩])
  (.ret))
 (.skip))))
 (.seq (.kill [0] 0) (.seq (.region [
  ⟨(some 9), (.mov (.t 0)), none⟩,
  ⟨(some 10), (.call 172 [(.t 9)]), none⟩,
  ⟨(some 3), (.mov (.t 10)), none⟩])
 (.seq (.kill [0, 3] 0) (.seq (.region [
  ⟨(some 11), (.mov (.t 0)), none⟩,
  ⟨(some 12), (.call 173 [(.t 11)]), none⟩,
  ⟨(some 4), (.mov (.t 12)), none⟩])
 (.seq (.kill [0, 3, 4] 0) (.seq (.seq (.region [
  ⟨(some 13), (.mov (.t 3)), none⟩,
  ⟨(some 14), (.mov (.t 13)), none⟩,
  ⟨(some 15), (.mov (.t 4)), (some (14, true))⟩,
  ⟨(some 16), (.bin .lss .num (.t 15) (.c (.c (.int .i64 1)))), (some (14, true))⟩,
  ⟨(some 17), (.mov (.t 16)), (some (14, true))⟩,
  ⟨(some 18), (.mov (.t 4)), (some (17, false))⟩,
  ⟨(some 19), (.bin .gtr .num (.t 18) (.c (.c (.int .i64 16)))), (some (17, false))⟩,
  ⟨(some 20), (.pick (.t 17) (.c (.c (.bool true))) (.t 19)), (some (14, true))⟩,
  ⟨(some 21), (.mov (.t 20)), (some (14, true))⟩,
  ⟨(some 22), (.mov (.t 0)), (some (21, false))⟩,
  ⟨(some 23), (.call 174 [(.t 22)]), (some (21, false))⟩,
  ⟨(some 24), (.mov (.t 0)), (some (21, false))⟩,
  ⟨(some 25), (.bin .neq .str (.t 23) (.t 24)), (some (21, false))⟩,
  ⟨(some 26), (.pick (.t 21) (.c (.c (.bool true))) (.t 25)), (some (14, true))⟩,
  ⟨(some 27), (.mov (.t 26)), (some (14, true))⟩,
  ⟨(some 28), (.mov (.t 0)), (some (27, false))⟩,
  ⟨(some 29), (.bin .add .str (.c (.c (.str (bs [49])))) (.t 28)), (some (27, false))⟩,
  ⟨(some 30), (.call 172 [(.t 29)]), (some (27, false))⟩,
  ⟨(some 31), (.pick (.t 27) (.c (.c (.bool true))) (.t 30)), (some (14, true))⟩,
  ⟨(some 32), (.mov (.t 31)), (some (14, true))⟩,
  ⟨(some 33), (.mov (.t 0)), (some (32, false))⟩,
  ⟨(some 34), (.bin .add .str (.t 33) (.c (.c (.str (bs [120]))))), (some (32, false))⟩,
  ⟨(some 35), (.call 172 [(.t 34)]), (some (32, false))⟩,
  ⟨(some 36), (.mov (.t 4)), (some (32, false))⟩,
  ⟨(some 37), (.bin .lss .num (.t 36) (.c (.c (.int .i64 16)))), (some (32, false))⟩,
  ⟨(some 38), (.bin .neq .bool (.t 35) (.t 37)), (some (32, false))⟩,
  ⟨(some 39), (.pick (.t 32) (.c (.c (.bool true))) (.t 38)), (some (14, true))⟩,
  ⟨(some 40), (.mov (.t 39)), (some (14, true))⟩,
  ⟨(some 41), (.mov (.t 0)), (some (40, false))⟩,
  ⟨(some 42), (.bin .add .str (.t 41) (.c (.c (.str (bs [57]))))), (some (40, false))⟩,
  ⟨(some 43), (.call 172 [(.t 42)]), (some (40, false))⟩,
  ⟨(some 44), (.mov (.t 4)), (some (40, false))⟩,
  ⟨(some 45), (.bin .lss .num (.t 44) (.c (.c (.int .i64 16)))), (some (40, false))⟩,
  ⟨(some 46), (.bin .neq .bool (.t 43) (.t 45)), (some (40, false))⟩,
  ⟨(some 47), (.pick (.t 40) (.c (.c (.bool true))) (.t 46)), (some (14, true))⟩,
  ⟨(some 48), (.mov (.t 47)), (some (14, true))⟩,
  ⟨(some 49), (.mov (.t 0)), (some (48, false))⟩,
  ⟨(some 50), (.bin .add .str (.t 49) (.c (.c (.str (bs [65]))))), (some (48, false))⟩,
  ⟨(some 51), (.call 172 [(.t 50)]), (some (48, false))⟩,
  ⟨(some 52), (.pick (.t 48) (.c (.c (.bool true))) (.t 51)), (some (14, true))⟩,
  ⟨(some 53), (.pick (.t 14) (.t 52) (.c (.c (.bool false)))), none⟩])
 (.seq (.kill [53] 0) (.cond (.t 53)
 (.seq (.region [
   ⟨(some 2), (.mov (.c (.c (.bool false)))), none⟩])
  (.ret))
 (.skip))))
 (.seq (.kill [] 0) (.seq (.region [
  ⟨(some 54), (.call 172 [(.c (.c (.str (bs []))))]), none⟩,
  ⟨(some 55), (.un .not (.t 54)), none⟩,
  ⟨(some 56), (.mov (.t 55)), none⟩,
  ⟨(some 57), (.call 171 []), (some (56, true))⟩,
  ⟨(some 58), (.pick (.t 56) (.t 57) (.c (.c (.bool false)))), none⟩,
  ⟨(some 2), (.mov (.t 58)), none⟩])
 (.ret)))))))))))⟩
/-- campanile/campanilelaw1.LabelSums -/
def n175 : NF := ⟨56, [4],
 .seq (.region [
  ⟨(some 4), (.mov (.c (.c (.bool false)))), none⟩])
 (.seq (.kill [0, 1] 0) (.seq (.seq (.region [
  ⟨(some 9), (.mov (.t 0)), none⟩,
  ⟨(some 10), (.len .str (.t 9)), none⟩,
  ⟨(some 11), (.bin .gtr .num (.t 10) (.c (.c (.int .i64 300)))), none⟩,
  ⟨(some 12), (.mov (.t 11)), none⟩,
  ⟨(some 13), (.mov (.t 1)), (some (12, false))⟩,
  ⟨(some 14), (.len .str (.t 13)), (some (12, false))⟩,
  ⟨(some 15), (.bin .gtr .num (.t 14) (.c (.c (.int .i64 300)))), (some (12, false))⟩,
  ⟨(some 16), (.pick (.t 12) (.c (.c (.bool true))) (.t 15)), none⟩])
 (.seq (.kill [0, 1, 16] 0) (.cond (.t 16)
 (.seq (.region [
   ⟨(some 17), (.call 171 []), none⟩,
   ⟨(some 4), (.mov (.t 17)), none⟩])
  (.ret))
 (.skip))))
 (.seq (.kill [0, 1] 0) (.seq (.region [
  ⟨(some 18), (.mov (.t 0)), none⟩,
  ⟨(some 19), (.call 173 [(.t 18)]), none⟩,
  ⟨(some 5), (.mov (.t 19)), none⟩])
 (.seq (.kill [0, 1, 5] 0) (.seq (.seq (.region [
  ⟨(some 20), (.mov (.t 0)), none⟩,
  ⟨(some 21), (.mov (.t 1)), none⟩,
  ⟨(some 22), (.bin .add .str (.t 20) (.t 21)), none⟩,
  ⟨(some 23), (.call 173 [(.t 22)]), none⟩,
  ⟨(some 24), (.mov (.t 5)), none⟩,
  ⟨(some 25), (.mov (.t 1)), none⟩,
  ⟨(some 26), (.call 173 [(.t 25)]), none⟩,
  ⟨(some 27), (.bin .add .num (.t 24) (.t 26)), none⟩,
  ⟨(some 28), (.bin .neq .num (.t 23) (.t 27)), none⟩])
 (.seq (.kill [0, 1, 5, 28] 0) (.cond (.t 28)
 (.seq (.region [
   ⟨(some 29), (.call 171 []), none⟩,
   ⟨(some 4), (.mov (.t 29)), none⟩])
  (.ret))
 (.skip))))
 (.seq (.kill [0, 1, 5] 0) (.seq (.region [
  ⟨(some 30), (.mov (.t 0)), none⟩,
  ⟨(some 31), (.call 176 [(.t 30)]), none⟩,
  ⟨(some 32), (.mov (.t 1)), none⟩,
  ⟨(some 33), (.call 176 [(.t 32)]), none⟩,
  ⟨(some 34), (.bin .add .num (.t 31) (.t 33)), none⟩,
  ⟨(some 6), (.mov (.t 34)), none⟩])
 (.seq (.kill [0, 1, 5, 6] 0) (.seq (.seq (.region [
  ⟨(some 35), (.mov (.t 1)), none⟩,
  ⟨(some 36), (.range .str (.t 35)), none⟩])
 (.seq (.kill [0, 1, 5, 6, 36] 0) (.block 0 (.loop (.seq (.kill [0, 1, 5, 6, 36] 0) (.seq (.region [
   ⟨(some 37), (.next true (.t 36)), none⟩,
   ⟨(some 38), (.ext (.t 37) 0), none⟩])
  (.seq (.kill [0, 1, 5, 6, 36, 37, 38] 0) (.seq (.cond (.t 38)
  (.skip)
  (.exit 0))
  (.seq (.kill [0, 1, 5, 6, 36, 37] 0) (.block 1 (.seq (.region [
   ⟨(some 39), (.ext (.t 37) 2), none⟩,
   ⟨(some 8), (.mov (.t 39)), none⟩])
  (.seq (.kill [0, 1, 5, 6, 8, 36] 0) (.region [
   ⟨(some 40), (.mov (.t 6)), none⟩,
   ⟨(some 41), (.mov (.t 5)), none⟩,
   ⟨(some 42), (.mov (.t 8)), none⟩,
   ⟨(some 43), (.conv (.toInt .i64) (.t 42)), none⟩,
   ⟨(some 44), (.bin .mul .num (.t 41) (.t 43)), none⟩,
   ⟨(some 45), (.bin .add .num (.t 40) (.t 44)), none⟩,
   ⟨(some 6), (.mov (.t 45)), none⟩])))))))))))))
 (.seq (.kill [0, 1, 6] 0) (.seq (.region [
  ⟨(some 46), (.mov (.t 0)), none⟩,
  ⟨(some 47), (.mov (.t 1)), none⟩,
  ⟨(some 48), (.bin .add .str (.t 46) (.t 47)), none⟩,
  ⟨(some 49), (.call 176 [(.t 48)]), none⟩,
  ⟨(some 50), (.mov (.t 6)), none⟩,
  ⟨(some 51), (.bin .rem .num (.t 50) (.c (.c (.int .i64 65521)))), none⟩,
  ⟨(some 52), (.bin .eql .num (.t 49) (.t 51)), none⟩,
  ⟨(some 53), (.mov (.t 52)), none⟩,
  ⟨(some 54), (.call 171 []), (some (53, true))⟩,
  ⟨(some 55), (.pick (.t 53) (.t 54) (.c (.c (.bool false)))), none⟩,
  ⟨(some 4), (.mov (.t 55)), none⟩])
 (.ret)))))))))))))⟩
/-- campanile/campanilelaw1.LabelTurns -/
def n177 : NF := ⟨54, [4],
 .seq (.region [
  ⟨(some 4), (.mov (.c (.c (.bool false)))), none⟩])
 (.seq (.kill [0, 1] 0) (.seq (.seq (.region [
  ⟨(some 6), (.mov (.t 0)), none⟩,
  ⟨(some 7), (.len .str (.t 6)), none⟩,
  ⟨(some 8), (.bin .gtr .num (.t 7) (.c (.c (.int .i64 300)))), none⟩,
  ⟨(some 9), (.mov (.t 8)), none⟩,
  ⟨(some 10), (.mov (.t 1)), (some (9, false))⟩,
  ⟨(some 11), (.len .str (.t 10)), (some (9, false))⟩,
  ⟨(some 12), (.bin .gtr .num (.t 11) (.c (.c (.int .i64 300)))), (some (9, false))⟩,
  ⟨(some 13), (.pick (.t 9) (.c (.c (.bool true))) (.t 12)), none⟩,
  ⟨(some 14), (.mov (.t 13)), none⟩,
  ⟨(some 15), (.mov (.t 0)), (some (14, false))⟩,
  ⟨(some 16), (.mov (.t 1)), (some (14, false))⟩,
  ⟨(some 17), (.bin .add .str (.t 15) (.t 16)), (some (14, false))⟩,
  ⟨(some 18), (.call 173 [(.t 17)]), (some (14, false))⟩,
  ⟨(some 19), (.mov (.t 0)), (some (14, false))⟩,
  ⟨(some 20), (.call 173 [(.t 19)]), (some (14, false))⟩,
  ⟨(some 21), (.mov (.t 1)), (some (14, false))⟩,
  ⟨(some 22), (.call 173 [(.t 21)]), (some (14, false))⟩,
  ⟨(some 23), (.bin .add .num (.t 20) (.t 22)), (some (14, false))⟩,
  ⟨(some 24), (.bin .neq .num (.t 18) (.t 23)), (some (14, false))⟩,
  ⟨(some 25), (.pick (.t 14) (.c (.c (.bool true))) (.t 24)), none⟩])
 (.seq (.kill [0, 1, 25] 0) (.cond (.t 25)
 (.seq (.region [
   ⟨(some 26), (.call 171 []), none⟩,
   ⟨(some 4), (.mov (.t 26)), none⟩])
  (.ret))
 (.skip))))
 (.seq (.kill [0, 1] 0) (.seq (.region [
  ⟨(some 27), (.mov (.t 0)), none⟩,
  ⟨(some 28), (.mov (.t 1)), none⟩,
  ⟨(some 29), (.bin .add .str (.t 27) (.t 28)), none⟩,
  ⟨(some 30), (.call 178 [(.t 29)]), none⟩,
  ⟨(some 5), (.mov (.t 30)), none⟩])
 (.seq (.kill [0, 1, 5] 0) (.seq (.region [
  ⟨(some 31), (.mov (.t 5)), none⟩,
  ⟨(some 32), (.mov (.t 1)), none⟩,
  ⟨(some 33), (.call 178 [(.t 32)]), none⟩,
  ⟨(some 34), (.mov (.t 0)), none⟩,
  ⟨(some 35), (.call 178 [(.t 34)]), none⟩,
  ⟨(some 36), (.bin .add .str (.t 33) (.t 35)), none⟩,
  ⟨(some 37), (.bin .eql .str (.t 31) (.t 36)), none⟩,
  ⟨(some 38), (.mov (.t 37)), none⟩,
  ⟨(some 39), (.mov (.t 5)), (some (38, true))⟩,
  ⟨(some 40), (.call 173 [(.t 39)]), (some (38, true))⟩,
  ⟨(some 41), (.mov (.t 0)), (some (38, true))⟩,
  ⟨(some 42), (.mov (.t 1)), (some (38, true))⟩,
  ⟨(some 43), (.bin .add .str (.t 41) (.t 42)), (some (38, true))⟩,
  ⟨(some 44), (.call 173 [(.t 43)]), (some (38, true))⟩,
  ⟨(some 45), (.bin .eql .num (.t 40) (.t 44)), (some (38, true))⟩,
  ⟨(some 46), (.pick (.t 38) (.t 45) (.c (.c (.bool false)))), none⟩,
  ⟨(some 47), (.mov (.t 46)), none⟩,
  ⟨(some 48), (.call 178 [(.c (.c (.str (bs [206, 178]))))]), (some (47, true))⟩,
  ⟨(some 49), (.bin .eql .str (.t 48) (.c (.c (.str (bs [206, 178]))))), (some (47, true))⟩,
  ⟨(some 50), (.pick (.t 47) (.t 49) (.c (.c (.bool false)))), none⟩,
  ⟨(some 51), (.mov (.t 50)), none⟩,
  ⟨(some 52), (.call 171 []), (some (51, true))⟩,
  ⟨(some 53), (.pick (.t 51) (.t 52) (.c (.c (.bool false)))), none⟩,
  ⟨(some 4), (.mov (.t 53)), none⟩])
 (.ret)))))))⟩
/-- campanile/campanilelaw1.LabelForms -/
def n179 : NF := ⟨55, [4],
 .seq (.region [
  ⟨(some 4), (.mov (.c (.c (.bool false)))), none⟩])
 (.seq (.kill [0, 1] 0) (.seq (.seq (.region [
  ⟨(some 5), (.mov (.t 0)), none⟩,
  ⟨(some 6), (.len .str (.t 5)), none⟩,
  ⟨(some 7), (.bin .gtr .num (.t 6) (.c (.c (.int .i64 2000)))), none⟩])
 (.seq (.kill [0, 1, 7] 0) (.cond (.t 7)
 (.seq (.region [
   ⟨(some 8), (.call 171 []), none⟩,
   ⟨(some 4), (.mov (.t 8)), none⟩])
  (.ret))
 (.skip))))
 (.seq (.kill [0, 1] 0) (.seq (.region [
  ⟨(some 9), (.mov (.t 0)), none⟩,
  ⟨(some 10), (.call 172 [(.t 9)]), none⟩,
  ⟨(some 11), (.mov (.t 0)), none⟩,
  ⟨(some 12), (.call 180 [(.t 11)]), none⟩,
  ⟨(some 13), (.bin .eql .bool (.t 10) (.t 12)), none⟩,
  ⟨(some 14), (.mov (.t 13)), none⟩,
  ⟨(some 15), (.mov (.t 0)), (some (14, true))⟩,
  ⟨(some 16), (.call 174 [(.t 15)]), (some (14, true))⟩,
  ⟨(some 17), (.mov (.t 0)), (some (14, true))⟩,
  ⟨(some 18), (.call 181 [(.t 17)]), (some (14, true))⟩,
  ⟨(some 19), (.bin .eql .str (.t 16) (.t 18)), (some (14, true))⟩,
  ⟨(some 20), (.pick (.t 14) (.t 19) (.c (.c (.bool false)))), none⟩,
  ⟨(some 21), (.mov (.t 20)), none⟩,
  ⟨(some 22), (.mov (.t 0)), (some (21, true))⟩,
  ⟨(some 23), (.call 173 [(.t 22)]), (some (21, true))⟩,
  ⟨(some 24), (.mov (.t 0)), (some (21, true))⟩,
  ⟨(some 25), (.call 182 [(.t 24)]), (some (21, true))⟩,
  ⟨(some 26), (.len .sl (.t 25)), (some (21, true))⟩,
  ⟨(some 27), (.bin .eql .num (.t 23) (.t 26)), (some (21, true))⟩,
  ⟨(some 28), (.pick (.t 21) (.t 27) (.c (.c (.bool false)))), none⟩,
  ⟨(some 29), (.mov (.t 28)), none⟩,
  ⟨(some 30), (.mov (.t 0)), (some (29, true))⟩,
  ⟨(some 31), (.mov (.t 1)), (some (29, true))⟩,
  ⟨(some 32), (.call 183 [(.t 30), (.t 31)]), (some (29, true))⟩,
  ⟨(some 33), (.mov (.t 0)), (some (29, true))⟩,
  ⟨(some 34), (.mov (.t 1)), (some (29, true))⟩,
  ⟨(some 35), (.call 184 [(.t 33), (.t 34)]), (some (29, true))⟩,
  ⟨(some 36), (.bin .eql .str (.t 32) (.t 35)), (some (29, true))⟩,
  ⟨(some 37), (.pick (.t 29) (.t 36) (.c (.c (.bool false)))), none⟩,
  ⟨(some 38), (.mov (.t 37)), none⟩,
  ⟨(some 39), (.mov (.t 0)), (some (38, true))⟩,
  ⟨(some 40), (.call 176 [(.t 39)]), (some (38, true))⟩,
  ⟨(some 41), (.mov (.t 0)), (some (38, true))⟩,
  ⟨(some 42), (.call 185 [(.t 41)]), (some (38, true))⟩,
  ⟨(some 43), (.bin .eql .num (.t 40) (.t 42)), (some (38, true))⟩,
  ⟨(some 44), (.pick (.t 38) (.t 43) (.c (.c (.bool false)))), none⟩,
  ⟨(some 45), (.mov (.t 44)), none⟩,
  ⟨(some 46), (.mov (.t 0)), (some (45, true))⟩,
  ⟨(some 47), (.call 178 [(.t 46)]), (some (45, true))⟩,
  ⟨(some 48), (.mov (.t 0)), (some (45, true))⟩,
  ⟨(some 49), (.call 186 [(.t 48)]), (some (45, true))⟩,
  ⟨(some 50), (.bin .eql .str (.t 47) (.t 49)), (some (45, true))⟩,
  ⟨(some 51), (.pick (.t 45) (.t 50) (.c (.c (.bool false)))), none⟩,
  ⟨(some 52), (.mov (.t 51)), none⟩,
  ⟨(some 53), (.call 171 []), (some (52, true))⟩,
  ⟨(some 54), (.pick (.t 52) (.t 53) (.c (.c (.bool false)))), none⟩,
  ⟨(some 4), (.mov (.t 54)), none⟩])
 (.ret)))))⟩
/-- campanile/campanilelaw1.LabelParts -/
def n187 : NF := ⟨86, [4],
 .seq (.region [
  ⟨(some 4), (.mov (.c (.c (.bool false)))), none⟩])
 (.seq (.kill [0, 1] 0) (.seq (.seq (.region [
  ⟨(some 9), (.mov (.t 0)), none⟩,
  ⟨(some 10), (.len .sl (.t 9)), none⟩,
  ⟨(some 11), (.bin .gtr .num (.t 10) (.c (.c (.int .i64 500)))), none⟩])
 (.seq (.kill [0, 1, 11] 0) (.cond (.t 11)
 (.seq (.region [
   ⟨(some 12), (.call 171 []), none⟩,
   ⟨(some 4), (.mov (.t 12)), none⟩])
  (.ret))
 (.skip))))
 (.seq (.kill [0, 1] 0) (.seq (.region [
  ⟨(some 13), (.mov (.t 0)), none⟩,
  ⟨(some 14), (.conv .runesToStr (.t 13)), none⟩,
  ⟨(some 5), (.mov (.t 14)), none⟩])
 (.seq (.kill [0, 1, 5] 0) (.seq (.region [
  ⟨(some 15), (.mov (.t 5)), none⟩,
  ⟨(some 16), (.call 173 [(.t 15)]), none⟩,
  ⟨(some 6), (.mov (.t 16)), none⟩])
 (.seq (.kill [0, 1, 5, 6] 0) (.seq (.region [
  ⟨(some 17), (.mov (.t 1)), none⟩,
  ⟨(some 18), (.conv (.toInt .u64) (.t 17)), none⟩,
  ⟨(some 19), (.mov (.t 0)), none⟩,
  ⟨(some 20), (.len .sl (.t 19)), none⟩,
  ⟨(some 21), (.bin .add .num (.t 20) (.c (.c (.int .i64 1)))), none⟩,
  ⟨(some 22), (.conv (.toInt .u64) (.t 21)), none⟩,
  ⟨(some 23), (.bin .rem .num (.t 18) (.t 22)), none⟩,
  ⟨(some 24), (.conv (.toInt .i64) (.t 23)), none⟩,
  ⟨(some 1), (.mov (.t 24)), none⟩])
 (.seq (.kill [0, 1, 5, 6] 0) (.seq (.region [
  ⟨(some 25), (.mov (.t 5)), none⟩,
  ⟨(some 26), (.mov (.t 1)), none⟩,
  ⟨(some 27), (.call 183 [(.t 25), (.t 26)]), none⟩,
  ⟨(some 7), (.mov (.t 27)), none⟩])
 (.seq (.kill [0, 1, 5, 6, 7] 0) (.seq (.seq (.region [
  ⟨(some 28), (.mov (.t 6)), none⟩,
  ⟨(some 29), (.mov (.t 0)), none⟩,
  ⟨(some 30), (.len .sl (.t 29)), none⟩,
  ⟨(some 31), (.bin .neq .num (.t 28) (.t 30)), none⟩,
  ⟨(some 32), (.mov (.t 31)), none⟩,
  ⟨(some 33), (.mov (.t 7)), (some (32, false))⟩,
  ⟨(some 34), (.len .str (.t 33)), (some (32, false))⟩,
  ⟨(some 35), (.mov (.t 5)), (some (32, false))⟩,
  ⟨(some 36), (.len .str (.t 35)), (some (32, false))⟩,
  ⟨(some 37), (.bin .gtr .num (.t 34) (.t 36)), (some (32, false))⟩,
  ⟨(some 38), (.pick (.t 32) (.c (.c (.bool true))) (.t 37)), none⟩,
  ⟨(some 39), (.mov (.t 38)), none⟩,
  ⟨(some 40), (.mov (.t 5)), (some (39, false))⟩,
  ⟨(some 41), (.mov (.t 7)), (some (39, false))⟩,
  ⟨(some 42), (.len .str (.t 41)), (some (39, false))⟩,
  ⟨(some 43), (.slice 0 (.t 40) none (some (.t 42)) none), (some (39, false))⟩,
  ⟨(some 44), (.mov (.t 7)), (some (39, false))⟩,
  ⟨(some 45), (.bin .neq .str (.t 43) (.t 44)), (some (39, false))⟩,
  ⟨(some 46), (.pick (.t 39) (.c (.c (.bool true))) (.t 45)), none⟩,
  ⟨(some 47), (.mov (.t 46)), none⟩,
  ⟨(some 48), (.mov (.t 7)), (some (47, false))⟩,
  ⟨(some 49), (.call 173 [(.t 48)]), (some (47, false))⟩,
  ⟨(some 50), (.mov (.t 1)), (some (47, false))⟩,
  ⟨(some 51), (.bin .neq .num (.t 49) (.t 50)), (some (47, false))⟩,
  ⟨(some 52), (.pick (.t 47) (.c (.c (.bool true))) (.t 51)), none⟩,
  ⟨(some 53), (.mov (.t 52)), none⟩,
  ⟨(some 54), (.mov (.t 5)), (some (53, false))⟩,
  ⟨(some 55), (.mov (.t 7)), (some (53, false))⟩,
  ⟨(some 56), (.len .str (.t 55)), (some (53, false))⟩,
  ⟨(some 57), (.slice 0 (.t 54) (some (.t 56)) none none), (some (53, false))⟩,
  ⟨(some 58), (.call 173 [(.t 57)]), (some (53, false))⟩,
  ⟨(some 59), (.mov (.t 6)), (some (53, false))⟩,
  ⟨(some 60), (.mov (.t 1)), (some (53, false))⟩,
  ⟨(some 61), (.bin .sub .num (.t 59) (.t 60)), (some (53, false))⟩,
  ⟨(some 62), (.bin .neq .num (.t 58) (.t 61)), (some (53, false))⟩,
  ⟨(some 63), (.pick (.t 53) (.c (.c (.bool true))) (.t 62)), none⟩])
 (.seq (.kill [5, 6, 63] 0) (.cond (.t 63)
 (.seq (.region [
   ⟨(some 4), (.mov (.c (.c (.bool false)))), none⟩])
  (.ret))
 (.skip))))
 (.seq (.kill [5, 6] 0) (.seq (.region [
  ⟨(some 64), (.mov (.t 5)), none⟩,
  ⟨(some 65), (.call 174 [(.t 64)]), none⟩,
  ⟨(some 8), (.mov (.t 65)), none⟩])
 (.seq (.kill [5, 6, 8] 0) (.seq (.region [
  ⟨(some 66), (.mov (.t 8)), none⟩,
  ⟨(some 67), (.call 174 [(.t 66)]), none⟩,
  ⟨(some 68), (.mov (.t 8)), none⟩,
  ⟨(some 69), (.bin .eql .str (.t 67) (.t 68)), none⟩,
  ⟨(some 70), (.mov (.t 69)), none⟩,
  ⟨(some 71), (.mov (.t 8)), (some (70, true))⟩,
  ⟨(some 72), (.call 173 [(.t 71)]), (some (70, true))⟩,
  ⟨(some 73), (.mov (.t 6)), (some (70, true))⟩,
  ⟨(some 74), (.bin .eql .num (.t 72) (.t 73)), (some (70, true))⟩,
  ⟨(some 75), (.pick (.t 70) (.t 74) (.c (.c (.bool false)))), none⟩,
  ⟨(some 76), (.mov (.t 75)), none⟩,
  ⟨(some 77), (.mov (.t 5)), (some (76, true))⟩,
  ⟨(some 78), (.call 178 [(.t 77)]), (some (76, true))⟩,
  ⟨(some 79), (.call 178 [(.t 78)]), (some (76, true))⟩,
  ⟨(some 80), (.mov (.t 5)), (some (76, true))⟩,
  ⟨(some 81), (.bin .eql .str (.t 79) (.t 80)), (some (76, true))⟩,
  ⟨(some 82), (.pick (.t 76) (.t 81) (.c (.c (.bool false)))), none⟩,
  ⟨(some 83), (.mov (.t 82)), none⟩,
  ⟨(some 84), (.call 171 []), (some (83, true))⟩,
  ⟨(some 85), (.pick (.t 83) (.t 84) (.c (.c (.bool false)))), none⟩,
  ⟨(some 4), (.mov (.t 85)), none⟩])
 (.ret)))))))))))))))))⟩
/-- campanile/campanilelaw1.LabelCuts -/
def n188 : NF := ⟨58, [6],
 .seq (.region [
  ⟨(some 6), (.mov (.c (.c (.bool false)))), none⟩])
 (.seq (.kill [0, 1, 2] 0) (.seq (.seq (.region [
  ⟨(some 7), (.mov (.t 0)), none⟩,
  ⟨(some 8), (.len .str (.t 7)), none⟩,
  ⟨(some 9), (.bin .gtr .num (.t 8) (.c (.c (.int .i64 500)))), none⟩])
 (.seq (.kill [0, 1, 2, 9] 0) (.cond (.t 9)
 (.seq (.region [
   ⟨(some 10), (.call 171 []), none⟩,
   ⟨(some 6), (.mov (.t 10)), none⟩])
  (.ret))
 (.skip))))
 (.seq (.kill [0, 1, 2] 0) (.seq (.region [
  ⟨(some 11), (.mov (.t 1)), none⟩,
  ⟨(some 12), (.conv (.toInt .u64) (.t 11)), none⟩,
  ⟨(some 13), (.bin .rem .num (.t 12) (.c (.c (.int .u64 20)))), none⟩,
  ⟨(some 14), (.conv (.toInt .i64) (.t 13)), none⟩,
  ⟨(some 15), (.mov (.t 2)), none⟩,
  ⟨(some 16), (.conv (.toInt .u64) (.t 15)), none⟩,
  ⟨(some 17), (.bin .rem .num (.t 16) (.c (.c (.int .u64 20)))), none⟩,
  ⟨(some 18), (.conv (.toInt .i64) (.t 17)), none⟩,
  ⟨(some 1), (.mov (.t 14)), none⟩,
  ⟨(some 2), (.mov (.t 18)), none⟩])
 (.seq (.kill [0, 1, 2] 0) (.seq (.region [
  ⟨(some 19), (.mov (.t 0)), none⟩,
  ⟨(some 20), (.mov (.t 1)), none⟩,
  ⟨(some 21), (.call 183 [(.t 19), (.t 20)]), none⟩,
  ⟨(some 22), (.mov (.t 2)), none⟩,
  ⟨(some 23), (.call 183 [(.t 21), (.t 22)]), none⟩,
  ⟨(some 24), (.mov (.t 0)), none⟩,
  ⟨(some 25), (.mov (.t 1)), none⟩,
  ⟨(some 26), (.mov (.t 2)), none⟩,
  ⟨(some 27), (.min [(.t 25), (.t 26)]), none⟩,
  ⟨(some 28), (.call 183 [(.t 24), (.t 27)]), none⟩,
  ⟨(some 29), (.bin .eql .str (.t 23) (.t 28)), none⟩,
  ⟨(some 30), (.mov (.t 29)), none⟩,
  ⟨(some 31), (.mov (.t 0)), (some (30, true))⟩,
  ⟨(some 32), (.mov (.t 0)), (some (30, true))⟩,
  ⟨(some 33), (.call 173 [(.t 32)]), (some (30, true))⟩,
  ⟨(some 34), (.call 183 [(.t 31), (.t 33)]), (some (30, true))⟩,
  ⟨(some 35), (.mov (.t 0)), (some (30, true))⟩,
  ⟨(some 36), (.bin .eql .str (.t 34) (.t 35)), (some (30, true))⟩,
  ⟨(some 37), (.pick (.t 30) (.t 36) (.c (.c (.bool false)))), none⟩,
  ⟨(some 38), (.mov (.t 37)), none⟩,
  ⟨(some 39), (.mov (.t 0)), (some (38, true))⟩,
  ⟨(some 40), (.mov (.t 0)), (some (38, true))⟩,
  ⟨(some 41), (.call 173 [(.t 40)]), (some (38, true))⟩,
  ⟨(some 42), (.mov (.t 1)), (some (38, true))⟩,
  ⟨(some 43), (.bin .add .num (.t 41) (.t 42)), (some (38, true))⟩,
  ⟨(some 44), (.call 183 [(.t 39), (.t 43)]), (some (38, true))⟩,
  ⟨(some 45), (.mov (.t 0)), (some (38, true))⟩,
  ⟨(some 46), (.bin .eql .str (.t 44) (.t 45)), (some (38, true))⟩,
  ⟨(some 47), (.pick (.t 38) (.t 46) (.c (.c (.bool false)))), none⟩,
  ⟨(some 48), (.mov (.t 47)), none⟩,
  ⟨(some 49), (.mov (.t 0)), (some (48, true))⟩,
  ⟨(some 50), (.mov (.t 1)), (some (48, true))⟩,
  ⟨(some 51), (.bin .sub .num (.c (.c (.int .i64 (-1)))) (.t 50)), (some (48, true))⟩,
  ⟨(some 52), (.call 183 [(.t 49), (.t 51)]), (some (48, true))⟩,
  ⟨(some 53), (.bin .eql .str (.t 52) (.c (.c (.str (bs []))))), (some (48, true))⟩,
  ⟨(some 54), (.pick (.t 48) (.t 53) (.c (.c (.bool false)))), none⟩,
  ⟨(some 55), (.mov (.t 54)), none⟩,
  ⟨(some 56), (.call 171 []), (some (55, true))⟩,
  ⟨(some 57), (.pick (.t 55) (.t 56) (.c (.c (.bool false)))), none⟩,
  ⟨(some 6), (.mov (.t 57)), none⟩])
 (.ret)))))))⟩
/-- campanile/campanilelaw1.awake -/
def n171 : NF := ⟨14, [0],
 .seq (.region [
  ⟨(some 0), (.mov (.c (.c (.bool false)))), none⟩])
 (.seq (.kill [] 0) (.seq (.region [
  ⟨(some 1), (.call 174 [(.c (.c (.str (bs [65, 206, 178]))))]), none⟩,
  ⟨(some 2), (.bin .eql .str (.t 1) (.c (.c (.str (bs [97, 206, 178]))))), none⟩,
  ⟨(some 3), (.mov (.t 2)), none⟩,
  ⟨(some 4), (.call 178 [(.c (.c (.str (bs [97, 206, 178]))))]), (some (3, true))⟩,
  ⟨(some 5), (.bin .eql .str (.t 4) (.c (.c (.str (bs [206, 178, 97]))))), (some (3, true))⟩,
  ⟨(some 6), (.pick (.t 3) (.t 5) (.c (.c (.bool false)))), none⟩,
  ⟨(some 7), (.mov (.t 6)), none⟩,
  ⟨(some 8), (.call 176 [(.c (.c (.str (bs [97, 98]))))]), (some (7, true))⟩,
  ⟨(some 9), (.bin .eql .num (.t 8) (.c (.c (.int .i64 293)))), (some (7, true))⟩,
  ⟨(some 10), (.pick (.t 7) (.t 9) (.c (.c (.bool false)))), none⟩,
  ⟨(some 11), (.mov (.t 10)), none⟩,
  ⟨(some 12), (.call 172 [(.c (.c (.str (bs [97, 206, 178, 49]))))]), (some (11, true))⟩,
  ⟨(some 13), (.pick (.t 11) (.t 12) (.c (.c (.bool false)))), none⟩,
  ⟨(some 0), (.mov (.t 13)), none⟩])
 (.ret)))⟩
/-- campanile/label.May -/
def n172 : NF := ⟨35, [2],
 .seq (.region [
  ⟨(some 2), (.mov (.c (.c (.bool false)))), none⟩])
 (.seq (.kill [0] 0) (.seq (.seq (.region [
  ⟨(some 6), (.mov (.t 0)), none⟩,
  ⟨(some 7), (.range .str (.t 6)), none⟩])
 (.seq (.kill [0, 7] 0) (.block 0 (.loop (.seq (.kill [0, 7] 0) (.seq (.region [
   ⟨(some 8), (.next true (.t 7)), none⟩,
   ⟨(some 9), (.ext (.t 8) 0), none⟩])
  (.seq (.kill [0, 7, 8, 9] 0) (.seq (.cond (.t 9)
  (.skip)
  (.exit 0))
  (.seq (.kill [0, 7, 8] 0) (.block 1 (.seq (.region [
   ⟨(some 10), (.ext (.t 8) 1), none⟩,
   ⟨(some 11), (.ext (.t 8) 2), none⟩,
   ⟨(some 3), (.mov (.t 10)), none⟩,
   ⟨(some 4), (.mov (.t 11)), none⟩])
  (.seq (.kill [0, 3, 4, 7] 0) (.seq (.region [
   ⟨(some 12), (.mov (.t 4)), none⟩,
   ⟨(some 13), (.call 189 [(.t 12)]), none⟩,
   ⟨(some 14), (.un .not (.t 13)), none⟩,
   ⟨(some 15), (.mov (.t 14)), none⟩,
   ⟨(some 16), (.mov (.t 3)), (some (15, true))⟩,
   ⟨(some 17), (.bin .eql .num (.t 16) (.c (.c (.int .i64 0)))), (some (15, true))⟩,
   ⟨(some 18), (.mov (.t 17)), (some (15, true))⟩,
   ⟨(some 19), (.mov (.t 4)), (some (18, false))⟩,
   ⟨(some 20), (.bin .lss .num (.t 19) (.c (.c (.int .i32 48)))), (some (18, false))⟩,
   ⟨(some 21), (.pick (.t 18) (.c (.c (.bool true))) (.t 20)), (some (15, true))⟩,
   ⟨(some 22), (.mov (.t 21)), (some (15, true))⟩,
   ⟨(some 23), (.mov (.t 4)), (some (22, false))⟩,
   ⟨(some 24), (.bin .gtr .num (.t 23) (.c (.c (.int .i32 57)))), (some (22, false))⟩,
   ⟨(some 25), (.pick (.t 22) (.c (.c (.bool true))) (.t 24)), (some (15, true))⟩,
   ⟨(some 26), (.pick (.t 15) (.t 25) (.c (.c (.bool false)))), none⟩])
  (.seq (.kill [0, 7, 26] 0) (.cond (.t 26)
  (.seq (.region [
    ⟨(some 2), (.mov (.c (.c (.bool false)))), none⟩])
   (.ret))
  (.skip))))))))))))))))
 (.seq (.kill [0] 0) (.seq (.region [
  ⟨(some 27), (.mov (.t 0)), none⟩,
  ⟨(some 28), (.call 173 [(.t 27)]), none⟩,
  ⟨(some 5), (.mov (.t 28)), none⟩])
 (.seq (.kill [5] 0) (.seq (.region [
  ⟨(some 29), (.mov (.t 5)), none⟩,
  ⟨(some 30), (.bin .geq .num (.t 29) (.c (.c (.int .i64 1)))), none⟩,
  ⟨(some 31), (.mov (.t 30)), none⟩,
  ⟨(some 32), (.mov (.t 5)), (some (31, true))⟩,
  ⟨(some 33), (.bin .leq .num (.t 32) (.c (.c (.int .i64 16)))), (some (31, true))⟩,
  ⟨(some 34), (.pick (.t 31) (.t 33) (.c (.c (.bool false)))), none⟩,
  ⟨(some 2), (.mov (.t 34)), none⟩])
 (.ret)))))))⟩
/-- campanile/label.Count -/
def n173 : NF := ⟨11, [2],
 .seq (.region [
  ⟨(some 2), (.mov (.c (.c (.int .i64 0)))), none⟩])
 (.seq (.kill [0] 0) (.seq (.region [
  ⟨(some 3), (.mov (.c (.c (.int .i64 0)))), none⟩])
 (.seq (.kill [0, 3] 0) (.seq (.seq (.region [
  ⟨(some 4), (.mov (.t 0)), none⟩,
  ⟨(some 5), (.range .str (.t 4)), none⟩])
 (.seq (.kill [3, 5] 0) (.block 0 (.loop (.seq (.kill [3, 5] 0) (.seq (.region [
   ⟨(some 6), (.next true (.t 5)), none⟩,
   ⟨(some 7), (.ext (.t 6) 0), none⟩])
  (.seq (.kill [3, 5, 7] 0) (.seq (.cond (.t 7)
  (.skip)
  (.exit 0))
  (.seq (.kill [3, 5] 0) (.block 1 (.region [
   ⟨(some 8), (.mov (.t 3)), none⟩,
   ⟨(some 9), (.bin .add .num (.t 8) (.c (.c (.int .i64 1)))), none⟩,
   ⟨(some 3), (.mov (.t 9)), none⟩])))))))))))
 (.seq (.kill [3] 0) (.seq (.region [
  ⟨(some 10), (.mov (.t 3)), none⟩,
  ⟨(some 2), (.mov (.t 10)), none⟩])
 (.ret)))))))⟩
/-- campanile/label.Norm -/
def n174 : NF := ⟨1, [0], .prim normF 1⟩
/-- campanile/label.Sum -/
def n176 : NF := ⟨23, [2],
 .seq (.region [
  ⟨(some 2), (.mov (.c (.c (.int .i64 0)))), none⟩])
 (.seq (.kill [0] 0) (.seq (.region [
  ⟨(some 3), (.mov (.c (.c (.int .i64 0)))), none⟩,
  ⟨(some 4), (.mov (.c (.c (.int .i64 0)))), none⟩])
 (.seq (.kill [0, 3, 4] 0) (.seq (.seq (.region [
  ⟨(some 7), (.mov (.t 0)), none⟩,
  ⟨(some 8), (.range .str (.t 7)), none⟩])
 (.seq (.kill [3, 4, 8] 0) (.block 0 (.loop (.seq (.kill [3, 4, 8] 0) (.seq (.region [
   ⟨(some 9), (.next true (.t 8)), none⟩,
   ⟨(some 10), (.ext (.t 9) 0), none⟩])
  (.seq (.kill [3, 4, 8, 9, 10] 0) (.seq (.cond (.t 10)
  (.skip)
  (.exit 0))
  (.seq (.kill [3, 4, 8, 9] 0) (.block 1 (.seq (.region [
   ⟨(some 11), (.ext (.t 9) 2), none⟩,
   ⟨(some 6), (.mov (.t 11)), none⟩])
  (.seq (.kill [3, 4, 6, 8] 0) (.seq (.region [
   ⟨(some 12), (.mov (.t 4)), none⟩,
   ⟨(some 13), (.bin .add .num (.t 12) (.c (.c (.int .i64 1)))), none⟩,
   ⟨(some 4), (.mov (.t 13)), none⟩])
  (.seq (.kill [3, 4, 6, 8] 0) (.region [
   ⟨(some 14), (.mov (.t 3)), none⟩,
   ⟨(some 15), (.mov (.t 6)), none⟩,
   ⟨(some 16), (.conv (.toInt .i64) (.t 15)), none⟩,
   ⟨(some 17), (.mov (.t 4)), none⟩,
   ⟨(some 18), (.bin .rem .num (.t 17) (.c (.c (.int .i64 65521)))), none⟩,
   ⟨(some 19), (.bin .mul .num (.t 16) (.t 18)), none⟩,
   ⟨(some 20), (.bin .add .num (.t 14) (.t 19)), none⟩,
   ⟨(some 21), (.bin .rem .num (.t 20) (.c (.c (.int .i64 65521)))), none⟩,
   ⟨(some 3), (.mov (.t 21)), none⟩])))))))))))))))
 (.seq (.kill [3] 0) (.seq (.region [
  ⟨(some 22), (.mov (.t 3)), none⟩,
  ⟨(some 2), (.mov (.t 22)), none⟩])
 (.ret)))))))⟩
/-- campanile/label.Turn -/
def n178 : NF := ⟨23, [2],
 .seq (.region [
  ⟨(some 2), (.mov (.c (.c (.str (bs []))))), none⟩])
 (.seq (.kill [0] 0) (.seq (.region [
  ⟨(some 7), (.mov (.t 0)), none⟩,
  ⟨(some 8), (.conv .strToRunes (.t 7)), none⟩,
  ⟨(some 3), (.mov (.t 8)), none⟩])
 (.seq (.kill [3] 0) (.seq (.region [
  ⟨(some 9), (.mov (.t 3)), none⟩,
  ⟨(some 10), (.call 190 [(.t 9)]), none⟩])
 (.seq (.kill [3] 0) (.seq (.region [
  ⟨(some 4), (.mov (.c (.c .nils))), none⟩])
 (.seq (.kill [3, 4] 0) (.seq (.seq (.region [
  ⟨(some 11), (.mov (.t 3)), none⟩,
  ⟨(some 12), (.len .sl (.t 11)), none⟩,
  ⟨(some 13), (.mov (.c (.c (.int .i64 0)))), none⟩])
 (.seq (.kill [4, 11, 12, 13] 0) (.block 0 (.loop (.seq (.kill [4, 11, 12, 13] 0) (.seq (.region [
   ⟨(some 14), (.bin .lss .num (.t 13) (.t 12)), none⟩])
  (.seq (.kill [4, 11, 12, 13, 14] 0) (.seq (.cond (.t 14)
  (.skip)
  (.exit 0))
  (.seq (.kill [4, 11, 12, 13] 0) (.seq (.block 1 (.seq (.region [
   ⟨(some 15), (.iaddr 1 (.t 11) (.t 13)), none⟩,
   ⟨(some 16), (.load none (.t 15)), none⟩,
   ⟨(some 6), (.mov (.t 16)), none⟩])
  (.seq (.kill [4, 6, 11, 12, 13] 0) (.region [
   ⟨(some 17), (.mov (.t 4)), none⟩,
   ⟨(some 18), (.mov (.t 6)), none⟩,
   ⟨(some 19), (.call 191 [(.t 17), (.t 18)]), none⟩,
   ⟨(some 4), (.mov (.t 19)), none⟩]))))
  (.seq (.kill [4, 11, 12, 13] 0) (.region [
   ⟨(some 20), (.bin .add .num (.t 13) (.c (.c (.int .i64 1)))), none⟩,
   ⟨(some 13), (.mov (.t 20)), none⟩]))))))))))))
 (.seq (.kill [4] 0) (.seq (.region [
  ⟨(some 21), (.mov (.t 4)), none⟩,
  ⟨(some 22), (.conv .bytesToStr (.t 21)), none⟩,
  ⟨(some 2), (.mov (.t 22)), none⟩])
 (.ret)))))))))))⟩
/-- campanile/campanileref1.MayName -/
def n180 : NF := ⟨58, [2],
 .seq (.region [
  ⟨(some 2), (.mov (.c (.c (.bool false)))), none⟩])
 (.seq (.kill [0] 0) (.seq (.region [
  ⟨(some 7), (.mov (.t 0)), none⟩,
  ⟨(some 8), (.call 182 [(.t 7)]), none⟩,
  ⟨(some 3), (.mov (.t 8)), none⟩])
 (.seq (.kill [3] 0) (.seq (.seq (.region [
  ⟨(some 9), (.mov (.t 3)), none⟩,
  ⟨(some 10), (.len .sl (.t 9)), none⟩,
  ⟨(some 11), (.bin .lss .num (.t 10) (.c (.c (.int .i64 1)))), none⟩,
  ⟨(some 12), (.mov (.t 11)), none⟩,
  ⟨(some 13), (.mov (.t 3)), (some (12, false))⟩,
  ⟨(some 14), (.len .sl (.t 13)), (some (12, false))⟩,
  ⟨(some 15), (.bin .gtr .num (.t 14) (.c (.c (.int .i64 16)))), (some (12, false))⟩,
  ⟨(some 16), (.pick (.t 12) (.c (.c (.bool true))) (.t 15)), none⟩])
 (.seq (.kill [3, 16] 0) (.cond (.t 16)
 (.seq (.region [
   ⟨(some 2), (.mov (.c (.c (.bool false)))), none⟩])
  (.ret))
 (.skip))))
 (.seq (.kill [3] 0) (.seq (.seq (.region [
  ⟨(some 17), (.mov (.t 3)), none⟩,
  ⟨(some 18), (.len .sl (.t 17)), none⟩,
  ⟨(some 19), (.mov (.c (.c (.int .i64 0)))), none⟩])
 (.seq (.kill [17, 18, 19] 0) (.block 0 (.loop (.seq (.kill [17, 18, 19] 0) (.seq (.region [
   ⟨(some 20), (.bin .lss .num (.t 19) (.t 18)), none⟩])
  (.seq (.kill [17, 18, 19, 20] 0) (.seq (.cond (.t 20)
  (.skip)
  (.exit 0))
  (.seq (.kill [17, 18, 19] 0) (.seq (.block 1 (.seq (.region [
   ⟨(some 21), (.mov (.t 19)), none⟩,
   ⟨(some 22), (.iaddr 1 (.t 17) (.t 19)), none⟩,
   ⟨(some 23), (.load none (.t 22)), none⟩,
   ⟨(some 4), (.mov (.t 21)), none⟩,
   ⟨(some 5), (.mov (.t 23)), none⟩])
  (.seq (.kill [4, 5, 17, 18, 19] 0) (.seq (.region [
   ⟨(some 24), (.mov (.t 5)), none⟩,
   ⟨(some 25), (.bin .geq .num (.t 24) (.c (.c (.int .i32 97)))), none⟩,
   ⟨(some 26), (.mov (.t 25)), none⟩,
   ⟨(some 27), (.mov (.t 5)), (some (26, true))⟩,
   ⟨(some 28), (.bin .leq .num (.t 27) (.c (.c (.int .i32 122)))), (some (26, true))⟩,
   ⟨(some 29), (.pick (.t 26) (.t 28) (.c (.c (.bool false)))), none⟩,
   ⟨(some 30), (.mov (.t 29)), none⟩,
   ⟨(some 31), (.mov (.t 5)), (some (30, false))⟩,
   ⟨(some 32), (.bin .geq .num (.t 31) (.c (.c (.int .i32 945)))), (some (30, false))⟩,
   ⟨(some 33), (.mov (.t 32)), (some (30, false))⟩,
   ⟨(some 34), (.mov (.t 5)), (some (33, true))⟩,
   ⟨(some 35), (.bin .leq .num (.t 34) (.c (.c (.int .i32 969)))), (some (33, true))⟩,
   ⟨(some 36), (.pick (.t 33) (.t 35) (.c (.c (.bool false)))), (some (30, false))⟩,
   ⟨(some 37), (.mov (.t 36)), (some (30, false))⟩,
   ⟨(some 38), (.mov (.t 5)), (some (37, true))⟩,
   ⟨(some 39), (.bin .neq .num (.t 38) (.c (.c (.int .i32 962)))), (some (37, true))⟩,
   ⟨(some 40), (.pick (.t 37) (.t 39) (.c (.c (.bool false)))), (some (30, false))⟩,
   ⟨(some 41), (.pick (.t 30) (.c (.c (.bool true))) (.t 40)), none⟩,
   ⟨(some 6), (.mov (.t 41)), none⟩])
  (.seq (.kill [4, 5, 6, 17, 18, 19] 0) (.seq (.region [
   ⟨(some 42), (.mov (.t 6)), none⟩,
   ⟨(some 43), (.un .not (.t 42)), none⟩,
   ⟨(some 44), (.mov (.t 43)), none⟩,
   ⟨(some 45), (.mov (.t 4)), (some (44, true))⟩,
   ⟨(some 46), (.bin .gtr .num (.t 45) (.c (.c (.int .i64 0)))), (some (44, true))⟩,
   ⟨(some 47), (.mov (.t 46)), (some (44, true))⟩,
   ⟨(some 48), (.mov (.t 5)), (some (47, true))⟩,
   ⟨(some 49), (.bin .geq .num (.t 48) (.c (.c (.int .i32 48)))), (some (47, true))⟩,
   ⟨(some 50), (.pick (.t 47) (.t 49) (.c (.c (.bool false)))), (some (44, true))⟩,
   ⟨(some 51), (.mov (.t 50)), (some (44, true))⟩,
   ⟨(some 52), (.mov (.t 5)), (some (51, true))⟩,
   ⟨(some 53), (.bin .leq .num (.t 52) (.c (.c (.int .i32 57)))), (some (51, true))⟩,
   ⟨(some 54), (.pick (.t 51) (.t 53) (.c (.c (.bool false)))), (some (44, true))⟩,
   ⟨(some 55), (.un .not (.t 54)), (some (44, true))⟩,
   ⟨(some 56), (.pick (.t 44) (.t 55) (.c (.c (.bool false)))), none⟩])
  (.seq (.kill [17, 18, 19, 56] 0) (.cond (.t 56)
  (.seq (.region [
    ⟨(some 2), (.mov (.c (.c (.bool false)))), none⟩])
   (.ret))
  (.skip)))))))))
  (.seq (.kill [17, 18, 19] 0) (.region [
   ⟨(some 57), (.bin .add .num (.t 19) (.c (.c (.int .i64 1)))), none⟩,
   ⟨(some 19), (.mov (.t 57)), none⟩]))))))))))))
 (.seq (.kill [] 0) (.seq (.region [
  ⟨(some 2), (.mov (.c (.c (.bool true)))), none⟩])
 (.ret)))))))))⟩
/-- campanile/campanileref1.Norm -/
def n181 : NF := ⟨41, [2],
 .seq (.region [
  ⟨(some 2), (.mov (.c (.c (.str (bs []))))), none⟩])
 (.seq (.kill [0] 0) (.seq (.region [
  ⟨(some 6), (.mov (.t 0)), none⟩,
  ⟨(some 7), (.call 182 [(.t 6)]), none⟩,
  ⟨(some 3), (.mov (.t 7)), none⟩])
 (.seq (.kill [3] 0) (.seq (.seq (.region [
  ⟨(some 8), (.mov (.t 3)), none⟩,
  ⟨(some 9), (.len .sl (.t 8)), none⟩,
  ⟨(some 10), (.mov (.c (.c (.int .i64 0)))), none⟩])
 (.seq (.kill [3, 8, 9, 10] 0) (.block 0 (.loop (.seq (.kill [3, 8, 9, 10] 0) (.seq (.region [
   ⟨(some 11), (.bin .lss .num (.t 10) (.t 9)), none⟩])
  (.seq (.kill [3, 8, 9, 10, 11] 0) (.seq (.cond (.t 11)
  (.skip)
  (.exit 0))
  (.seq (.kill [3, 8, 9, 10] 0) (.seq (.block 1 (.seq (.region [
   ⟨(some 12), (.mov (.t 10)), none⟩,
   ⟨(some 13), (.iaddr 1 (.t 8) (.t 10)), none⟩,
   ⟨(some 14), (.load none (.t 13)), none⟩,
   ⟨(some 4), (.mov (.t 12)), none⟩,
   ⟨(some 5), (.mov (.t 14)), none⟩])
  (.seq (.kill [3, 4, 5, 8, 9, 10] 0) (.seq (.region [
   ⟨(some 15), (.mov (.t 5)), none⟩,
   ⟨(some 16), (.bin .geq .num (.t 15) (.c (.c (.int .i32 65)))), none⟩,
   ⟨(some 17), (.mov (.t 16)), none⟩,
   ⟨(some 18), (.mov (.t 5)), (some (17, true))⟩,
   ⟨(some 19), (.bin .leq .num (.t 18) (.c (.c (.int .i32 90)))), (some (17, true))⟩,
   ⟨(some 20), (.pick (.t 17) (.t 19) (.c (.c (.bool false)))), none⟩,
   ⟨(some 21), (.mov (.t 20)), none⟩,
   ⟨(some 22), (.mov (.t 5)), (some (21, false))⟩,
   ⟨(some 23), (.bin .geq .num (.t 22) (.c (.c (.int .i32 913)))), (some (21, false))⟩,
   ⟨(some 24), (.mov (.t 23)), (some (21, false))⟩,
   ⟨(some 25), (.mov (.t 5)), (some (24, true))⟩,
   ⟨(some 26), (.bin .leq .num (.t 25) (.c (.c (.int .i32 937)))), (some (24, true))⟩,
   ⟨(some 27), (.pick (.t 24) (.t 26) (.c (.c (.bool false)))), (some (21, false))⟩,
   ⟨(some 28), (.mov (.t 27)), (some (21, false))⟩,
   ⟨(some 29), (.mov (.t 5)), (some (28, true))⟩,
   ⟨(some 30), (.bin .neq .num (.t 29) (.c (.c (.int .i32 930)))), (some (28, true))⟩,
   ⟨(some 31), (.pick (.t 28) (.t 30) (.c (.c (.bool false)))), (some (21, false))⟩,
   ⟨(some 32), (.pick (.t 21) (.c (.c (.bool true))) (.t 31)), none⟩])
  (.seq (.kill [3, 4, 5, 8, 9, 10, 32] 0) (.cond (.t 32)
  (.region [
    ⟨(some 33), (.mov (.t 3)), none⟩,
    ⟨(some 34), (.mov (.t 4)), none⟩,
    ⟨(some 35), (.mov (.t 5)), none⟩,
    ⟨(some 36), (.bin .add .num (.t 35) (.c (.c (.int .i32 32)))), none⟩,
    ⟨(some 37), (.iaddr 1 (.t 33) (.t 34)), none⟩,
    ⟨none, (.store 1 (.t 37) (.t 36)), none⟩])
  (.skip)))))))
  (.seq (.kill [3, 8, 9, 10] 0) (.region [
   ⟨(some 38), (.bin .add .num (.t 10) (.c (.c (.int .i64 1)))), none⟩,
   ⟨(some 10), (.mov (.t 38)), none⟩]))))))))))))
 (.seq (.kill [3] 0) (.seq (.region [
  ⟨(some 39), (.mov (.t 3)), none⟩,
  ⟨(some 40), (.call 192 [(.t 39)]), none⟩,
  ⟨(some 2), (.mov (.t 40)), none⟩])
 (.ret)))))))⟩
/-- campanile/campanileref1.Runes -/
def n182 : NF := ⟨16, [2],
 .seq (.region [
  ⟨(some 2), (.mov (.c (.c .nils))), none⟩])
 (.seq (.kill [0] 0) (.seq (.region [
  ⟨(some 3), (.mov (.c (.c .nils))), none⟩])
 (.seq (.kill [0, 3] 0) (.seq (.seq (.region [
  ⟨(some 6), (.mov (.t 0)), none⟩,
  ⟨(some 7), (.range .str (.t 6)), none⟩])
 (.seq (.kill [3, 7] 0) (.block 0 (.loop (.seq (.kill [3, 7] 0) (.seq (.region [
   ⟨(some 8), (.next true (.t 7)), none⟩,
   ⟨(some 9), (.ext (.t 8) 0), none⟩])
  (.seq (.kill [3, 7, 8, 9] 0) (.seq (.cond (.t 9)
  (.skip)
  (.exit 0))
  (.seq (.kill [3, 7, 8] 0) (.block 1 (.seq (.region [
   ⟨(some 10), (.ext (.t 8) 2), none⟩,
   ⟨(some 5), (.mov (.t 10)), none⟩])
  (.seq (.kill [3, 5, 7] 0) (.region [
   ⟨(some 11), (.mov (.t 3)), none⟩,
   ⟨(some 12), (.mov (.t 5)), none⟩,
   ⟨(some 13), (.bslice true 1 1 [(.int .i32 0)] [(0, (1, (.t 12)))]), none⟩,
   ⟨(some 14), (.app 1 4 (.t 11) (.t 13)), none⟩,
   ⟨(some 3), (.mov (.t 14)), none⟩])))))))))))))
 (.seq (.kill [3] 0) (.seq (.region [
  ⟨(some 15), (.mov (.t 3)), none⟩,
  ⟨(some 2), (.mov (.t 15)), none⟩])
 (.ret)))))))⟩
/-- campanile/label.Cut -/
def n183 : NF := ⟨19, [4],
 .seq (.region [
  ⟨(some 4), (.mov (.c (.c (.str (bs []))))), none⟩])
 (.seq (.kill [0, 1] 0) (.seq (.seq (.region [
  ⟨(some 6), (.mov (.t 0)), none⟩,
  ⟨(some 7), (.range .str (.t 6)), none⟩])
 (.seq (.kill [0, 1, 7] 0) (.block 0 (.loop (.seq (.kill [0, 1, 7] 0) (.seq (.region [
   ⟨(some 8), (.next true (.t 7)), none⟩,
   ⟨(some 9), (.ext (.t 8) 0), none⟩])
  (.seq (.kill [0, 1, 7, 8, 9] 0) (.seq (.cond (.t 9)
  (.skip)
  (.exit 0))
  (.seq (.kill [0, 1, 7, 8] 0) (.block 1 (.seq (.region [
   ⟨(some 10), (.ext (.t 8) 1), none⟩,
   ⟨(some 5), (.mov (.t 10)), none⟩])
  (.seq (.kill [0, 1, 5, 7] 0) (.seq (.seq (.region [
   ⟨(some 11), (.mov (.t 1)), none⟩,
   ⟨(some 12), (.bin .leq .num (.t 11) (.c (.c (.int .i64 0)))), none⟩])
  (.seq (.kill [0, 1, 5, 7, 12] 0) (.cond (.t 12)
  (.seq (.region [
    ⟨(some 13), (.mov (.t 0)), none⟩,
    ⟨(some 14), (.mov (.t 5)), none⟩,
    ⟨(some 15), (.slice 0 (.t 13) none (some (.t 14)) none), none⟩,
    ⟨(some 4), (.mov (.t 15)), none⟩])
   (.ret))
  (.skip))))
  (.seq (.kill [0, 1, 7] 0) (.region [
   ⟨(some 16), (.mov (.t 1)), none⟩,
   ⟨(some 17), (.bin .sub .num (.t 16) (.c (.c (.int .i64 1)))), none⟩,
   ⟨(some 1), (.mov (.t 17)), none⟩])))))))))))))))
 (.seq (.kill [0] 0) (.seq (.region [
  ⟨(some 18), (.mov (.t 0)), none⟩,
  ⟨(some 4), (.mov (.t 18)), none⟩])
 (.ret)))))⟩
/-- campanile/campanileref1.Cut -/
def n184 : NF := ⟨23, [4],
 .seq (.region [
  ⟨(some 4), (.mov (.c (.c (.str (bs []))))), none⟩])
 (.seq (.kill [0, 1] 0) (.seq (.region [
  ⟨(some 5), (.mov (.c (.c (.int .i64 0)))), none⟩])
 (.seq (.kill [0, 1, 5] 0) (.seq (.seq (.region [
  ⟨(some 7), (.mov (.t 0)), none⟩,
  ⟨(some 8), (.range .str (.t 7)), none⟩])
 (.seq (.kill [0, 1, 5, 8] 0) (.block 0 (.loop (.seq (.kill [0, 1, 5, 8] 0) (.seq (.region [
   ⟨(some 9), (.next true (.t 8)), none⟩,
   ⟨(some 10), (.ext (.t 9) 0), none⟩])
  (.seq (.kill [0, 1, 5, 8, 9, 10] 0) (.seq (.cond (.t 10)
  (.skip)
  (.exit 0))
  (.seq (.kill [0, 1, 5, 8, 9] 0) (.block 1 (.seq (.region [
   ⟨(some 11), (.ext (.t 9) 1), none⟩,
   ⟨(some 6), (.mov (.t 11)), none⟩])
  (.seq (.kill [0, 1, 5, 6, 8] 0) (.seq (.seq (.region [
   ⟨(some 12), (.mov (.t 5)), none⟩,
   ⟨(some 13), (.mov (.t 1)), none⟩,
   ⟨(some 14), (.bin .geq .num (.t 12) (.t 13)), none⟩])
  (.seq (.kill [0, 1, 5, 6, 8, 14] 0) (.cond (.t 14)
  (.seq (.region [
    ⟨(some 15), (.mov (.t 0)), none⟩,
    ⟨(some 16), (.mov (.t 6)), none⟩,
    ⟨(some 17), (.slice 0 (.t 15) none (some (.t 16)) none), none⟩,
    ⟨(some 4), (.mov (.t 17)), none⟩])
   (.ret))
  (.skip))))
  (.seq (.kill [0, 1, 5, 8] 0) (.region [
   ⟨(some 18), (.mov (.t 5)), none⟩,
   ⟨(some 19), (.bin .add .num (.t 18) (.c (.c (.int .i64 1)))), none⟩,
   ⟨(some 5), (.mov (.t 19)), none⟩])))))))))))))))
 (.seq (.kill [0, 1] 0) (.seq (.seq (.region [
  ⟨(some 20), (.mov (.t 1)), none⟩,
  ⟨(some 21), (.bin .leq .num (.t 20) (.c (.c (.int .i64 0)))), none⟩])
 (.seq (.kill [0, 21] 0) (.cond (.t 21)
 (.seq (.region [
   ⟨(some 4), (.mov (.c (.c (.str (bs []))))), none⟩])
  (.ret))
 (.skip))))
 (.seq (.kill [0] 0) (.seq (.region [
  ⟨(some 22), (.mov (.t 0)), none⟩,
  ⟨(some 4), (.mov (.t 22)), none⟩])
 (.ret)))))))))⟩
/-- campanile/campanileref1.SumName -/
def n185 : NF := ⟨25, [2],
 .seq (.region [
  ⟨(some 2), (.mov (.c (.c (.int .i64 0)))), none⟩])
 (.seq (.kill [0] 0) (.seq (.region [
  ⟨(some 3), (.mov (.c (.c (.int .i64 0)))), none⟩])
 (.seq (.kill [0, 3] 0) (.seq (.seq (.region [
  ⟨(some 6), (.mov (.t 0)), none⟩,
  ⟨(some 7), (.call 182 [(.t 6)]), none⟩,
  ⟨(some 8), (.len .sl (.t 7)), none⟩,
  ⟨(some 9), (.mov (.c (.c (.int .i64 0)))), none⟩])
 (.seq (.kill [3, 7, 8, 9] 0) (.block 0 (.loop (.seq (.kill [3, 7, 8, 9] 0) (.seq (.region [
   ⟨(some 10), (.bin .lss .num (.t 9) (.t 8)), none⟩])
  (.seq (.kill [3, 7, 8, 9, 10] 0) (.seq (.cond (.t 10)
  (.skip)
  (.exit 0))
  (.seq (.kill [3, 7, 8, 9] 0) (.seq (.block 1 (.seq (.region [
   ⟨(some 11), (.mov (.t 9)), none⟩,
   ⟨(some 12), (.iaddr 1 (.t 7) (.t 9)), none⟩,
   ⟨(some 13), (.load none (.t 12)), none⟩,
   ⟨(some 4), (.mov (.t 11)), none⟩,
   ⟨(some 5), (.mov (.t 13)), none⟩])
  (.seq (.kill [3, 4, 5, 7, 8, 9] 0) (.region [
   ⟨(some 14), (.mov (.t 3)), none⟩,
   ⟨(some 15), (.mov (.t 5)), none⟩,
   ⟨(some 16), (.conv (.toInt .i64) (.t 15)), none⟩,
   ⟨(some 17), (.mov (.t 4)), none⟩,
   ⟨(some 18), (.bin .rem .num (.t 17) (.c (.c (.int .i64 65521)))), none⟩,
   ⟨(some 19), (.bin .add .num (.t 18) (.c (.c (.int .i64 1)))), none⟩,
   ⟨(some 20), (.bin .mul .num (.t 16) (.t 19)), none⟩,
   ⟨(some 21), (.bin .add .num (.t 14) (.t 20)), none⟩,
   ⟨(some 22), (.bin .rem .num (.t 21) (.c (.c (.int .i64 65521)))), none⟩,
   ⟨(some 3), (.mov (.t 22)), none⟩]))))
  (.seq (.kill [3, 7, 8, 9] 0) (.region [
   ⟨(some 23), (.bin .add .num (.t 9) (.c (.c (.int .i64 1)))), none⟩,
   ⟨(some 9), (.mov (.t 23)), none⟩]))))))))))))
 (.seq (.kill [3] 0) (.seq (.region [
  ⟨(some 24), (.mov (.t 3)), none⟩,
  ⟨(some 2), (.mov (.t 24)), none⟩])
 (.ret)))))))⟩
/-- campanile/campanileref1.Turn -/
def n186 : NF := ⟨24, [2],
 .seq (.region [
  ⟨(some 2), (.mov (.c (.c (.str (bs []))))), none⟩])
 (.seq (.kill [0] 0) (.seq (.region [
  ⟨(some 6), (.mov (.t 0)), none⟩,
  ⟨(some 7), (.call 182 [(.t 6)]), none⟩,
  ⟨(some 3), (.mov (.t 7)), none⟩])
 (.seq (.kill [3] 0) (.seq (.region [
  ⟨(some 4), (.mov (.c (.c .nils))), none⟩])
 (.seq (.kill [3, 4] 0) (.seq (.seq (.region [
  ⟨(some 8), (.mov (.t 3)), none⟩,
  ⟨(some 9), (.len .sl (.t 8)), none⟩,
  ⟨(some 10), (.bin .sub .num (.t 9) (.c (.c (.int .i64 1)))), none⟩,
  ⟨(some 5), (.mov (.t 10)), none⟩])
 (.seq (.kill [3, 4, 5] 0) (.block 0 (.loop (.seq (.kill [3, 4, 5] 0) (.seq (.seq (.region [
   ⟨(some 11), (.mov (.t 5)), none⟩,
   ⟨(some 12), (.bin .geq .num (.t 11) (.c (.c (.int .i64 0)))), none⟩])
  (.seq (.kill [3, 4, 5, 12] 0) (.cond (.t 12)
  (.skip)
  (.exit 0))))
  (.seq (.kill [3, 4, 5] 0) (.seq (.block 1 (.region [
   ⟨(some 15), (.mov (.t 4)), none⟩,
   ⟨(some 16), (.mov (.t 3)), none⟩,
   ⟨(some 17), (.mov (.t 5)), none⟩,
   ⟨(some 18), (.iaddr 1 (.t 16) (.t 17)), none⟩,
   ⟨(some 19), (.load none (.t 18)), none⟩,
   ⟨(some 20), (.bslice true 1 1 [(.int .i32 0)] [(0, (1, (.t 19)))]), none⟩,
   ⟨(some 21), (.app 1 4 (.t 15) (.t 20)), none⟩,
   ⟨(some 4), (.mov (.t 21)), none⟩]))
  (.seq (.kill [3, 4, 5] 0) (.region [
   ⟨(some 13), (.mov (.t 5)), none⟩,
   ⟨(some 14), (.bin .sub .num (.t 13) (.c (.c (.int .i64 1)))), none⟩,
   ⟨(some 5), (.mov (.t 14)), none⟩]))))))))))
 (.seq (.kill [4] 0) (.seq (.region [
  ⟨(some 22), (.mov (.t 4)), none⟩,
  ⟨(some 23), (.call 192 [(.t 22)]), none⟩,
  ⟨(some 2), (.mov (.t 23)), none⟩])
 (.ret)))))))))⟩
/-- campanile/label.letter -/
def n189 : NF := ⟨21, [2],
 .seq (.region [
  ⟨(some 2), (.mov (.c (.c (.bool false)))), none⟩])
 (.seq (.kill [0] 0) (.seq (.region [
  ⟨(some 3), (.mov (.t 0)), none⟩,
  ⟨(some 4), (.bin .geq .num (.t 3) (.c (.c (.int .i32 97)))), none⟩,
  ⟨(some 5), (.mov (.t 4)), none⟩,
  ⟨(some 6), (.mov (.t 0)), (some (5, true))⟩,
  ⟨(some 7), (.bin .leq .num (.t 6) (.c (.c (.int .i32 122)))), (some (5, true))⟩,
  ⟨(some 8), (.pick (.t 5) (.t 7) (.c (.c (.bool false)))), none⟩,
  ⟨(some 9), (.mov (.t 8)), none⟩,
  ⟨(some 10), (.mov (.t 0)), (some (9, false))⟩,
  ⟨(some 11), (.bin .geq .num (.t 10) (.c (.c (.int .i32 945)))), (some (9, false))⟩,
  ⟨(some 12), (.mov (.t 11)), (some (9, false))⟩,
  ⟨(some 13), (.mov (.t 0)), (some (12, true))⟩,
  ⟨(some 14), (.bin .leq .num (.t 13) (.c (.c (.int .i32 969)))), (some (12, true))⟩,
  ⟨(some 15), (.pick (.t 12) (.t 14) (.c (.c (.bool false)))), (some (9, false))⟩,
  ⟨(some 16), (.mov (.t 15)), (some (9, false))⟩,
  ⟨(some 17), (.mov (.t 0)), (some (16, true))⟩,
  ⟨(some 18), (.bin .neq .num (.t 17) (.c (.c (.int .i32 962)))), (some (16, true))⟩,
  ⟨(some 19), (.pick (.t 16) (.t 18) (.c (.c (.bool false)))), (some (9, false))⟩,
  ⟨(some 20), (.pick (.t 9) (.c (.c (.bool true))) (.t 19)), none⟩,
  ⟨(some 2), (.mov (.t 20)), none⟩])
 (.ret)))⟩
/-- slices.Reverse[[]rune,rune] -/
def n190 : NF := ⟨28, [],
 .seq (.region [
  ⟨(some 4), (.mov (.t 0)), none⟩,
  ⟨(some 5), (.len .sl (.t 4)), none⟩,
  ⟨(some 6), (.bin .sub .num (.t 5) (.c (.c (.int .i64 1)))), none⟩,
  ⟨(some 2), (.mov (.c (.c (.int .i64 0)))), none⟩,
  ⟨(some 3), (.mov (.t 6)), none⟩])
 (.seq (.kill [0, 2, 3] 0) (.block 0 (.loop (.seq (.kill [0, 2, 3] 0) (.seq (.seq (.region [
   ⟨(some 7), (.mov (.t 2)), none⟩,
   ⟨(some 8), (.mov (.t 3)), none⟩,
   ⟨(some 9), (.bin .lss .num (.t 7) (.t 8)), none⟩])
  (.seq (.kill [0, 2, 3, 9] 0) (.cond (.t 9)
  (.skip)
  (.exit 0))))
  (.seq (.kill [0, 2, 3] 0) (.seq (.block 1 (.draw 0 [
   ⟨0, none, ⟨(some 14), (.mov (.t 0)), none⟩, []⟩,
   ⟨1, none, ⟨(some 15), (.mov (.t 2)), none⟩, []⟩,
   ⟨2, none, ⟨(some 16), (.mov (.t 0)), none⟩, []⟩,
   ⟨3, none, ⟨(some 17), (.mov (.t 3)), none⟩, []⟩,
   ⟨4, none, ⟨(some 18), (.mov (.t 0)), none⟩, []⟩,
   ⟨5, none, ⟨(some 19), (.mov (.t 3)), none⟩, []⟩,
   ⟨6, none, ⟨(some 20), (.iaddr 1 (.t 18) (.t 19)), none⟩, []⟩,
   ⟨7, none, ⟨(some 21), (.load none (.t 20)), none⟩, []⟩,
   ⟨8, none, ⟨(some 22), (.mov (.t 0)), none⟩, []⟩,
   ⟨9, none, ⟨(some 23), (.mov (.t 2)), none⟩, []⟩,
   ⟨10, none, ⟨(some 24), (.iaddr 1 (.t 22) (.t 23)), none⟩, []⟩,
   ⟨11, none, ⟨(some 25), (.load none (.t 24)), none⟩, []⟩,
   ⟨12, none, ⟨(some 26), (.iaddr 1 (.t 14) (.t 15)), none⟩, []⟩,
   ⟨13, none, ⟨none, (.store 1 (.t 26) (.t 21)), none⟩, []⟩,
   ⟨14, none, ⟨(some 27), (.iaddr 1 (.t 16) (.t 17)), none⟩, []⟩,
   ⟨15, none, ⟨none, (.store 1 (.t 27) (.t 25)), none⟩, []⟩]))
  (.seq (.kill [0, 2, 3] 0) (.region [
   ⟨(some 10), (.mov (.t 2)), none⟩,
   ⟨(some 11), (.bin .add .num (.t 10) (.c (.c (.int .i64 1)))), none⟩,
   ⟨(some 12), (.mov (.t 3)), none⟩,
   ⟨(some 13), (.bin .sub .num (.t 12) (.c (.c (.int .i64 1)))), none⟩,
   ⟨(some 2), (.mov (.t 11)), none⟩,
   ⟨(some 3), (.mov (.t 13)), none⟩])))))))))⟩
/-- unicode/utf8.AppendRune -/
def n191 : NF := ⟨16, [4],
 .seq (.region [
  ⟨(some 4), (.mov (.c (.c .nils))), none⟩])
 (.seq (.kill [0, 1] 0) (.seq (.seq (.region [
  ⟨(some 5), (.mov (.t 1)), none⟩,
  ⟨(some 6), (.conv (.toInt .u32) (.t 5)), none⟩,
  ⟨(some 7), (.bin .leq .num (.t 6) (.c (.c (.int .u32 127)))), none⟩])
 (.seq (.kill [0, 1, 7] 0) (.cond (.t 7)
 (.seq (.region [
   ⟨(some 8), (.mov (.t 0)), none⟩,
   ⟨(some 9), (.mov (.t 1)), none⟩,
   ⟨(some 10), (.conv (.toInt .u8) (.t 9)), none⟩,
   ⟨(some 11), (.bslice true 1 1 [(.int .u8 0)] [(0, (1, (.t 10)))]), none⟩,
   ⟨(some 12), (.app 1 1 (.t 8) (.t 11)), none⟩,
   ⟨(some 4), (.mov (.t 12)), none⟩])
  (.ret))
 (.skip))))
 (.seq (.kill [0, 1] 0) (.seq (.region [
  ⟨(some 13), (.mov (.t 0)), none⟩,
  ⟨(some 14), (.mov (.t 1)), none⟩,
  ⟨(some 15), (.call 193 [(.t 13), (.t 14)]), none⟩,
  ⟨(some 4), (.mov (.t 15)), none⟩])
 (.ret)))))⟩
/-- campanile/campanileref1.text -/
def n192 : NF := ⟨18, [2],
 .seq (.region [
  ⟨(some 2), (.mov (.c (.c (.str (bs []))))), none⟩])
 (.seq (.kill [0] 0) (.seq (.region [
  ⟨(some 3), (.mov (.c (.c (.str (bs []))))), none⟩])
 (.seq (.kill [0, 3] 0) (.seq (.seq (.region [
  ⟨(some 6), (.mov (.t 0)), none⟩,
  ⟨(some 7), (.len .sl (.t 6)), none⟩,
  ⟨(some 8), (.mov (.c (.c (.int .i64 0)))), none⟩])
 (.seq (.kill [3, 6, 7, 8] 0) (.block 0 (.loop (.seq (.kill [3, 6, 7, 8] 0) (.seq (.region [
   ⟨(some 9), (.bin .lss .num (.t 8) (.t 7)), none⟩])
  (.seq (.kill [3, 6, 7, 8, 9] 0) (.seq (.cond (.t 9)
  (.skip)
  (.exit 0))
  (.seq (.kill [3, 6, 7, 8] 0) (.seq (.block 1 (.seq (.region [
   ⟨(some 10), (.iaddr 1 (.t 6) (.t 8)), none⟩,
   ⟨(some 11), (.load none (.t 10)), none⟩,
   ⟨(some 5), (.mov (.t 11)), none⟩])
  (.seq (.kill [3, 5, 6, 7, 8] 0) (.region [
   ⟨(some 12), (.mov (.t 3)), none⟩,
   ⟨(some 13), (.mov (.t 5)), none⟩,
   ⟨(some 14), (.conv .intToStr (.t 13)), none⟩,
   ⟨(some 15), (.bin .add .str (.t 12) (.t 14)), none⟩,
   ⟨(some 3), (.mov (.t 15)), none⟩]))))
  (.seq (.kill [3, 6, 7, 8] 0) (.region [
   ⟨(some 16), (.bin .add .num (.t 8) (.c (.c (.int .i64 1)))), none⟩,
   ⟨(some 8), (.mov (.t 16)), none⟩]))))))))))))
 (.seq (.kill [3] 0) (.seq (.region [
  ⟨(some 17), (.mov (.t 3)), none⟩,
  ⟨(some 2), (.mov (.t 17)), none⟩])
 (.ret)))))))⟩
/-- unicode/utf8.appendRuneNonASCII -/
def n193 : NF := ⟨78, [4],
 .seq (.region [
  ⟨(some 4), (.mov (.c (.c .nils))), none⟩])
 (.seq (.kill [0, 1] 0) (.seq (.region [
  ⟨(some 6), (.mov (.t 1)), none⟩,
  ⟨(some 7), (.conv (.toInt .u32) (.t 6)), none⟩,
  ⟨(some 5), (.mov (.t 7)), none⟩])
 (.seq (.kill [0, 1, 5] 0) (.block 0 (.seq (.region [
  ⟨(some 12), (.mov (.t 5)), none⟩,
  ⟨(some 13), (.bin .leq .num (.t 12) (.c (.c (.int .u32 2047)))), none⟩,
  ⟨(some 11), (.mov (.t 13)), none⟩])
 (.seq (.kill [0, 1, 5, 11] 0) (.cond (.t 11)
 (.seq (.region [
   ⟨(some 14), (.mov (.t 0)), none⟩,
   ⟨(some 15), (.mov (.t 1)), none⟩,
   ⟨(some 16), (.bin .shr .num (.t 15) (.c (.c (.int .u64 6)))), none⟩,
   ⟨(some 17), (.conv (.toInt .u8) (.t 16)), none⟩,
   ⟨(some 18), (.bin .or .num (.c (.c (.int .u8 192))) (.t 17)), none⟩,
   ⟨(some 19), (.mov (.t 1)), none⟩,
   ⟨(some 20), (.conv (.toInt .u8) (.t 19)), none⟩,
   ⟨(some 21), (.bin .and .num (.t 20) (.c (.c (.int .u8 63)))), none⟩,
   ⟨(some 22), (.bin .or .num (.c (.c (.int .u8 128))) (.t 21)), none⟩,
   ⟨(some 23), (.bslice true 1 2 [(.int .u8 0)] [(0, (1, (.t 18))), (1, (1, (.t 22)))]), none⟩,
   ⟨(some 24), (.app 1 1 (.t 14) (.t 23)), none⟩,
   ⟨(some 4), (.mov (.t 24)), none⟩])
  (.ret))
 (.seq (.seq (.region [
   ⟨(some 26), (.mov (.t 5)), none⟩,
   ⟨(some 27), (.bin .lss .num (.t 26) (.c (.c (.int .u32 55296)))), none⟩,
   ⟨(some 25), (.mov (.t 27)), none⟩])
  (.seq (.kill [0, 1, 5, 25] 0) (.cond (.t 25)
  (.skip)
  (.region [
    ⟨(some 28), (.mov (.t 5)), none⟩,
    ⟨(some 29), (.bin .lss .num (.c (.c (.int .u32 57343))) (.t 28)), none⟩,
    ⟨(some 30), (.mov (.t 29)), none⟩,
    ⟨(some 31), (.mov (.t 5)), (some (30, true))⟩,
    ⟨(some 32), (.bin .leq .num (.t 31) (.c (.c (.int .u32 65535)))), (some (30, true))⟩,
    ⟨(some 33), (.pick (.t 30) (.t 32) (.c (.c (.bool false)))), none⟩,
    ⟨(some 25), (.mov (.t 33)), none⟩]))))
  (.seq (.kill [0, 1, 5, 25] 0) (.cond (.t 25)
  (.seq (.region [
    ⟨(some 34), (.mov (.t 0)), none⟩,
    ⟨(some 35), (.mov (.t 1)), none⟩,
    ⟨(some 36), (.bin .shr .num (.t 35) (.c (.c (.int .u64 12)))), none⟩,
    ⟨(some 37), (.conv (.toInt .u8) (.t 36)), none⟩,
    ⟨(some 38), (.bin .or .num (.c (.c (.int .u8 224))) (.t 37)), none⟩,
    ⟨(some 39), (.mov (.t 1)), none⟩,
    ⟨(some 40), (.bin .shr .num (.t 39) (.c (.c (.int .u64 6)))), none⟩,
    ⟨(some 41), (.conv (.toInt .u8) (.t 40)), none⟩,
    ⟨(some 42), (.bin .and .num (.t 41) (.c (.c (.int .u8 63)))), none⟩,
    ⟨(some 43), (.bin .or .num (.c (.c (.int .u8 128))) (.t 42)), none⟩,
    ⟨(some 44), (.mov (.t 1)), none⟩,
    ⟨(some 45), (.conv (.toInt .u8) (.t 44)), none⟩,
    ⟨(some 46), (.bin .and .num (.t 45) (.c (.c (.int .u8 63)))), none⟩,
    ⟨(some 47), (.bin .or .num (.c (.c (.int .u8 128))) (.t 46)), none⟩,
    ⟨(some 48), (.bslice true 1 3 [(.int .u8 0)] [(0, (1, (.t 38))), (1, (1, (.t 43))), (2, (1, (.t 47)))]), none⟩,
    ⟨(some 49), (.app 1 1 (.t 34) (.t 48)), none⟩,
    ⟨(some 4), (.mov (.t 49)), none⟩])
   (.ret))
  (.seq (.region [
    ⟨(some 51), (.mov (.t 5)), none⟩,
    ⟨(some 52), (.bin .gtr .num (.t 51) (.c (.c (.int .u32 65535)))), none⟩,
    ⟨(some 53), (.mov (.t 52)), none⟩,
    ⟨(some 54), (.mov (.t 5)), (some (53, true))⟩,
    ⟨(some 55), (.bin .leq .num (.t 54) (.c (.c (.int .u32 1114111)))), (some (53, true))⟩,
    ⟨(some 56), (.pick (.t 53) (.t 55) (.c (.c (.bool false)))), none⟩,
    ⟨(some 50), (.mov (.t 56)), none⟩])
   (.seq (.kill [0, 1, 50] 0) (.cond (.t 50)
   (.seq (.region [
     ⟨(some 57), (.mov (.t 0)), none⟩,
     ⟨(some 58), (.mov (.t 1)), none⟩,
     ⟨(some 59), (.bin .shr .num (.t 58) (.c (.c (.int .u64 18)))), none⟩,
     ⟨(some 60), (.conv (.toInt .u8) (.t 59)), none⟩,
     ⟨(some 61), (.bin .or .num (.c (.c (.int .u8 240))) (.t 60)), none⟩,
     ⟨(some 62), (.mov (.t 1)), none⟩,
     ⟨(some 63), (.bin .shr .num (.t 62) (.c (.c (.int .u64 12)))), none⟩,
     ⟨(some 64), (.conv (.toInt .u8) (.t 63)), none⟩,
     ⟨(some 65), (.bin .and .num (.t 64) (.c (.c (.int .u8 63)))), none⟩,
     ⟨(some 66), (.bin .or .num (.c (.c (.int .u8 128))) (.t 65)), none⟩,
     ⟨(some 67), (.mov (.t 1)), none⟩,
     ⟨(some 68), (.bin .shr .num (.t 67) (.c (.c (.int .u64 6)))), none⟩,
     ⟨(some 69), (.conv (.toInt .u8) (.t 68)), none⟩,
     ⟨(some 70), (.bin .and .num (.t 69) (.c (.c (.int .u8 63)))), none⟩,
     ⟨(some 71), (.bin .or .num (.c (.c (.int .u8 128))) (.t 70)), none⟩,
     ⟨(some 72), (.mov (.t 1)), none⟩,
     ⟨(some 73), (.conv (.toInt .u8) (.t 72)), none⟩,
     ⟨(some 74), (.bin .and .num (.t 73) (.c (.c (.int .u8 63)))), none⟩,
     ⟨(some 75), (.bin .or .num (.c (.c (.int .u8 128))) (.t 74)), none⟩,
     ⟨(some 76), (.bslice true 1 4 [(.int .u8 0)] [(0, (1, (.t 61))), (1, (1, (.t 66))), (2, (1, (.t 71))), (3, (1, (.t 75)))]), none⟩,
     ⟨(some 77), (.app 1 1 (.t 57) (.t 76)), none⟩,
     ⟨(some 4), (.mov (.t 77)), none⟩])
    (.ret))
   (.seq (.region [
     ⟨(some 8), (.mov (.t 0)), none⟩,
     ⟨(some 9), (.bslice true 1 3 [(.int .u8 0)] [(0, (1, (.c (.c (.int .u8 239))))), (1, (1, (.c (.c (.int .u8 191))))), (2, (1, (.c (.c (.int .u8 189)))))]), none⟩,
     ⟨(some 10), (.app 1 1 (.t 8) (.t 9)), none⟩,
     ⟨(some 4), (.mov (.t 10)), none⟩])
    (.ret)))))))))))))))⟩
def N : Nat → Option NF
  | 170 => some n170
  | 171 => some n171
  | 172 => some n172
  | 173 => some n173
  | 174 => some n174
  | 175 => some n175
  | 176 => some n176
  | 177 => some n177
  | 178 => some n178
  | 179 => some n179
  | 180 => some n180
  | 181 => some n181
  | 182 => some n182
  | 183 => some n183
  | 184 => some n184
  | 185 => some n185
  | 186 => some n186
  | 187 => some n187
  | 188 => some n188
  | 189 => some n189
  | 190 => some n190
  | 191 => some n191
  | 192 => some n192
  | 193 => some n193
  | _ => none
end Camp
