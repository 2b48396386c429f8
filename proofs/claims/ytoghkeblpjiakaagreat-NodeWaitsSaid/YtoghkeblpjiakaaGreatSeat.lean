/- The seat's program is what the machine runs. Printed by a program of mine (seatgen.py). -/
import Derived.Test.YtoghkeblpjiakaaGreatCode
import Derived.Test.YtoghkeblpjiakaaGreatProg
set_option linter.unnecessarySimpa false
set_option linter.unusedVariables false
set_option linter.unusedSimpArgs false
set_option linter.unusedSectionVars false
namespace Camp.S
open Go Go.Proofs
def tbl:List Nat:=[1000000,1000000,1000000,433,259,260,343,434,265,341,345,347,312,13,346,258,266,267,268,203,269,270,271,272,375,273,376,390,380,384,1000000,274,1000000,435,387,382,56,1000000,1000000,1000000,1000000,372,66,64,262,264,288,394,395,396,397,398,399,298,336,53,403,58,404,60,280,295,1000000,287,436,301,402,74,76,75,1000000,1000000,388,278,277,279,282,283,284,285,286,305,386,300,406,408,407,409,410,411,315,316,317,330,318,73,77,78,79,80,62,414,415,299,290,291,292,1000000,1000000,1000000,1000000,1000000,1000000,44,303,304,437,325,83,82,84,313,1000000,1000000,1000000,1000000,294,296,297,302,327,324,293,309,422,423,320,424,425,329,335,334,85,86,46,319,338,1000000,1000000,1000000,1000000,1000000,326,87,1000000,1000000,1000000,1000000,1000000,93,1000000,1000000,1000000,97,98,1000000,1000000,311,310,314,337,99,1000000,1000000,1000000,1000000,1000000,1000000,1000000,47,328,1000000,1000000,1000000,1000000,1000000,1000000,1000000,1000000,1000000,1000000,1000000,1000000,1000000,1000000,1000000,1000000,1000000,1000000,1000000,1000000,1000000,1000000,1000000,1000000,1000000,1000000,1000000,1000000,1000000,1000000,1000000,1000000,1000000,1000000,331,321,332,322,333,323,339,1000000]
abbrev rn:FuncId→Nat:=rnOf tbl
theorem c433:CFn Tryz.prog rn (DJ Tryz.prog rn) Tryz.f3 n433:=cfn_ok [9] (by kernel_rfl) (by kernel_rfl) (by kernel_rfl) (by kernel_rfl)
theorem c259:CFnC Tryz.prog rn (DJ Tryz.prog rn) Tryz.f4 n259:=cfn_cell [17] [] [] 14 25 (some 9) (by kernel_rfl) (by kernel_rfl) (by kernel_rfl) (by decide) (by decide) (by kernel_rfl) (by kernel_rfl)
theorem c260:CFn Tryz.prog rn (DJ Tryz.prog rn) Tryz.f5 n260:=cfn_ok [2] (by kernel_rfl) (by kernel_rfl) (by kernel_rfl) (by kernel_rfl)
theorem c343:CFn Tryz.prog rn (DJ Tryz.prog rn) Tryz.f6 n343:=cfn_ok [10] (by kernel_rfl) (by kernel_rfl) (by kernel_rfl) (by kernel_rfl)
theorem c434:CFn Tryz.prog rn (DJ Tryz.prog rn) Tryz.f7 n434:=cfn_ok [] (by kernel_rfl) (by kernel_rfl) (by kernel_rfl) (by kernel_rfl)
theorem c265:CFn Tryz.prog rn (DJ Tryz.prog rn) Tryz.f8 n265:=cfn_ok [] (by kernel_rfl) (by kernel_rfl) (by kernel_rfl) (by kernel_rfl)
theorem c341:CFn Tryz.prog rn (DJ Tryz.prog rn) Tryz.f9 n341:=cfn_ok [] (by kernel_rfl) (by kernel_rfl) (by kernel_rfl) (by kernel_rfl)
theorem c345:CFn Tryz.prog rn (DJ Tryz.prog rn) Tryz.f10 n345:=cfn_ok [6] (by kernel_rfl) (by kernel_rfl) (by kernel_rfl) (by kernel_rfl)
theorem c347:CFn Tryz.prog rn (DJ Tryz.prog rn) Tryz.f11 n347:=cfn_ok [] (by kernel_rfl) (by kernel_rfl) (by kernel_rfl) (by kernel_rfl)
theorem c312:CFn Tryz.prog rn (DJ Tryz.prog rn) Tryz.f12 n312:=cfn_ok [] (by kernel_rfl) (by kernel_rfl) (by kernel_rfl) (by kernel_rfl)
theorem c13:CFn Tryz.prog rn (DJ Tryz.prog rn) Tryz.f13 n13:=cfn_ok [] (by kernel_rfl) (by kernel_rfl) (by kernel_rfl) (by kernel_rfl)
theorem c346:CFn Tryz.prog rn (DJ Tryz.prog rn) Tryz.f14 n346:=cfn_ok [] (by kernel_rfl) (by kernel_rfl) (by kernel_rfl) (by kernel_rfl)
theorem c258:CFn Tryz.prog rn (DJ Tryz.prog rn) Tryz.f15 n258:=cfn_ok [4] (by kernel_rfl) (by kernel_rfl) (by kernel_rfl) (by kernel_rfl)
theorem c266:CFn Tryz.prog rn (DJ Tryz.prog rn) Tryz.f16 n266:=cfn_ok [1] (by kernel_rfl) (by kernel_rfl) (by kernel_rfl) (by kernel_rfl)
theorem c267:CFn Tryz.prog rn (DJ Tryz.prog rn) Tryz.f17 n267:=cfn_ok [] (by kernel_rfl) (by kernel_rfl) (by kernel_rfl) (by kernel_rfl)
theorem c268:CFn Tryz.prog rn (DJ Tryz.prog rn) Tryz.f18 n268:=cfn_ok [] (by kernel_rfl) (by kernel_rfl) (by kernel_rfl) (by kernel_rfl)
theorem c203:CFn Tryz.prog rn (DJ Tryz.prog rn) Tryz.f19 n203:=cfn_ok [] (by kernel_rfl) (by kernel_rfl) (by kernel_rfl) (by kernel_rfl)
theorem c269:CFn Tryz.prog rn (DJ Tryz.prog rn) Tryz.f20 n269:=cfn_ok [] (by kernel_rfl) (by kernel_rfl) (by kernel_rfl) (by kernel_rfl)
theorem c270:CFn Tryz.prog rn (DJ Tryz.prog rn) Tryz.f21 n270:=cfn_ok [] (by kernel_rfl) (by kernel_rfl) (by kernel_rfl) (by kernel_rfl)
theorem c271:CFn Tryz.prog rn (DJ Tryz.prog rn) Tryz.f22 n271:=cfn_ok [] (by kernel_rfl) (by kernel_rfl) (by kernel_rfl) (by kernel_rfl)
theorem c272:CFn Tryz.prog rn (DJ Tryz.prog rn) Tryz.f23 n272:=cfn_ok [] (by kernel_rfl) (by kernel_rfl) (by kernel_rfl) (by kernel_rfl)
theorem c375:CFnC Tryz.prog rn (DJ Tryz.prog rn) Tryz.f24 n375:=cfn_cell [6] [] [3] 2 63 (some 6) (by kernel_rfl) (by kernel_rfl) (by kernel_rfl) (by decide) (by decide) (by kernel_rfl) (by kernel_rfl)
theorem c273:CFn Tryz.prog rn (DJ Tryz.prog rn) Tryz.f25 n273:=cfn_ok [] (by kernel_rfl) (by kernel_rfl) (by kernel_rfl) (by kernel_rfl)
theorem c376:CFn Tryz.prog rn (DJ Tryz.prog rn) Tryz.f26 n376:=cfn_ok [2,6] (by kernel_rfl) (by kernel_rfl) (by kernel_rfl) (by kernel_rfl)
theorem c390:CFn Tryz.prog rn (DJ Tryz.prog rn) Tryz.f27 n390:=cfn_ok [6] (by kernel_rfl) (by kernel_rfl) (by kernel_rfl) (by kernel_rfl)
theorem c380:CFn Tryz.prog rn (DJ Tryz.prog rn) Tryz.f28 n380:=cfn_ok [] (by kernel_rfl) (by kernel_rfl) (by kernel_rfl) (by kernel_rfl)
theorem c384:CFn Tryz.prog rn (DJ Tryz.prog rn) Tryz.f29 n384:=cfn_ok [] (by kernel_rfl) (by kernel_rfl) (by kernel_rfl) (by kernel_rfl)
theorem c274:CFn Tryz.prog rn (DJ Tryz.prog rn) Tryz.f31 n274:=cfn_ok [] (by kernel_rfl) (by kernel_rfl) (by kernel_rfl) (by kernel_rfl)
theorem c435:CFn Tryz.prog rn (DJ Tryz.prog rn) Tryz.f33 n435:=cfn_ok [1] (by kernel_rfl) (by kernel_rfl) (by kernel_rfl) (by kernel_rfl)
theorem c387:CFn Tryz.prog rn (DJ Tryz.prog rn) Tryz.f34 n387:=cfn_ok [] (by kernel_rfl) (by kernel_rfl) (by kernel_rfl) (by kernel_rfl)
theorem c382:CFn Tryz.prog rn (DJ Tryz.prog rn) Tryz.f35 n382:=cfn_ok [] (by kernel_rfl) (by kernel_rfl) (by kernel_rfl) (by kernel_rfl)
theorem c56:CFn Tryz.prog rn (DJ Tryz.prog rn) Tryz.f36 n56:=cfn_ok [10,37] (by kernel_rfl) (by kernel_rfl) (by kernel_rfl) (by kernel_rfl)
theorem c372:CFn Tryz.prog rn (DJ Tryz.prog rn) Tryz.f41 n372:=cfn_ok [] (by kernel_rfl) (by kernel_rfl) (by kernel_rfl) (by kernel_rfl)
theorem c66:CFn Tryz.prog rn (DJ Tryz.prog rn) Tryz.f42 n66:=cfn_ok [] (by kernel_rfl) (by kernel_rfl) (by kernel_rfl) (by kernel_rfl)
theorem c64:CFn Tryz.prog rn (DJ Tryz.prog rn) Tryz.f43 n64:=cfn_ok [5,20] (by kernel_rfl) (by kernel_rfl) (by kernel_rfl) (by kernel_rfl)
theorem c262:CFn Tryz.prog rn (DJ Tryz.prog rn) Tryz.f44 n262:=cfn_ok [7] (by kernel_rfl) (by kernel_rfl) (by kernel_rfl) (by kernel_rfl)
theorem c264:CFnC Tryz.prog rn (DJ Tryz.prog rn) Tryz.f45 n264:=cfn_cell [4,7] [] [3] 2 63 (some 6) (by kernel_rfl) (by kernel_rfl) (by kernel_rfl) (by decide) (by decide) (by kernel_rfl) (by kernel_rfl)
theorem c288:CFn Tryz.prog rn (DJ Tryz.prog rn) Tryz.f46 n288:=cfn_ok [] (by kernel_rfl) (by kernel_rfl) (by kernel_rfl) (by kernel_rfl)
theorem c394:CFn Tryz.prog rn (DJ Tryz.prog rn) Tryz.f47 n394:=cfn_ok [] (by kernel_rfl) (by kernel_rfl) (by kernel_rfl) (by kernel_rfl)
theorem c395:CFn Tryz.prog rn (DJ Tryz.prog rn) Tryz.f48 n395:=cfn_ok [] (by kernel_rfl) (by kernel_rfl) (by kernel_rfl) (by kernel_rfl)
theorem c396:CFn Tryz.prog rn (DJ Tryz.prog rn) Tryz.f49 n396:=cfn_ok [] (by kernel_rfl) (by kernel_rfl) (by kernel_rfl) (by kernel_rfl)
theorem c397:CFn Tryz.prog rn (DJ Tryz.prog rn) Tryz.f50 n397:=cfn_ok [27] (by kernel_rfl) (by kernel_rfl) (by kernel_rfl) (by kernel_rfl)
theorem c398:CFn Tryz.prog rn (DJ Tryz.prog rn) Tryz.f51 n398:=cfn_ok [] (by kernel_rfl) (by kernel_rfl) (by kernel_rfl) (by kernel_rfl)
theorem c399:CFn Tryz.prog rn (DJ Tryz.prog rn) Tryz.f52 n399:=cfn_ok [7,32] (by kernel_rfl) (by kernel_rfl) (by kernel_rfl) (by kernel_rfl)
theorem c298:CFn Tryz.prog rn (DJ Tryz.prog rn) Tryz.f53 n298:=cfn_ok [1] (by kernel_rfl) (by kernel_rfl) (by kernel_rfl) (by kernel_rfl)
theorem c336:CFnC Tryz.prog rn (DJ Tryz.prog rn) Tryz.f54 n336:=cfn_cell [7] [] [5] 4 83 (some 5) (by kernel_rfl) (by kernel_rfl) (by kernel_rfl) (by decide) (by decide) (by kernel_rfl) (by kernel_rfl)
theorem c53:CFn Tryz.prog rn (DJ Tryz.prog rn) Tryz.f55 n53:=cfn_ok [] (by kernel_rfl) (by kernel_rfl) (by kernel_rfl) (by kernel_rfl)
theorem c403:CFn Tryz.prog rn (DJ Tryz.prog rn) Tryz.f56 n403:=cfn_ok [] (by kernel_rfl) (by kernel_rfl) (by kernel_rfl) (by kernel_rfl)
theorem c58:CFn Tryz.prog rn (DJ Tryz.prog rn) Tryz.f57 n58:=cfn_ok [] (by kernel_rfl) (by kernel_rfl) (by kernel_rfl) (by kernel_rfl)
theorem c404:CFn Tryz.prog rn (DJ Tryz.prog rn) Tryz.f58 n404:=cfn_ok [] (by kernel_rfl) (by kernel_rfl) (by kernel_rfl) (by kernel_rfl)
theorem c60:CFn Tryz.prog rn (DJ Tryz.prog rn) Tryz.f59 n60:=cfn_ok [] (by kernel_rfl) (by kernel_rfl) (by kernel_rfl) (by kernel_rfl)
theorem c280:CFn Tryz.prog rn (DJ Tryz.prog rn) Tryz.f60 n280:=cfn_ok [1] (by kernel_rfl) (by kernel_rfl) (by kernel_rfl) (by kernel_rfl)
theorem c295:CFnC Tryz.prog rn (DJ Tryz.prog rn) Tryz.f61 n295:=cfn_cell [] [] [] 4 83 (some 5) (by kernel_rfl) (by kernel_rfl) (by kernel_rfl) (by decide) (by decide) (by kernel_rfl) (by kernel_rfl)
theorem c287:CFn Tryz.prog rn (DJ Tryz.prog rn) Tryz.f63 n287:=cfn_ok [1,4,5] (by kernel_rfl) (by kernel_rfl) (by kernel_rfl) (by kernel_rfl)
theorem c436:CFn Tryz.prog rn (DJ Tryz.prog rn) Tryz.f64 n436:=cfn_ok [6,38,65] (by kernel_rfl) (by kernel_rfl) (by kernel_rfl) (by kernel_rfl)
theorem c301:CFn Tryz.prog rn (DJ Tryz.prog rn) Tryz.f65 n301:=cfn_ok [13] (by kernel_rfl) (by kernel_rfl) (by kernel_rfl) (by kernel_rfl)
theorem c402:CFn Tryz.prog rn (DJ Tryz.prog rn) Tryz.f66 n402:=cfn_ok [] (by kernel_rfl) (by kernel_rfl) (by kernel_rfl) (by kernel_rfl)
theorem c74:CFn Tryz.prog rn (DJ Tryz.prog rn) Tryz.f67 n74:=cfn_ok [] (by kernel_rfl) (by kernel_rfl) (by kernel_rfl) (by kernel_rfl)
theorem c76:CFn Tryz.prog rn (DJ Tryz.prog rn) Tryz.f68 n76:=cfn_ok [] (by kernel_rfl) (by kernel_rfl) (by kernel_rfl) (by kernel_rfl)
theorem c75:CFn Tryz.prog rn (DJ Tryz.prog rn) Tryz.f69 n75:=cfn_ok [2] (by kernel_rfl) (by kernel_rfl) (by kernel_rfl) (by kernel_rfl)
theorem c388:CFn Tryz.prog rn (DJ Tryz.prog rn) Tryz.f72 n388:=cfn_ok [] (by kernel_rfl) (by kernel_rfl) (by kernel_rfl) (by kernel_rfl)
theorem c278:CFn Tryz.prog rn (DJ Tryz.prog rn) Tryz.f73 n278:=cfn_ok [] (by kernel_rfl) (by kernel_rfl) (by kernel_rfl) (by kernel_rfl)
theorem c277:CFn Tryz.prog rn (DJ Tryz.prog rn) Tryz.f74 n277:=cfn_ok [] (by kernel_rfl) (by kernel_rfl) (by kernel_rfl) (by kernel_rfl)
theorem c279:CFnC Tryz.prog rn (DJ Tryz.prog rn) Tryz.f75 n279:=cfn_cell [] [] [] 4 63 (some 6) (by kernel_rfl) (by kernel_rfl) (by kernel_rfl) (by decide) (by decide) (by kernel_rfl) (by kernel_rfl)
theorem c282:CFn Tryz.prog rn (DJ Tryz.prog rn) Tryz.f76 n282:=cfn_ok [] (by kernel_rfl) (by kernel_rfl) (by kernel_rfl) (by kernel_rfl)
theorem c283:CFn Tryz.prog rn (DJ Tryz.prog rn) Tryz.f77 n283:=cfn_ok [] (by kernel_rfl) (by kernel_rfl) (by kernel_rfl) (by kernel_rfl)
theorem c284:CFn Tryz.prog rn (DJ Tryz.prog rn) Tryz.f78 n284:=cfn_ok [] (by kernel_rfl) (by kernel_rfl) (by kernel_rfl) (by kernel_rfl)
theorem c285:CFn Tryz.prog rn (DJ Tryz.prog rn) Tryz.f79 n285:=cfn_ok [] (by kernel_rfl) (by kernel_rfl) (by kernel_rfl) (by kernel_rfl)
theorem c286:CFn Tryz.prog rn (DJ Tryz.prog rn) Tryz.f80 n286:=cfn_ok [7,101,123] (by kernel_rfl) (by kernel_rfl) (by kernel_rfl) (by kernel_rfl)
theorem c305:CFn Tryz.prog rn (DJ Tryz.prog rn) Tryz.f81 n305:=cfn_ok [] (by kernel_rfl) (by kernel_rfl) (by kernel_rfl) (by kernel_rfl)
theorem c386:CFn Tryz.prog rn (DJ Tryz.prog rn) Tryz.f82 n386:=cfn_ok [] (by kernel_rfl) (by kernel_rfl) (by kernel_rfl) (by kernel_rfl)
theorem c300:CFn Tryz.prog rn (DJ Tryz.prog rn) Tryz.f83 n300:=cfn_ok [13] (by kernel_rfl) (by kernel_rfl) (by kernel_rfl) (by kernel_rfl)
theorem c406:CFn Tryz.prog rn (DJ Tryz.prog rn) Tryz.f84 n406:=cfn_ok [] (by kernel_rfl) (by kernel_rfl) (by kernel_rfl) (by kernel_rfl)
theorem c408:CFn Tryz.prog rn (DJ Tryz.prog rn) Tryz.f85 n408:=cfn_ok [] (by kernel_rfl) (by kernel_rfl) (by kernel_rfl) (by kernel_rfl)
theorem c407:CFn Tryz.prog rn (DJ Tryz.prog rn) Tryz.f86 n407:=cfn_ok [] (by kernel_rfl) (by kernel_rfl) (by kernel_rfl) (by kernel_rfl)
theorem c409:CFn Tryz.prog rn (DJ Tryz.prog rn) Tryz.f87 n409:=cfn_ok [] (by kernel_rfl) (by kernel_rfl) (by kernel_rfl) (by kernel_rfl)
theorem c410:CFn Tryz.prog rn (DJ Tryz.prog rn) Tryz.f88 n410:=cfn_ok [] (by kernel_rfl) (by kernel_rfl) (by kernel_rfl) (by kernel_rfl)
theorem c411:CFnC Tryz.prog rn (DJ Tryz.prog rn) Tryz.f89 n411:=cfn_cell [6] [] [3] 2 83 (some 5) (by kernel_rfl) (by kernel_rfl) (by kernel_rfl) (by decide) (by decide) (by kernel_rfl) (by kernel_rfl)
theorem c315:CFn Tryz.prog rn (DJ Tryz.prog rn) Tryz.f90 n315:=cfn_ok [] (by kernel_rfl) (by kernel_rfl) (by kernel_rfl) (by kernel_rfl)
theorem c316:CFn Tryz.prog rn (DJ Tryz.prog rn) Tryz.f91 n316:=cfn_ok [] (by kernel_rfl) (by kernel_rfl) (by kernel_rfl) (by kernel_rfl)
theorem c317:CFn Tryz.prog rn (DJ Tryz.prog rn) Tryz.f92 n317:=cfn_ok [1] (by kernel_rfl) (by kernel_rfl) (by kernel_rfl) (by kernel_rfl)
theorem c330:CFn Tryz.prog rn (DJ Tryz.prog rn) Tryz.f93 n330:=cfn_ok [1] (by kernel_rfl) (by kernel_rfl) (by kernel_rfl) (by kernel_rfl)
theorem c318:CFn Tryz.prog rn (DJ Tryz.prog rn) Tryz.f94 n318:=cfn_ok [1,3] (by kernel_rfl) (by kernel_rfl) (by kernel_rfl) (by kernel_rfl)
theorem c73:CFn Tryz.prog rn (DJ Tryz.prog rn) Tryz.f95 n73:=cfn_ok [] (by kernel_rfl) (by kernel_rfl) (by kernel_rfl) (by kernel_rfl)
theorem c77:CFn Tryz.prog rn (DJ Tryz.prog rn) Tryz.f96 n77:=cfn_ok [2] (by kernel_rfl) (by kernel_rfl) (by kernel_rfl) (by kernel_rfl)
theorem c78:CFn Tryz.prog rn (DJ Tryz.prog rn) Tryz.f97 n78:=cfn_ok [] (by kernel_rfl) (by kernel_rfl) (by kernel_rfl) (by kernel_rfl)
theorem c79:CFn Tryz.prog rn (DJ Tryz.prog rn) Tryz.f98 n79:=cfn_ok [2,3] (by kernel_rfl) (by kernel_rfl) (by kernel_rfl) (by kernel_rfl)
theorem c80:CFn Tryz.prog rn (DJ Tryz.prog rn) Tryz.f99 n80:=cfn_ok [2] (by kernel_rfl) (by kernel_rfl) (by kernel_rfl) (by kernel_rfl)
theorem c62:CFn Tryz.prog rn (DJ Tryz.prog rn) Tryz.f100 n62:=cfn_ok [7] (by kernel_rfl) (by kernel_rfl) (by kernel_rfl) (by kernel_rfl)
theorem c414:CFn Tryz.prog rn (DJ Tryz.prog rn) Tryz.f101 n414:=cfn_ok [] (by kernel_rfl) (by kernel_rfl) (by kernel_rfl) (by kernel_rfl)
theorem c415:CFn Tryz.prog rn (DJ Tryz.prog rn) Tryz.f102 n415:=cfn_ok [] (by kernel_rfl) (by kernel_rfl) (by kernel_rfl) (by kernel_rfl)
theorem c299:CFn Tryz.prog rn (DJ Tryz.prog rn) Tryz.f103 n299:=cfn_ok [6] (by kernel_rfl) (by kernel_rfl) (by kernel_rfl) (by kernel_rfl)
theorem c290:CFn Tryz.prog rn (DJ Tryz.prog rn) Tryz.f104 n290:=cfn_ok [31] (by kernel_rfl) (by kernel_rfl) (by kernel_rfl) (by kernel_rfl)
theorem c291:CFn Tryz.prog rn (DJ Tryz.prog rn) Tryz.f105 n291:=cfn_ok [] (by kernel_rfl) (by kernel_rfl) (by kernel_rfl) (by kernel_rfl)
theorem c292:CFn Tryz.prog rn (DJ Tryz.prog rn) Tryz.f106 n292:=cfn_ok [] (by kernel_rfl) (by kernel_rfl) (by kernel_rfl) (by kernel_rfl)
theorem c44:CFn Tryz.prog rn (DJ Tryz.prog rn) Tryz.f113 n44:=cfn_ok [] (by kernel_rfl) (by kernel_rfl) (by kernel_rfl) (by kernel_rfl)
theorem c303:CFn Tryz.prog rn (DJ Tryz.prog rn) Tryz.f114 n303:=cfn_ok [1] (by kernel_rfl) (by kernel_rfl) (by kernel_rfl) (by kernel_rfl)
theorem c304:CFnC Tryz.prog rn (DJ Tryz.prog rn) Tryz.f115 n304:=cfn_cell [7] [] [5] 4 83 (some 5) (by kernel_rfl) (by kernel_rfl) (by kernel_rfl) (by decide) (by decide) (by kernel_rfl) (by kernel_rfl)
theorem c437:CFn Tryz.prog rn (DJ Tryz.prog rn) Tryz.f116 n437:=cfn_ok [20] (by kernel_rfl) (by kernel_rfl) (by kernel_rfl) (by kernel_rfl)
theorem c325:CFn Tryz.prog rn (DJ Tryz.prog rn) Tryz.f117 n325:=cfn_ok [] (by kernel_rfl) (by kernel_rfl) (by kernel_rfl) (by kernel_rfl)
theorem c83:CFn Tryz.prog rn (DJ Tryz.prog rn) Tryz.f118 n83:=cfn_ok [] (by kernel_rfl) (by kernel_rfl) (by kernel_rfl) (by kernel_rfl)
theorem c82:CFn Tryz.prog rn (DJ Tryz.prog rn) Tryz.f119 n82:=cfn_ok [] (by kernel_rfl) (by kernel_rfl) (by kernel_rfl) (by kernel_rfl)
theorem c84:CFn Tryz.prog rn (DJ Tryz.prog rn) Tryz.f120 n84:=cfn_ok [7] (by kernel_rfl) (by kernel_rfl) (by kernel_rfl) (by kernel_rfl)
theorem c313:CFn Tryz.prog rn (DJ Tryz.prog rn) Tryz.f121 n313:=cfn_ok [] (by kernel_rfl) (by kernel_rfl) (by kernel_rfl) (by kernel_rfl)
theorem c294:CFn Tryz.prog rn (DJ Tryz.prog rn) Tryz.f126 n294:=cfn_ok [] (by kernel_rfl) (by kernel_rfl) (by kernel_rfl) (by kernel_rfl)
theorem c296:CFn Tryz.prog rn (DJ Tryz.prog rn) Tryz.f127 n296:=cfn_ok [] (by kernel_rfl) (by kernel_rfl) (by kernel_rfl) (by kernel_rfl)
theorem c297:CFn Tryz.prog rn (DJ Tryz.prog rn) Tryz.f128 n297:=cfn_ok [] (by kernel_rfl) (by kernel_rfl) (by kernel_rfl) (by kernel_rfl)
theorem c302:CFn Tryz.prog rn (DJ Tryz.prog rn) Tryz.f129 n302:=cfn_ok [] (by kernel_rfl) (by kernel_rfl) (by kernel_rfl) (by kernel_rfl)
theorem c327:CFn Tryz.prog rn (DJ Tryz.prog rn) Tryz.f130 n327:=cfn_ok [] (by kernel_rfl) (by kernel_rfl) (by kernel_rfl) (by kernel_rfl)
theorem c324:CFn Tryz.prog rn (DJ Tryz.prog rn) Tryz.f131 n324:=cfn_ok [] (by kernel_rfl) (by kernel_rfl) (by kernel_rfl) (by kernel_rfl)
theorem c293:CFn Tryz.prog rn (DJ Tryz.prog rn) Tryz.f132 n293:=cfn_ok [] (by kernel_rfl) (by kernel_rfl) (by kernel_rfl) (by kernel_rfl)
theorem c309:CFn Tryz.prog rn (DJ Tryz.prog rn) Tryz.f133 n309:=cfn_ok [] (by kernel_rfl) (by kernel_rfl) (by kernel_rfl) (by kernel_rfl)
theorem c422:CFn Tryz.prog rn (DJ Tryz.prog rn) Tryz.f134 n422:=cfn_ok [] (by kernel_rfl) (by kernel_rfl) (by kernel_rfl) (by kernel_rfl)
theorem c423:CFn Tryz.prog rn (DJ Tryz.prog rn) Tryz.f135 n423:=cfn_ok [] (by kernel_rfl) (by kernel_rfl) (by kernel_rfl) (by kernel_rfl)
theorem c320:CFn Tryz.prog rn (DJ Tryz.prog rn) Tryz.f136 n320:=cfn_ok [1] (by kernel_rfl) (by kernel_rfl) (by kernel_rfl) (by kernel_rfl)
theorem c424:CFn Tryz.prog rn (DJ Tryz.prog rn) Tryz.f137 n424:=cfn_ok [] (by kernel_rfl) (by kernel_rfl) (by kernel_rfl) (by kernel_rfl)
theorem c425:CFnC Tryz.prog rn (DJ Tryz.prog rn) Tryz.f138 n425:=cfn_cell [8,10,59] [] [] 6 83 (some 5) (by kernel_rfl) (by kernel_rfl) (by kernel_rfl) (by decide) (by decide) (by kernel_rfl) (by kernel_rfl)
theorem c329:CFn Tryz.prog rn (DJ Tryz.prog rn) Tryz.f139 n329:=cfn_ok [] (by kernel_rfl) (by kernel_rfl) (by kernel_rfl) (by kernel_rfl)
theorem c335:CFn Tryz.prog rn (DJ Tryz.prog rn) Tryz.f140 n335:=cfn_ok [2,3] (by kernel_rfl) (by kernel_rfl) (by kernel_rfl) (by kernel_rfl)
theorem c334:CFnC Tryz.prog rn (DJ Tryz.prog rn) Tryz.f141 n334:=cfn_cell [5,6,8,10] [] [] 4 83 (some 5) (by kernel_rfl) (by kernel_rfl) (by kernel_rfl) (by decide) (by decide) (by kernel_rfl) (by kernel_rfl)
theorem c85:CFn Tryz.prog rn (DJ Tryz.prog rn) Tryz.f142 n85:=cfn_ok [] (by kernel_rfl) (by kernel_rfl) (by kernel_rfl) (by kernel_rfl)
theorem c86:CFn Tryz.prog rn (DJ Tryz.prog rn) Tryz.f143 n86:=cfn_ok [] (by kernel_rfl) (by kernel_rfl) (by kernel_rfl) (by kernel_rfl)
theorem c46:CFn Tryz.prog rn (DJ Tryz.prog rn) Tryz.f144 n46:=cfn_ok [] (by kernel_rfl) (by kernel_rfl) (by kernel_rfl) (by kernel_rfl)
theorem c319:CFn Tryz.prog rn (DJ Tryz.prog rn) Tryz.f145 n319:=cfn_ok [1] (by kernel_rfl) (by kernel_rfl) (by kernel_rfl) (by kernel_rfl)
theorem c338:CFn Tryz.prog rn (DJ Tryz.prog rn) Tryz.f146 n338:=cfn_ok [] (by kernel_rfl) (by kernel_rfl) (by kernel_rfl) (by kernel_rfl)
theorem c326:CFn Tryz.prog rn (DJ Tryz.prog rn) Tryz.f152 n326:=cfn_ok [] (by kernel_rfl) (by kernel_rfl) (by kernel_rfl) (by kernel_rfl)
theorem c87:CFn Tryz.prog rn (DJ Tryz.prog rn) Tryz.f153 n87:=cfn_ok [] (by kernel_rfl) (by kernel_rfl) (by kernel_rfl) (by kernel_rfl)
theorem c93:CFn Tryz.prog rn (DJ Tryz.prog rn) Tryz.f159 n93:=cfn_ok [] (by kernel_rfl) (by kernel_rfl) (by kernel_rfl) (by kernel_rfl)
theorem c97:CFn Tryz.prog rn (DJ Tryz.prog rn) Tryz.f163 n97:=cfn_ok [] (by kernel_rfl) (by kernel_rfl) (by kernel_rfl) (by kernel_rfl)
theorem c98:CFn Tryz.prog rn (DJ Tryz.prog rn) Tryz.f164 n98:=cfn_ok [] (by kernel_rfl) (by kernel_rfl) (by kernel_rfl) (by kernel_rfl)
theorem c311:CFn Tryz.prog rn (DJ Tryz.prog rn) Tryz.f167 n311:=cfn_ok [] (by kernel_rfl) (by kernel_rfl) (by kernel_rfl) (by kernel_rfl)
theorem c310:CFn Tryz.prog rn (DJ Tryz.prog rn) Tryz.f168 n310:=cfn_ok [] (by kernel_rfl) (by kernel_rfl) (by kernel_rfl) (by kernel_rfl)
theorem c314:CFn Tryz.prog rn (DJ Tryz.prog rn) Tryz.f169 n314:=cfn_ok [5,20] (by kernel_rfl) (by kernel_rfl) (by kernel_rfl) (by kernel_rfl)
theorem c337:CFn Tryz.prog rn (DJ Tryz.prog rn) Tryz.f170 n337:=cfn_ok [] (by kernel_rfl) (by kernel_rfl) (by kernel_rfl) (by kernel_rfl)
theorem c99:CFn Tryz.prog rn (DJ Tryz.prog rn) Tryz.f171 n99:=cfn_ok [] (by kernel_rfl) (by kernel_rfl) (by kernel_rfl) (by kernel_rfl)
theorem c47:CFn Tryz.prog rn (DJ Tryz.prog rn) Tryz.f179 n47:=cfn_ok [] (by kernel_rfl) (by kernel_rfl) (by kernel_rfl) (by kernel_rfl)
theorem c328:CFn Tryz.prog rn (DJ Tryz.prog rn) Tryz.f180 n328:=cfn_ok [] (by kernel_rfl) (by kernel_rfl) (by kernel_rfl) (by kernel_rfl)
theorem c331:CFn Tryz.prog rn (DJ Tryz.prog rn) Tryz.f215 n331:=cfn_ok [1] (by kernel_rfl) (by kernel_rfl) (by kernel_rfl) (by kernel_rfl)
theorem c321:CFn Tryz.prog rn (DJ Tryz.prog rn) Tryz.f216 n321:=cfn_ok [2] (by kernel_rfl) (by kernel_rfl) (by kernel_rfl) (by kernel_rfl)
theorem c332:CFn Tryz.prog rn (DJ Tryz.prog rn) Tryz.f217 n332:=cfn_ok [1] (by kernel_rfl) (by kernel_rfl) (by kernel_rfl) (by kernel_rfl)
theorem c322:CFn Tryz.prog rn (DJ Tryz.prog rn) Tryz.f218 n322:=cfn_ok [2] (by kernel_rfl) (by kernel_rfl) (by kernel_rfl) (by kernel_rfl)
theorem c333:CFn Tryz.prog rn (DJ Tryz.prog rn) Tryz.f219 n333:=cfn_ok [1] (by kernel_rfl) (by kernel_rfl) (by kernel_rfl) (by kernel_rfl)
theorem c323:CFn Tryz.prog rn (DJ Tryz.prog rn) Tryz.f220 n323:=cfn_ok [2] (by kernel_rfl) (by kernel_rfl) (by kernel_rfl) (by kernel_rfl)
theorem c339:CFn Tryz.prog rn (DJ Tryz.prog rn) Tryz.f221 n339:=cfn_ok [] (by kernel_rfl) (by kernel_rfl) (by kernel_rfl) (by kernel_rfl)
set_option maxRecDepth 100000 in
theorem all:AllOk Tryz.prog rn N0 tbl 0:=
 ⟨ok_none rfl,
  ok_none rfl,
  ok_none rfl,
  ok_some rfl Tryz.func3 c433,
  ok_cell rfl Tryz.func4 c259,
  ok_some rfl Tryz.func5 c260,
  ok_some rfl Tryz.func6 c343,
  ok_some rfl Tryz.func7 c434,
  ok_some rfl Tryz.func8 c265,
  ok_some rfl Tryz.func9 c341,
  ok_some rfl Tryz.func10 c345,
  ok_some rfl Tryz.func11 c347,
  ok_some rfl Tryz.func12 c312,
  ok_some rfl Tryz.func13 c13,
  ok_some rfl Tryz.func14 c346,
  ok_some rfl Tryz.func15 c258,
  ok_some rfl Tryz.func16 c266,
  ok_some rfl Tryz.func17 c267,
  ok_some rfl Tryz.func18 c268,
  ok_some rfl Tryz.func19 c203,
  ok_some rfl Tryz.func20 c269,
  ok_some rfl Tryz.func21 c270,
  ok_some rfl Tryz.func22 c271,
  ok_some rfl Tryz.func23 c272,
  ok_cell rfl Tryz.func24 c375,
  ok_some rfl Tryz.func25 c273,
  ok_some rfl Tryz.func26 c376,
  ok_some rfl Tryz.func27 c390,
  ok_some rfl Tryz.func28 c380,
  ok_some rfl Tryz.func29 c384,
  ok_none rfl,
  ok_some rfl Tryz.func31 c274,
  ok_none rfl,
  ok_some rfl Tryz.func33 c435,
  ok_some rfl Tryz.func34 c387,
  ok_some rfl Tryz.func35 c382,
  ok_some rfl Tryz.func36 c56,
  ok_none rfl,
  ok_none rfl,
  ok_none rfl,
  ok_none rfl,
  ok_some rfl Tryz.func41 c372,
  ok_some rfl Tryz.func42 c66,
  ok_some rfl Tryz.func43 c64,
  ok_some rfl Tryz.func44 c262,
  ok_cell rfl Tryz.func45 c264,
  ok_some rfl Tryz.func46 c288,
  ok_some rfl Tryz.func47 c394,
  ok_some rfl Tryz.func48 c395,
  ok_some rfl Tryz.func49 c396,
  ok_some rfl Tryz.func50 c397,
  ok_some rfl Tryz.func51 c398,
  ok_some rfl Tryz.func52 c399,
  ok_some rfl Tryz.func53 c298,
  ok_cell rfl Tryz.func54 c336,
  ok_some rfl Tryz.func55 c53,
  ok_some rfl Tryz.func56 c403,
  ok_some rfl Tryz.func57 c58,
  ok_some rfl Tryz.func58 c404,
  ok_some rfl Tryz.func59 c60,
  ok_some rfl Tryz.func60 c280,
  ok_cell rfl Tryz.func61 c295,
  ok_none rfl,
  ok_some rfl Tryz.func63 c287,
  ok_some rfl Tryz.func64 c436,
  ok_some rfl Tryz.func65 c301,
  ok_some rfl Tryz.func66 c402,
  ok_some rfl Tryz.func67 c74,
  ok_some rfl Tryz.func68 c76,
  ok_some rfl Tryz.func69 c75,
  ok_none rfl,
  ok_none rfl,
  ok_some rfl Tryz.func72 c388,
  ok_some rfl Tryz.func73 c278,
  ok_some rfl Tryz.func74 c277,
  ok_cell rfl Tryz.func75 c279,
  ok_some rfl Tryz.func76 c282,
  ok_some rfl Tryz.func77 c283,
  ok_some rfl Tryz.func78 c284,
  ok_some rfl Tryz.func79 c285,
  ok_some rfl Tryz.func80 c286,
  ok_some rfl Tryz.func81 c305,
  ok_some rfl Tryz.func82 c386,
  ok_some rfl Tryz.func83 c300,
  ok_some rfl Tryz.func84 c406,
  ok_some rfl Tryz.func85 c408,
  ok_some rfl Tryz.func86 c407,
  ok_some rfl Tryz.func87 c409,
  ok_some rfl Tryz.func88 c410,
  ok_cell rfl Tryz.func89 c411,
  ok_some rfl Tryz.func90 c315,
  ok_some rfl Tryz.func91 c316,
  ok_some rfl Tryz.func92 c317,
  ok_some rfl Tryz.func93 c330,
  ok_some rfl Tryz.func94 c318,
  ok_some rfl Tryz.func95 c73,
  ok_some rfl Tryz.func96 c77,
  ok_some rfl Tryz.func97 c78,
  ok_some rfl Tryz.func98 c79,
  ok_some rfl Tryz.func99 c80,
  ok_some rfl Tryz.func100 c62,
  ok_some rfl Tryz.func101 c414,
  ok_some rfl Tryz.func102 c415,
  ok_some rfl Tryz.func103 c299,
  ok_some rfl Tryz.func104 c290,
  ok_some rfl Tryz.func105 c291,
  ok_some rfl Tryz.func106 c292,
  ok_none rfl,
  ok_none rfl,
  ok_none rfl,
  ok_none rfl,
  ok_none rfl,
  ok_none rfl,
  ok_some rfl Tryz.func113 c44,
  ok_some rfl Tryz.func114 c303,
  ok_cell rfl Tryz.func115 c304,
  ok_some rfl Tryz.func116 c437,
  ok_some rfl Tryz.func117 c325,
  ok_some rfl Tryz.func118 c83,
  ok_some rfl Tryz.func119 c82,
  ok_some rfl Tryz.func120 c84,
  ok_some rfl Tryz.func121 c313,
  ok_none rfl,
  ok_none rfl,
  ok_none rfl,
  ok_none rfl,
  ok_some rfl Tryz.func126 c294,
  ok_some rfl Tryz.func127 c296,
  ok_some rfl Tryz.func128 c297,
  ok_some rfl Tryz.func129 c302,
  ok_some rfl Tryz.func130 c327,
  ok_some rfl Tryz.func131 c324,
  ok_some rfl Tryz.func132 c293,
  ok_some rfl Tryz.func133 c309,
  ok_some rfl Tryz.func134 c422,
  ok_some rfl Tryz.func135 c423,
  ok_some rfl Tryz.func136 c320,
  ok_some rfl Tryz.func137 c424,
  ok_cell rfl Tryz.func138 c425,
  ok_some rfl Tryz.func139 c329,
  ok_some rfl Tryz.func140 c335,
  ok_cell rfl Tryz.func141 c334,
  ok_some rfl Tryz.func142 c85,
  ok_some rfl Tryz.func143 c86,
  ok_some rfl Tryz.func144 c46,
  ok_some rfl Tryz.func145 c319,
  ok_some rfl Tryz.func146 c338,
  ok_none rfl,
  ok_none rfl,
  ok_none rfl,
  ok_none rfl,
  ok_none rfl,
  ok_some rfl Tryz.func152 c326,
  ok_some rfl Tryz.func153 c87,
  ok_none rfl,
  ok_none rfl,
  ok_none rfl,
  ok_none rfl,
  ok_none rfl,
  ok_some rfl Tryz.func159 c93,
  ok_none rfl,
  ok_none rfl,
  ok_none rfl,
  ok_some rfl Tryz.func163 c97,
  ok_some rfl Tryz.func164 c98,
  ok_none rfl,
  ok_none rfl,
  ok_some rfl Tryz.func167 c311,
  ok_some rfl Tryz.func168 c310,
  ok_some rfl Tryz.func169 c314,
  ok_some rfl Tryz.func170 c337,
  ok_some rfl Tryz.func171 c99,
  ok_none rfl,
  ok_none rfl,
  ok_none rfl,
  ok_none rfl,
  ok_none rfl,
  ok_none rfl,
  ok_none rfl,
  ok_some rfl Tryz.func179 c47,
  ok_some rfl Tryz.func180 c328,
  ok_none rfl,
  ok_none rfl,
  ok_none rfl,
  ok_none rfl,
  ok_none rfl,
  ok_none rfl,
  ok_none rfl,
  ok_none rfl,
  ok_none rfl,
  ok_none rfl,
  ok_none rfl,
  ok_none rfl,
  ok_none rfl,
  ok_none rfl,
  ok_none rfl,
  ok_none rfl,
  ok_none rfl,
  ok_none rfl,
  ok_none rfl,
  ok_none rfl,
  ok_none rfl,
  ok_none rfl,
  ok_none rfl,
  ok_none rfl,
  ok_none rfl,
  ok_none rfl,
  ok_none rfl,
  ok_none rfl,
  ok_none rfl,
  ok_none rfl,
  ok_none rfl,
  ok_none rfl,
  ok_none rfl,
  ok_none rfl,
  ok_some rfl Tryz.func215 c331,
  ok_some rfl Tryz.func216 c321,
  ok_some rfl Tryz.func217 c332,
  ok_some rfl Tryz.func218 c322,
  ok_some rfl Tryz.func219 c333,
  ok_some rfl Tryz.func220 c323,
  ok_some rfl Tryz.func221 c339,
  ok_none rfl,trivial⟩
theorem mixed:Tryz.prog.follows .mixedOrders=true:=by kernel_rfl
theorem hprog0:HProg Tryz.prog rn (DJ Tryz.prog rn) N0:=hprog_of all rfl
theorem awake_true:K.isTrueK (K.kCl N0 200 600 (rn 15) [] ⟨0,.nil⟩)=true:=by decide +kernel
theorem awake_given:PrimFn Tryz.prog 15 Tryz.f15 awakeN:=closed_quick hprog0 mixed (by kernel_rfl) (by kernel_rfl) awake_true
theorem hprog:HProg Tryz.prog rn (DJ Tryz.prog rn) N:=hprog_with hprog0 Tryz.func15 awake_given (by decide +kernel) (by decide)
end Camp.S
