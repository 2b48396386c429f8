/- The seat's program is what the machine runs. Printed by a program of mine (seatgen.py). -/
import Derived.Test.YtjcbeikfobfjmaaGreatCode
import Derived.Test.YtjcbeikfobfjmaaGreatProg
set_option linter.unnecessarySimpa false
set_option linter.unusedVariables false
set_option linter.unusedSimpArgs false
set_option linter.unusedSectionVars false
namespace Camp.S
open Go Go.Proofs
def tbl:List Nat:=[1000000,1000000,1000000,1000000,1000000,442,1000000,258,259,439,341,343,434,342,261,1000000,262,264,435,1000000,263,265,345,1000000,260,312,346,272,387,375,273,376,390,380,384,391,274,392,372,385,267,275,276,278,277,279,280,282,283,284,285,286,287,436,301,1000000,378,379,281,382,56,383,266,268,203,269,270,271,66,64,402,394,395,396,397,398,399,298,336,53,403,58,404,60,295,1000000,388,289,290,291,292,293,294,296,297,299,300,302,44,303,304,437,325,400,401,74,76,75,288,386,406,408,407,409,410,411,315,316,317,330,318,73,77,78,79,80,62,414,415,1000000,1000000,1000000,1000000,1000000,1000000,306,307,308,309,311,310,313,314,319,320,324,326,412,413,83,82,84,305,422,423,424,425,329,335,334,85,86,46,338,1000000,1000000,1000000,1000000,1000000,328,87,1000000,1000000,1000000,1000000,1000000,93,1000000,1000000,1000000,97,98,327,337,99,1000000,1000000,1000000,1000000,1000000,1000000,1000000,47,1000000,1000000,1000000,1000000,1000000,1000000,1000000,1000000,1000000,1000000,1000000,1000000,1000000,1000000,1000000,1000000,1000000,1000000,1000000,1000000,1000000,1000000,1000000,1000000,1000000,1000000,1000000,1000000,1000000,1000000,1000000,331,321,332,322,333,323,339,1000000]
abbrev rn:FuncId→Nat:=rnOf tbl
theorem c442:CFn Tryz.prog rn (DJ Tryz.prog rn) Tryz.f5 n442:=cfn_ok [9,19] (by kernel_rfl) (by kernel_rfl) (by kernel_rfl) (by kernel_rfl)
theorem c258:CFn Tryz.prog rn (DJ Tryz.prog rn) Tryz.f7 n258:=cfn_ok [4] (by kernel_rfl) (by kernel_rfl) (by kernel_rfl) (by kernel_rfl)
theorem c259:CFnC Tryz.prog rn (DJ Tryz.prog rn) Tryz.f8 n259:=cfn_cell [17] [] [] 14 27 (some 9) (by kernel_rfl) (by kernel_rfl) (by kernel_rfl) (by decide) (by decide) (by kernel_rfl) (by kernel_rfl)
theorem c439:CFn Tryz.prog rn (DJ Tryz.prog rn) Tryz.f9 n439:=cfn_ok [1] (by kernel_rfl) (by kernel_rfl) (by kernel_rfl) (by kernel_rfl)
theorem c341:CFn Tryz.prog rn (DJ Tryz.prog rn) Tryz.f10 n341:=cfn_ok [] (by kernel_rfl) (by kernel_rfl) (by kernel_rfl) (by kernel_rfl)
theorem c343:CFn Tryz.prog rn (DJ Tryz.prog rn) Tryz.f11 n343:=cfn_ok [10] (by kernel_rfl) (by kernel_rfl) (by kernel_rfl) (by kernel_rfl)
theorem c434:CFn Tryz.prog rn (DJ Tryz.prog rn) Tryz.f12 n434:=cfn_ok [] (by kernel_rfl) (by kernel_rfl) (by kernel_rfl) (by kernel_rfl)
theorem c342:CFn Tryz.prog rn (DJ Tryz.prog rn) Tryz.f13 n342:=cfn_ok [] (by kernel_rfl) (by kernel_rfl) (by kernel_rfl) (by kernel_rfl)
theorem c261:CFn Tryz.prog rn (DJ Tryz.prog rn) Tryz.f14 n261:=cfn_ok [] (by kernel_rfl) (by kernel_rfl) (by kernel_rfl) (by kernel_rfl)
theorem c262:CFn Tryz.prog rn (DJ Tryz.prog rn) Tryz.f16 n262:=cfn_ok [7] (by kernel_rfl) (by kernel_rfl) (by kernel_rfl) (by kernel_rfl)
theorem c264:CFnC Tryz.prog rn (DJ Tryz.prog rn) Tryz.f17 n264:=cfn_cell [4,7] [] [3] 2 34 (some 6) (by kernel_rfl) (by kernel_rfl) (by kernel_rfl) (by decide) (by decide) (by kernel_rfl) (by kernel_rfl)
theorem c435:CFn Tryz.prog rn (DJ Tryz.prog rn) Tryz.f18 n435:=cfn_ok [1] (by kernel_rfl) (by kernel_rfl) (by kernel_rfl) (by kernel_rfl)
theorem c263:CFn Tryz.prog rn (DJ Tryz.prog rn) Tryz.f20 n263:=cfn_ok [] (by kernel_rfl) (by kernel_rfl) (by kernel_rfl) (by kernel_rfl)
theorem c265:CFn Tryz.prog rn (DJ Tryz.prog rn) Tryz.f21 n265:=cfn_ok [] (by kernel_rfl) (by kernel_rfl) (by kernel_rfl) (by kernel_rfl)
theorem c345:CFn Tryz.prog rn (DJ Tryz.prog rn) Tryz.f22 n345:=cfn_ok [6] (by kernel_rfl) (by kernel_rfl) (by kernel_rfl) (by kernel_rfl)
theorem c260:CFn Tryz.prog rn (DJ Tryz.prog rn) Tryz.f24 n260:=cfn_ok [2] (by kernel_rfl) (by kernel_rfl) (by kernel_rfl) (by kernel_rfl)
theorem c312:CFn Tryz.prog rn (DJ Tryz.prog rn) Tryz.f25 n312:=cfn_ok [] (by kernel_rfl) (by kernel_rfl) (by kernel_rfl) (by kernel_rfl)
theorem c346:CFn Tryz.prog rn (DJ Tryz.prog rn) Tryz.f26 n346:=cfn_ok [] (by kernel_rfl) (by kernel_rfl) (by kernel_rfl) (by kernel_rfl)
theorem c272:CFn Tryz.prog rn (DJ Tryz.prog rn) Tryz.f27 n272:=cfn_ok [] (by kernel_rfl) (by kernel_rfl) (by kernel_rfl) (by kernel_rfl)
theorem c387:CFn Tryz.prog rn (DJ Tryz.prog rn) Tryz.f28 n387:=cfn_ok [] (by kernel_rfl) (by kernel_rfl) (by kernel_rfl) (by kernel_rfl)
theorem c375:CFnC Tryz.prog rn (DJ Tryz.prog rn) Tryz.f29 n375:=cfn_cell [6] [] [3] 2 34 (some 6) (by kernel_rfl) (by kernel_rfl) (by kernel_rfl) (by decide) (by decide) (by kernel_rfl) (by kernel_rfl)
theorem c273:CFn Tryz.prog rn (DJ Tryz.prog rn) Tryz.f30 n273:=cfn_ok [] (by kernel_rfl) (by kernel_rfl) (by kernel_rfl) (by kernel_rfl)
theorem c376:CFn Tryz.prog rn (DJ Tryz.prog rn) Tryz.f31 n376:=cfn_ok [2,6] (by kernel_rfl) (by kernel_rfl) (by kernel_rfl) (by kernel_rfl)
theorem c390:CFn Tryz.prog rn (DJ Tryz.prog rn) Tryz.f32 n390:=cfn_ok [6] (by kernel_rfl) (by kernel_rfl) (by kernel_rfl) (by kernel_rfl)
theorem c380:CFn Tryz.prog rn (DJ Tryz.prog rn) Tryz.f33 n380:=cfn_ok [] (by kernel_rfl) (by kernel_rfl) (by kernel_rfl) (by kernel_rfl)
theorem c384:CFn Tryz.prog rn (DJ Tryz.prog rn) Tryz.f34 n384:=cfn_ok [] (by kernel_rfl) (by kernel_rfl) (by kernel_rfl) (by kernel_rfl)
theorem c391:CFn Tryz.prog rn (DJ Tryz.prog rn) Tryz.f35 n391:=cfn_ok [] (by kernel_rfl) (by kernel_rfl) (by kernel_rfl) (by kernel_rfl)
theorem c274:CFn Tryz.prog rn (DJ Tryz.prog rn) Tryz.f36 n274:=cfn_ok [] (by kernel_rfl) (by kernel_rfl) (by kernel_rfl) (by kernel_rfl)
theorem c392:CFn Tryz.prog rn (DJ Tryz.prog rn) Tryz.f37 n392:=cfn_ok [5] (by kernel_rfl) (by kernel_rfl) (by kernel_rfl) (by kernel_rfl)
theorem c372:CFn Tryz.prog rn (DJ Tryz.prog rn) Tryz.f38 n372:=cfn_ok [] (by kernel_rfl) (by kernel_rfl) (by kernel_rfl) (by kernel_rfl)
theorem c385:CFn Tryz.prog rn (DJ Tryz.prog rn) Tryz.f39 n385:=cfn_ok [] (by kernel_rfl) (by kernel_rfl) (by kernel_rfl) (by kernel_rfl)
theorem c267:CFn Tryz.prog rn (DJ Tryz.prog rn) Tryz.f40 n267:=cfn_ok [] (by kernel_rfl) (by kernel_rfl) (by kernel_rfl) (by kernel_rfl)
theorem c275:CFn Tryz.prog rn (DJ Tryz.prog rn) Tryz.f41 n275:=cfn_ok [1] (by kernel_rfl) (by kernel_rfl) (by kernel_rfl) (by kernel_rfl)
theorem c276:CFn Tryz.prog rn (DJ Tryz.prog rn) Tryz.f42 n276:=cfn_ok [] (by kernel_rfl) (by kernel_rfl) (by kernel_rfl) (by kernel_rfl)
theorem c278:CFn Tryz.prog rn (DJ Tryz.prog rn) Tryz.f43 n278:=cfn_ok [] (by kernel_rfl) (by kernel_rfl) (by kernel_rfl) (by kernel_rfl)
theorem c277:CFn Tryz.prog rn (DJ Tryz.prog rn) Tryz.f44 n277:=cfn_ok [] (by kernel_rfl) (by kernel_rfl) (by kernel_rfl) (by kernel_rfl)
theorem c279:CFnC Tryz.prog rn (DJ Tryz.prog rn) Tryz.f45 n279:=cfn_cell [] [] [] 4 34 (some 6) (by kernel_rfl) (by kernel_rfl) (by kernel_rfl) (by decide) (by decide) (by kernel_rfl) (by kernel_rfl)
theorem c280:CFn Tryz.prog rn (DJ Tryz.prog rn) Tryz.f46 n280:=cfn_ok [1] (by kernel_rfl) (by kernel_rfl) (by kernel_rfl) (by kernel_rfl)
theorem c282:CFn Tryz.prog rn (DJ Tryz.prog rn) Tryz.f47 n282:=cfn_ok [] (by kernel_rfl) (by kernel_rfl) (by kernel_rfl) (by kernel_rfl)
theorem c283:CFn Tryz.prog rn (DJ Tryz.prog rn) Tryz.f48 n283:=cfn_ok [] (by kernel_rfl) (by kernel_rfl) (by kernel_rfl) (by kernel_rfl)
theorem c284:CFn Tryz.prog rn (DJ Tryz.prog rn) Tryz.f49 n284:=cfn_ok [] (by kernel_rfl) (by kernel_rfl) (by kernel_rfl) (by kernel_rfl)
theorem c285:CFn Tryz.prog rn (DJ Tryz.prog rn) Tryz.f50 n285:=cfn_ok [] (by kernel_rfl) (by kernel_rfl) (by kernel_rfl) (by kernel_rfl)
theorem c286:CFn Tryz.prog rn (DJ Tryz.prog rn) Tryz.f51 n286:=cfn_ok [7,101,123] (by kernel_rfl) (by kernel_rfl) (by kernel_rfl) (by kernel_rfl)
theorem c287:CFn Tryz.prog rn (DJ Tryz.prog rn) Tryz.f52 n287:=cfn_ok [1,4,5] (by kernel_rfl) (by kernel_rfl) (by kernel_rfl) (by kernel_rfl)
theorem c436:CFn Tryz.prog rn (DJ Tryz.prog rn) Tryz.f53 n436:=cfn_ok [6,38,65] (by kernel_rfl) (by kernel_rfl) (by kernel_rfl) (by kernel_rfl)
theorem c301:CFn Tryz.prog rn (DJ Tryz.prog rn) Tryz.f54 n301:=cfn_ok [13] (by kernel_rfl) (by kernel_rfl) (by kernel_rfl) (by kernel_rfl)
theorem c378:CFnC Tryz.prog rn (DJ Tryz.prog rn) Tryz.f56 n378:=cfn_cell [6] [] [3] 2 36 (some 6) (by kernel_rfl) (by kernel_rfl) (by kernel_rfl) (by decide) (by decide) (by kernel_rfl) (by kernel_rfl)
theorem c379:CFn Tryz.prog rn (DJ Tryz.prog rn) Tryz.f57 n379:=cfn_ok [4] (by kernel_rfl) (by kernel_rfl) (by kernel_rfl) (by kernel_rfl)
theorem c281:CFn Tryz.prog rn (DJ Tryz.prog rn) Tryz.f58 n281:=cfn_ok [] (by kernel_rfl) (by kernel_rfl) (by kernel_rfl) (by kernel_rfl)
theorem c382:CFn Tryz.prog rn (DJ Tryz.prog rn) Tryz.f59 n382:=cfn_ok [] (by kernel_rfl) (by kernel_rfl) (by kernel_rfl) (by kernel_rfl)
theorem c56:CFn Tryz.prog rn (DJ Tryz.prog rn) Tryz.f60 n56:=cfn_ok [10,37] (by kernel_rfl) (by kernel_rfl) (by kernel_rfl) (by kernel_rfl)
theorem c383:CFn Tryz.prog rn (DJ Tryz.prog rn) Tryz.f61 n383:=cfn_ok [] (by kernel_rfl) (by kernel_rfl) (by kernel_rfl) (by kernel_rfl)
theorem c266:CFn Tryz.prog rn (DJ Tryz.prog rn) Tryz.f62 n266:=cfn_ok [1] (by kernel_rfl) (by kernel_rfl) (by kernel_rfl) (by kernel_rfl)
theorem c268:CFn Tryz.prog rn (DJ Tryz.prog rn) Tryz.f63 n268:=cfn_ok [] (by kernel_rfl) (by kernel_rfl) (by kernel_rfl) (by kernel_rfl)
theorem c203:CFn Tryz.prog rn (DJ Tryz.prog rn) Tryz.f64 n203:=cfn_ok [] (by kernel_rfl) (by kernel_rfl) (by kernel_rfl) (by kernel_rfl)
theorem c269:CFn Tryz.prog rn (DJ Tryz.prog rn) Tryz.f65 n269:=cfn_ok [] (by kernel_rfl) (by kernel_rfl) (by kernel_rfl) (by kernel_rfl)
theorem c270:CFn Tryz.prog rn (DJ Tryz.prog rn) Tryz.f66 n270:=cfn_ok [] (by kernel_rfl) (by kernel_rfl) (by kernel_rfl) (by kernel_rfl)
theorem c271:CFn Tryz.prog rn (DJ Tryz.prog rn) Tryz.f67 n271:=cfn_ok [] (by kernel_rfl) (by kernel_rfl) (by kernel_rfl) (by kernel_rfl)
theorem c66:CFn Tryz.prog rn (DJ Tryz.prog rn) Tryz.f68 n66:=cfn_ok [] (by kernel_rfl) (by kernel_rfl) (by kernel_rfl) (by kernel_rfl)
theorem c64:CFn Tryz.prog rn (DJ Tryz.prog rn) Tryz.f69 n64:=cfn_ok [5,20] (by kernel_rfl) (by kernel_rfl) (by kernel_rfl) (by kernel_rfl)
theorem c402:CFn Tryz.prog rn (DJ Tryz.prog rn) Tryz.f70 n402:=cfn_ok [] (by kernel_rfl) (by kernel_rfl) (by kernel_rfl) (by kernel_rfl)
theorem c394:CFn Tryz.prog rn (DJ Tryz.prog rn) Tryz.f71 n394:=cfn_ok [] (by kernel_rfl) (by kernel_rfl) (by kernel_rfl) (by kernel_rfl)
theorem c395:CFn Tryz.prog rn (DJ Tryz.prog rn) Tryz.f72 n395:=cfn_ok [] (by kernel_rfl) (by kernel_rfl) (by kernel_rfl) (by kernel_rfl)
theorem c396:CFn Tryz.prog rn (DJ Tryz.prog rn) Tryz.f73 n396:=cfn_ok [] (by kernel_rfl) (by kernel_rfl) (by kernel_rfl) (by kernel_rfl)
theorem c397:CFn Tryz.prog rn (DJ Tryz.prog rn) Tryz.f74 n397:=cfn_ok [27] (by kernel_rfl) (by kernel_rfl) (by kernel_rfl) (by kernel_rfl)
theorem c398:CFn Tryz.prog rn (DJ Tryz.prog rn) Tryz.f75 n398:=cfn_ok [] (by kernel_rfl) (by kernel_rfl) (by kernel_rfl) (by kernel_rfl)
theorem c399:CFn Tryz.prog rn (DJ Tryz.prog rn) Tryz.f76 n399:=cfn_ok [7,32] (by kernel_rfl) (by kernel_rfl) (by kernel_rfl) (by kernel_rfl)
theorem c298:CFn Tryz.prog rn (DJ Tryz.prog rn) Tryz.f77 n298:=cfn_ok [1] (by kernel_rfl) (by kernel_rfl) (by kernel_rfl) (by kernel_rfl)
theorem c336:CFnC Tryz.prog rn (DJ Tryz.prog rn) Tryz.f78 n336:=cfn_cell [7] [] [5] 4 57 (some 5) (by kernel_rfl) (by kernel_rfl) (by kernel_rfl) (by decide) (by decide) (by kernel_rfl) (by kernel_rfl)
theorem c53:CFn Tryz.prog rn (DJ Tryz.prog rn) Tryz.f79 n53:=cfn_ok [] (by kernel_rfl) (by kernel_rfl) (by kernel_rfl) (by kernel_rfl)
theorem c403:CFn Tryz.prog rn (DJ Tryz.prog rn) Tryz.f80 n403:=cfn_ok [] (by kernel_rfl) (by kernel_rfl) (by kernel_rfl) (by kernel_rfl)
theorem c58:CFn Tryz.prog rn (DJ Tryz.prog rn) Tryz.f81 n58:=cfn_ok [] (by kernel_rfl) (by kernel_rfl) (by kernel_rfl) (by kernel_rfl)
theorem c404:CFn Tryz.prog rn (DJ Tryz.prog rn) Tryz.f82 n404:=cfn_ok [] (by kernel_rfl) (by kernel_rfl) (by kernel_rfl) (by kernel_rfl)
theorem c60:CFn Tryz.prog rn (DJ Tryz.prog rn) Tryz.f83 n60:=cfn_ok [] (by kernel_rfl) (by kernel_rfl) (by kernel_rfl) (by kernel_rfl)
theorem c295:CFnC Tryz.prog rn (DJ Tryz.prog rn) Tryz.f84 n295:=cfn_cell [] [] [] 4 57 (some 5) (by kernel_rfl) (by kernel_rfl) (by kernel_rfl) (by decide) (by decide) (by kernel_rfl) (by kernel_rfl)
theorem c388:CFn Tryz.prog rn (DJ Tryz.prog rn) Tryz.f86 n388:=cfn_ok [] (by kernel_rfl) (by kernel_rfl) (by kernel_rfl) (by kernel_rfl)
theorem c289:CFn Tryz.prog rn (DJ Tryz.prog rn) Tryz.f87 n289:=cfn_ok [1] (by kernel_rfl) (by kernel_rfl) (by kernel_rfl) (by kernel_rfl)
theorem c290:CFn Tryz.prog rn (DJ Tryz.prog rn) Tryz.f88 n290:=cfn_ok [31] (by kernel_rfl) (by kernel_rfl) (by kernel_rfl) (by kernel_rfl)
theorem c291:CFn Tryz.prog rn (DJ Tryz.prog rn) Tryz.f89 n291:=cfn_ok [] (by kernel_rfl) (by kernel_rfl) (by kernel_rfl) (by kernel_rfl)
theorem c292:CFn Tryz.prog rn (DJ Tryz.prog rn) Tryz.f90 n292:=cfn_ok [] (by kernel_rfl) (by kernel_rfl) (by kernel_rfl) (by kernel_rfl)
theorem c293:CFn Tryz.prog rn (DJ Tryz.prog rn) Tryz.f91 n293:=cfn_ok [] (by kernel_rfl) (by kernel_rfl) (by kernel_rfl) (by kernel_rfl)
theorem c294:CFn Tryz.prog rn (DJ Tryz.prog rn) Tryz.f92 n294:=cfn_ok [] (by kernel_rfl) (by kernel_rfl) (by kernel_rfl) (by kernel_rfl)
theorem c296:CFn Tryz.prog rn (DJ Tryz.prog rn) Tryz.f93 n296:=cfn_ok [] (by kernel_rfl) (by kernel_rfl) (by kernel_rfl) (by kernel_rfl)
theorem c297:CFn Tryz.prog rn (DJ Tryz.prog rn) Tryz.f94 n297:=cfn_ok [] (by kernel_rfl) (by kernel_rfl) (by kernel_rfl) (by kernel_rfl)
theorem c299:CFn Tryz.prog rn (DJ Tryz.prog rn) Tryz.f95 n299:=cfn_ok [6] (by kernel_rfl) (by kernel_rfl) (by kernel_rfl) (by kernel_rfl)
theorem c300:CFn Tryz.prog rn (DJ Tryz.prog rn) Tryz.f96 n300:=cfn_ok [13] (by kernel_rfl) (by kernel_rfl) (by kernel_rfl) (by kernel_rfl)
theorem c302:CFn Tryz.prog rn (DJ Tryz.prog rn) Tryz.f97 n302:=cfn_ok [] (by kernel_rfl) (by kernel_rfl) (by kernel_rfl) (by kernel_rfl)
theorem c44:CFn Tryz.prog rn (DJ Tryz.prog rn) Tryz.f98 n44:=cfn_ok [] (by kernel_rfl) (by kernel_rfl) (by kernel_rfl) (by kernel_rfl)
theorem c303:CFn Tryz.prog rn (DJ Tryz.prog rn) Tryz.f99 n303:=cfn_ok [1] (by kernel_rfl) (by kernel_rfl) (by kernel_rfl) (by kernel_rfl)
theorem c304:CFnC Tryz.prog rn (DJ Tryz.prog rn) Tryz.f100 n304:=cfn_cell [7] [] [5] 4 57 (some 5) (by kernel_rfl) (by kernel_rfl) (by kernel_rfl) (by decide) (by decide) (by kernel_rfl) (by kernel_rfl)
theorem c437:CFn Tryz.prog rn (DJ Tryz.prog rn) Tryz.f101 n437:=cfn_ok [20] (by kernel_rfl) (by kernel_rfl) (by kernel_rfl) (by kernel_rfl)
theorem c325:CFn Tryz.prog rn (DJ Tryz.prog rn) Tryz.f102 n325:=cfn_ok [] (by kernel_rfl) (by kernel_rfl) (by kernel_rfl) (by kernel_rfl)
theorem c400:CFn Tryz.prog rn (DJ Tryz.prog rn) Tryz.f103 n400:=cfn_ok [] (by kernel_rfl) (by kernel_rfl) (by kernel_rfl) (by kernel_rfl)
theorem c401:CFnC Tryz.prog rn (DJ Tryz.prog rn) Tryz.f104 n401:=cfn_cell [5,40] [] [3] 2 36 (some 6) (by kernel_rfl) (by kernel_rfl) (by kernel_rfl) (by decide) (by decide) (by kernel_rfl) (by kernel_rfl)
theorem c74:CFn Tryz.prog rn (DJ Tryz.prog rn) Tryz.f105 n74:=cfn_ok [] (by kernel_rfl) (by kernel_rfl) (by kernel_rfl) (by kernel_rfl)
theorem c76:CFn Tryz.prog rn (DJ Tryz.prog rn) Tryz.f106 n76:=cfn_ok [] (by kernel_rfl) (by kernel_rfl) (by kernel_rfl) (by kernel_rfl)
theorem c75:CFn Tryz.prog rn (DJ Tryz.prog rn) Tryz.f107 n75:=cfn_ok [2] (by kernel_rfl) (by kernel_rfl) (by kernel_rfl) (by kernel_rfl)
theorem c288:CFn Tryz.prog rn (DJ Tryz.prog rn) Tryz.f108 n288:=cfn_ok [] (by kernel_rfl) (by kernel_rfl) (by kernel_rfl) (by kernel_rfl)
theorem c386:CFn Tryz.prog rn (DJ Tryz.prog rn) Tryz.f109 n386:=cfn_ok [] (by kernel_rfl) (by kernel_rfl) (by kernel_rfl) (by kernel_rfl)
theorem c406:CFn Tryz.prog rn (DJ Tryz.prog rn) Tryz.f110 n406:=cfn_ok [] (by kernel_rfl) (by kernel_rfl) (by kernel_rfl) (by kernel_rfl)
theorem c408:CFn Tryz.prog rn (DJ Tryz.prog rn) Tryz.f111 n408:=cfn_ok [] (by kernel_rfl) (by kernel_rfl) (by kernel_rfl) (by kernel_rfl)
theorem c407:CFn Tryz.prog rn (DJ Tryz.prog rn) Tryz.f112 n407:=cfn_ok [] (by kernel_rfl) (by kernel_rfl) (by kernel_rfl) (by kernel_rfl)
theorem c409:CFn Tryz.prog rn (DJ Tryz.prog rn) Tryz.f113 n409:=cfn_ok [] (by kernel_rfl) (by kernel_rfl) (by kernel_rfl) (by kernel_rfl)
theorem c410:CFn Tryz.prog rn (DJ Tryz.prog rn) Tryz.f114 n410:=cfn_ok [] (by kernel_rfl) (by kernel_rfl) (by kernel_rfl) (by kernel_rfl)
theorem c411:CFnC Tryz.prog rn (DJ Tryz.prog rn) Tryz.f115 n411:=cfn_cell [6] [] [3] 2 57 (some 5) (by kernel_rfl) (by kernel_rfl) (by kernel_rfl) (by decide) (by decide) (by kernel_rfl) (by kernel_rfl)
theorem c315:CFn Tryz.prog rn (DJ Tryz.prog rn) Tryz.f116 n315:=cfn_ok [] (by kernel_rfl) (by kernel_rfl) (by kernel_rfl) (by kernel_rfl)
theorem c316:CFn Tryz.prog rn (DJ Tryz.prog rn) Tryz.f117 n316:=cfn_ok [] (by kernel_rfl) (by kernel_rfl) (by kernel_rfl) (by kernel_rfl)
theorem c317:CFn Tryz.prog rn (DJ Tryz.prog rn) Tryz.f118 n317:=cfn_ok [1] (by kernel_rfl) (by kernel_rfl) (by kernel_rfl) (by kernel_rfl)
theorem c330:CFn Tryz.prog rn (DJ Tryz.prog rn) Tryz.f119 n330:=cfn_ok [1] (by kernel_rfl) (by kernel_rfl) (by kernel_rfl) (by kernel_rfl)
theorem c318:CFn Tryz.prog rn (DJ Tryz.prog rn) Tryz.f120 n318:=cfn_ok [1,3] (by kernel_rfl) (by kernel_rfl) (by kernel_rfl) (by kernel_rfl)
theorem c73:CFn Tryz.prog rn (DJ Tryz.prog rn) Tryz.f121 n73:=cfn_ok [] (by kernel_rfl) (by kernel_rfl) (by kernel_rfl) (by kernel_rfl)
theorem c77:CFn Tryz.prog rn (DJ Tryz.prog rn) Tryz.f122 n77:=cfn_ok [2] (by kernel_rfl) (by kernel_rfl) (by kernel_rfl) (by kernel_rfl)
theorem c78:CFn Tryz.prog rn (DJ Tryz.prog rn) Tryz.f123 n78:=cfn_ok [] (by kernel_rfl) (by kernel_rfl) (by kernel_rfl) (by kernel_rfl)
theorem c79:CFn Tryz.prog rn (DJ Tryz.prog rn) Tryz.f124 n79:=cfn_ok [2,3] (by kernel_rfl) (by kernel_rfl) (by kernel_rfl) (by kernel_rfl)
theorem c80:CFn Tryz.prog rn (DJ Tryz.prog rn) Tryz.f125 n80:=cfn_ok [2] (by kernel_rfl) (by kernel_rfl) (by kernel_rfl) (by kernel_rfl)
theorem c62:CFn Tryz.prog rn (DJ Tryz.prog rn) Tryz.f126 n62:=cfn_ok [7] (by kernel_rfl) (by kernel_rfl) (by kernel_rfl) (by kernel_rfl)
theorem c414:CFn Tryz.prog rn (DJ Tryz.prog rn) Tryz.f127 n414:=cfn_ok [] (by kernel_rfl) (by kernel_rfl) (by kernel_rfl) (by kernel_rfl)
theorem c415:CFn Tryz.prog rn (DJ Tryz.prog rn) Tryz.f128 n415:=cfn_ok [] (by kernel_rfl) (by kernel_rfl) (by kernel_rfl) (by kernel_rfl)
theorem c306:CFn Tryz.prog rn (DJ Tryz.prog rn) Tryz.f135 n306:=cfn_ok [] (by kernel_rfl) (by kernel_rfl) (by kernel_rfl) (by kernel_rfl)
theorem c307:CFn Tryz.prog rn (DJ Tryz.prog rn) Tryz.f136 n307:=cfn_ok [] (by kernel_rfl) (by kernel_rfl) (by kernel_rfl) (by kernel_rfl)
theorem c308:CFn Tryz.prog rn (DJ Tryz.prog rn) Tryz.f137 n308:=cfn_ok [] (by kernel_rfl) (by kernel_rfl) (by kernel_rfl) (by kernel_rfl)
theorem c309:CFn Tryz.prog rn (DJ Tryz.prog rn) Tryz.f138 n309:=cfn_ok [] (by kernel_rfl) (by kernel_rfl) (by kernel_rfl) (by kernel_rfl)
theorem c311:CFn Tryz.prog rn (DJ Tryz.prog rn) Tryz.f139 n311:=cfn_ok [] (by kernel_rfl) (by kernel_rfl) (by kernel_rfl) (by kernel_rfl)
theorem c310:CFn Tryz.prog rn (DJ Tryz.prog rn) Tryz.f140 n310:=cfn_ok [] (by kernel_rfl) (by kernel_rfl) (by kernel_rfl) (by kernel_rfl)
theorem c313:CFn Tryz.prog rn (DJ Tryz.prog rn) Tryz.f141 n313:=cfn_ok [] (by kernel_rfl) (by kernel_rfl) (by kernel_rfl) (by kernel_rfl)
theorem c314:CFn Tryz.prog rn (DJ Tryz.prog rn) Tryz.f142 n314:=cfn_ok [5,20] (by kernel_rfl) (by kernel_rfl) (by kernel_rfl) (by kernel_rfl)
theorem c319:CFn Tryz.prog rn (DJ Tryz.prog rn) Tryz.f143 n319:=cfn_ok [1] (by kernel_rfl) (by kernel_rfl) (by kernel_rfl) (by kernel_rfl)
theorem c320:CFn Tryz.prog rn (DJ Tryz.prog rn) Tryz.f144 n320:=cfn_ok [1] (by kernel_rfl) (by kernel_rfl) (by kernel_rfl) (by kernel_rfl)
theorem c324:CFn Tryz.prog rn (DJ Tryz.prog rn) Tryz.f145 n324:=cfn_ok [] (by kernel_rfl) (by kernel_rfl) (by kernel_rfl) (by kernel_rfl)
theorem c326:CFn Tryz.prog rn (DJ Tryz.prog rn) Tryz.f146 n326:=cfn_ok [] (by kernel_rfl) (by kernel_rfl) (by kernel_rfl) (by kernel_rfl)
theorem c412:CFn Tryz.prog rn (DJ Tryz.prog rn) Tryz.f147 n412:=cfn_ok [] (by kernel_rfl) (by kernel_rfl) (by kernel_rfl) (by kernel_rfl)
theorem c413:CFn Tryz.prog rn (DJ Tryz.prog rn) Tryz.f148 n413:=cfn_ok [] (by kernel_rfl) (by kernel_rfl) (by kernel_rfl) (by kernel_rfl)
theorem c83:CFn Tryz.prog rn (DJ Tryz.prog rn) Tryz.f149 n83:=cfn_ok [] (by kernel_rfl) (by kernel_rfl) (by kernel_rfl) (by kernel_rfl)
theorem c82:CFn Tryz.prog rn (DJ Tryz.prog rn) Tryz.f150 n82:=cfn_ok [] (by kernel_rfl) (by kernel_rfl) (by kernel_rfl) (by kernel_rfl)
theorem c84:CFn Tryz.prog rn (DJ Tryz.prog rn) Tryz.f151 n84:=cfn_ok [7] (by kernel_rfl) (by kernel_rfl) (by kernel_rfl) (by kernel_rfl)
theorem c305:CFn Tryz.prog rn (DJ Tryz.prog rn) Tryz.f152 n305:=cfn_ok [] (by kernel_rfl) (by kernel_rfl) (by kernel_rfl) (by kernel_rfl)
theorem c422:CFn Tryz.prog rn (DJ Tryz.prog rn) Tryz.f153 n422:=cfn_ok [] (by kernel_rfl) (by kernel_rfl) (by kernel_rfl) (by kernel_rfl)
theorem c423:CFn Tryz.prog rn (DJ Tryz.prog rn) Tryz.f154 n423:=cfn_ok [] (by kernel_rfl) (by kernel_rfl) (by kernel_rfl) (by kernel_rfl)
theorem c424:CFn Tryz.prog rn (DJ Tryz.prog rn) Tryz.f155 n424:=cfn_ok [] (by kernel_rfl) (by kernel_rfl) (by kernel_rfl) (by kernel_rfl)
theorem c425:CFnC Tryz.prog rn (DJ Tryz.prog rn) Tryz.f156 n425:=cfn_cell [8,10,59] [] [] 6 57 (some 5) (by kernel_rfl) (by kernel_rfl) (by kernel_rfl) (by decide) (by decide) (by kernel_rfl) (by kernel_rfl)
theorem c329:CFn Tryz.prog rn (DJ Tryz.prog rn) Tryz.f157 n329:=cfn_ok [] (by kernel_rfl) (by kernel_rfl) (by kernel_rfl) (by kernel_rfl)
theorem c335:CFn Tryz.prog rn (DJ Tryz.prog rn) Tryz.f158 n335:=cfn_ok [2,3] (by kernel_rfl) (by kernel_rfl) (by kernel_rfl) (by kernel_rfl)
theorem c334:CFnC Tryz.prog rn (DJ Tryz.prog rn) Tryz.f159 n334:=cfn_cell [5,6,8,10] [] [] 4 57 (some 5) (by kernel_rfl) (by kernel_rfl) (by kernel_rfl) (by decide) (by decide) (by kernel_rfl) (by kernel_rfl)
theorem c85:CFn Tryz.prog rn (DJ Tryz.prog rn) Tryz.f160 n85:=cfn_ok [] (by kernel_rfl) (by kernel_rfl) (by kernel_rfl) (by kernel_rfl)
theorem c86:CFn Tryz.prog rn (DJ Tryz.prog rn) Tryz.f161 n86:=cfn_ok [] (by kernel_rfl) (by kernel_rfl) (by kernel_rfl) (by kernel_rfl)
theorem c46:CFn Tryz.prog rn (DJ Tryz.prog rn) Tryz.f162 n46:=cfn_ok [] (by kernel_rfl) (by kernel_rfl) (by kernel_rfl) (by kernel_rfl)
theorem c338:CFn Tryz.prog rn (DJ Tryz.prog rn) Tryz.f163 n338:=cfn_ok [] (by kernel_rfl) (by kernel_rfl) (by kernel_rfl) (by kernel_rfl)
theorem c328:CFn Tryz.prog rn (DJ Tryz.prog rn) Tryz.f169 n328:=cfn_ok [] (by kernel_rfl) (by kernel_rfl) (by kernel_rfl) (by kernel_rfl)
theorem c87:CFn Tryz.prog rn (DJ Tryz.prog rn) Tryz.f170 n87:=cfn_ok [] (by kernel_rfl) (by kernel_rfl) (by kernel_rfl) (by kernel_rfl)
theorem c93:CFn Tryz.prog rn (DJ Tryz.prog rn) Tryz.f176 n93:=cfn_ok [] (by kernel_rfl) (by kernel_rfl) (by kernel_rfl) (by kernel_rfl)
theorem c97:CFn Tryz.prog rn (DJ Tryz.prog rn) Tryz.f180 n97:=cfn_ok [] (by kernel_rfl) (by kernel_rfl) (by kernel_rfl) (by kernel_rfl)
theorem c98:CFn Tryz.prog rn (DJ Tryz.prog rn) Tryz.f181 n98:=cfn_ok [] (by kernel_rfl) (by kernel_rfl) (by kernel_rfl) (by kernel_rfl)
theorem c327:CFn Tryz.prog rn (DJ Tryz.prog rn) Tryz.f182 n327:=cfn_ok [] (by kernel_rfl) (by kernel_rfl) (by kernel_rfl) (by kernel_rfl)
theorem c337:CFn Tryz.prog rn (DJ Tryz.prog rn) Tryz.f183 n337:=cfn_ok [] (by kernel_rfl) (by kernel_rfl) (by kernel_rfl) (by kernel_rfl)
theorem c99:CFn Tryz.prog rn (DJ Tryz.prog rn) Tryz.f184 n99:=cfn_ok [] (by kernel_rfl) (by kernel_rfl) (by kernel_rfl) (by kernel_rfl)
theorem c47:CFn Tryz.prog rn (DJ Tryz.prog rn) Tryz.f192 n47:=cfn_ok [] (by kernel_rfl) (by kernel_rfl) (by kernel_rfl) (by kernel_rfl)
theorem c331:CFn Tryz.prog rn (DJ Tryz.prog rn) Tryz.f224 n331:=cfn_ok [1] (by kernel_rfl) (by kernel_rfl) (by kernel_rfl) (by kernel_rfl)
theorem c321:CFn Tryz.prog rn (DJ Tryz.prog rn) Tryz.f225 n321:=cfn_ok [2] (by kernel_rfl) (by kernel_rfl) (by kernel_rfl) (by kernel_rfl)
theorem c332:CFn Tryz.prog rn (DJ Tryz.prog rn) Tryz.f226 n332:=cfn_ok [1] (by kernel_rfl) (by kernel_rfl) (by kernel_rfl) (by kernel_rfl)
theorem c322:CFn Tryz.prog rn (DJ Tryz.prog rn) Tryz.f227 n322:=cfn_ok [2] (by kernel_rfl) (by kernel_rfl) (by kernel_rfl) (by kernel_rfl)
theorem c333:CFn Tryz.prog rn (DJ Tryz.prog rn) Tryz.f228 n333:=cfn_ok [1] (by kernel_rfl) (by kernel_rfl) (by kernel_rfl) (by kernel_rfl)
theorem c323:CFn Tryz.prog rn (DJ Tryz.prog rn) Tryz.f229 n323:=cfn_ok [2] (by kernel_rfl) (by kernel_rfl) (by kernel_rfl) (by kernel_rfl)
theorem c339:CFn Tryz.prog rn (DJ Tryz.prog rn) Tryz.f230 n339:=cfn_ok [] (by kernel_rfl) (by kernel_rfl) (by kernel_rfl) (by kernel_rfl)
set_option maxRecDepth 100000 in
theorem all:AllOk Tryz.prog rn N0 tbl 0:=
 ⟨ok_none rfl,
  ok_none rfl,
  ok_none rfl,
  ok_none rfl,
  ok_none rfl,
  ok_some rfl Tryz.func5 c442,
  ok_none rfl,
  ok_some rfl Tryz.func7 c258,
  ok_cell rfl Tryz.func8 c259,
  ok_some rfl Tryz.func9 c439,
  ok_some rfl Tryz.func10 c341,
  ok_some rfl Tryz.func11 c343,
  ok_some rfl Tryz.func12 c434,
  ok_some rfl Tryz.func13 c342,
  ok_some rfl Tryz.func14 c261,
  ok_none rfl,
  ok_some rfl Tryz.func16 c262,
  ok_cell rfl Tryz.func17 c264,
  ok_some rfl Tryz.func18 c435,
  ok_none rfl,
  ok_some rfl Tryz.func20 c263,
  ok_some rfl Tryz.func21 c265,
  ok_some rfl Tryz.func22 c345,
  ok_none rfl,
  ok_some rfl Tryz.func24 c260,
  ok_some rfl Tryz.func25 c312,
  ok_some rfl Tryz.func26 c346,
  ok_some rfl Tryz.func27 c272,
  ok_some rfl Tryz.func28 c387,
  ok_cell rfl Tryz.func29 c375,
  ok_some rfl Tryz.func30 c273,
  ok_some rfl Tryz.func31 c376,
  ok_some rfl Tryz.func32 c390,
  ok_some rfl Tryz.func33 c380,
  ok_some rfl Tryz.func34 c384,
  ok_some rfl Tryz.func35 c391,
  ok_some rfl Tryz.func36 c274,
  ok_some rfl Tryz.func37 c392,
  ok_some rfl Tryz.func38 c372,
  ok_some rfl Tryz.func39 c385,
  ok_some rfl Tryz.func40 c267,
  ok_some rfl Tryz.func41 c275,
  ok_some rfl Tryz.func42 c276,
  ok_some rfl Tryz.func43 c278,
  ok_some rfl Tryz.func44 c277,
  ok_cell rfl Tryz.func45 c279,
  ok_some rfl Tryz.func46 c280,
  ok_some rfl Tryz.func47 c282,
  ok_some rfl Tryz.func48 c283,
  ok_some rfl Tryz.func49 c284,
  ok_some rfl Tryz.func50 c285,
  ok_some rfl Tryz.func51 c286,
  ok_some rfl Tryz.func52 c287,
  ok_some rfl Tryz.func53 c436,
  ok_some rfl Tryz.func54 c301,
  ok_none rfl,
  ok_cell rfl Tryz.func56 c378,
  ok_some rfl Tryz.func57 c379,
  ok_some rfl Tryz.func58 c281,
  ok_some rfl Tryz.func59 c382,
  ok_some rfl Tryz.func60 c56,
  ok_some rfl Tryz.func61 c383,
  ok_some rfl Tryz.func62 c266,
  ok_some rfl Tryz.func63 c268,
  ok_some rfl Tryz.func64 c203,
  ok_some rfl Tryz.func65 c269,
  ok_some rfl Tryz.func66 c270,
  ok_some rfl Tryz.func67 c271,
  ok_some rfl Tryz.func68 c66,
  ok_some rfl Tryz.func69 c64,
  ok_some rfl Tryz.func70 c402,
  ok_some rfl Tryz.func71 c394,
  ok_some rfl Tryz.func72 c395,
  ok_some rfl Tryz.func73 c396,
  ok_some rfl Tryz.func74 c397,
  ok_some rfl Tryz.func75 c398,
  ok_some rfl Tryz.func76 c399,
  ok_some rfl Tryz.func77 c298,
  ok_cell rfl Tryz.func78 c336,
  ok_some rfl Tryz.func79 c53,
  ok_some rfl Tryz.func80 c403,
  ok_some rfl Tryz.func81 c58,
  ok_some rfl Tryz.func82 c404,
  ok_some rfl Tryz.func83 c60,
  ok_cell rfl Tryz.func84 c295,
  ok_none rfl,
  ok_some rfl Tryz.func86 c388,
  ok_some rfl Tryz.func87 c289,
  ok_some rfl Tryz.func88 c290,
  ok_some rfl Tryz.func89 c291,
  ok_some rfl Tryz.func90 c292,
  ok_some rfl Tryz.func91 c293,
  ok_some rfl Tryz.func92 c294,
  ok_some rfl Tryz.func93 c296,
  ok_some rfl Tryz.func94 c297,
  ok_some rfl Tryz.func95 c299,
  ok_some rfl Tryz.func96 c300,
  ok_some rfl Tryz.func97 c302,
  ok_some rfl Tryz.func98 c44,
  ok_some rfl Tryz.func99 c303,
  ok_cell rfl Tryz.func100 c304,
  ok_some rfl Tryz.func101 c437,
  ok_some rfl Tryz.func102 c325,
  ok_some rfl Tryz.func103 c400,
  ok_cell rfl Tryz.func104 c401,
  ok_some rfl Tryz.func105 c74,
  ok_some rfl Tryz.func106 c76,
  ok_some rfl Tryz.func107 c75,
  ok_some rfl Tryz.func108 c288,
  ok_some rfl Tryz.func109 c386,
  ok_some rfl Tryz.func110 c406,
  ok_some rfl Tryz.func111 c408,
  ok_some rfl Tryz.func112 c407,
  ok_some rfl Tryz.func113 c409,
  ok_some rfl Tryz.func114 c410,
  ok_cell rfl Tryz.func115 c411,
  ok_some rfl Tryz.func116 c315,
  ok_some rfl Tryz.func117 c316,
  ok_some rfl Tryz.func118 c317,
  ok_some rfl Tryz.func119 c330,
  ok_some rfl Tryz.func120 c318,
  ok_some rfl Tryz.func121 c73,
  ok_some rfl Tryz.func122 c77,
  ok_some rfl Tryz.func123 c78,
  ok_some rfl Tryz.func124 c79,
  ok_some rfl Tryz.func125 c80,
  ok_some rfl Tryz.func126 c62,
  ok_some rfl Tryz.func127 c414,
  ok_some rfl Tryz.func128 c415,
  ok_none rfl,
  ok_none rfl,
  ok_none rfl,
  ok_none rfl,
  ok_none rfl,
  ok_none rfl,
  ok_some rfl Tryz.func135 c306,
  ok_some rfl Tryz.func136 c307,
  ok_some rfl Tryz.func137 c308,
  ok_some rfl Tryz.func138 c309,
  ok_some rfl Tryz.func139 c311,
  ok_some rfl Tryz.func140 c310,
  ok_some rfl Tryz.func141 c313,
  ok_some rfl Tryz.func142 c314,
  ok_some rfl Tryz.func143 c319,
  ok_some rfl Tryz.func144 c320,
  ok_some rfl Tryz.func145 c324,
  ok_some rfl Tryz.func146 c326,
  ok_some rfl Tryz.func147 c412,
  ok_some rfl Tryz.func148 c413,
  ok_some rfl Tryz.func149 c83,
  ok_some rfl Tryz.func150 c82,
  ok_some rfl Tryz.func151 c84,
  ok_some rfl Tryz.func152 c305,
  ok_some rfl Tryz.func153 c422,
  ok_some rfl Tryz.func154 c423,
  ok_some rfl Tryz.func155 c424,
  ok_cell rfl Tryz.func156 c425,
  ok_some rfl Tryz.func157 c329,
  ok_some rfl Tryz.func158 c335,
  ok_cell rfl Tryz.func159 c334,
  ok_some rfl Tryz.func160 c85,
  ok_some rfl Tryz.func161 c86,
  ok_some rfl Tryz.func162 c46,
  ok_some rfl Tryz.func163 c338,
  ok_none rfl,
  ok_none rfl,
  ok_none rfl,
  ok_none rfl,
  ok_none rfl,
  ok_some rfl Tryz.func169 c328,
  ok_some rfl Tryz.func170 c87,
  ok_none rfl,
  ok_none rfl,
  ok_none rfl,
  ok_none rfl,
  ok_none rfl,
  ok_some rfl Tryz.func176 c93,
  ok_none rfl,
  ok_none rfl,
  ok_none rfl,
  ok_some rfl Tryz.func180 c97,
  ok_some rfl Tryz.func181 c98,
  ok_some rfl Tryz.func182 c327,
  ok_some rfl Tryz.func183 c337,
  ok_some rfl Tryz.func184 c99,
  ok_none rfl,
  ok_none rfl,
  ok_none rfl,
  ok_none rfl,
  ok_none rfl,
  ok_none rfl,
  ok_none rfl,
  ok_some rfl Tryz.func192 c47,
  ok_none rfl,
  ok_none rfl,
  ok_none rfl,
  ok_none rfl,
  ok_none rfl,
  ok_none rfl,
  ok_none rfl,
  ok_none rfl,
  ok_none rfl,
  ok_none rfl,
  ok_none rfl,
  ok_none rfl,
  ok_none rfl,
  ok_none rfl,
  ok_none rfl,
  ok_none rfl,
  ok_none rfl,
  ok_none rfl,
  ok_none rfl,
  ok_none rfl,
  ok_none rfl,
  ok_none rfl,
  ok_none rfl,
  ok_none rfl,
  ok_none rfl,
  ok_none rfl,
  ok_none rfl,
  ok_none rfl,
  ok_none rfl,
  ok_none rfl,
  ok_none rfl,
  ok_some rfl Tryz.func224 c331,
  ok_some rfl Tryz.func225 c321,
  ok_some rfl Tryz.func226 c332,
  ok_some rfl Tryz.func227 c322,
  ok_some rfl Tryz.func228 c333,
  ok_some rfl Tryz.func229 c323,
  ok_some rfl Tryz.func230 c339,
  ok_none rfl,trivial⟩
theorem mixed:Tryz.prog.follows .mixedOrders=true:=by kernel_rfl
theorem hprog0:HProg Tryz.prog rn (DJ Tryz.prog rn) N0:=hprog_of all rfl
theorem awake_true:K.isTrueK (K.kCl N0 200 600 (rn 7) [] ⟨0,.nil⟩)=true:=by decide +kernel
theorem awake_given:PrimFn Tryz.prog 7 Tryz.f7 awakeN:=closed_quick hprog0 mixed (by kernel_rfl) (by kernel_rfl) awake_true
theorem hprog:HProg Tryz.prog rn (DJ Tryz.prog rn) N:=hprog_with hprog0 Tryz.func7 awake_given (by decide +kernel) (by decide)
end Camp.S
