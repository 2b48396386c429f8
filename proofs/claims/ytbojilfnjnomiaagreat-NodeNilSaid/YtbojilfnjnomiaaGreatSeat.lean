/- The seat's program is what the machine runs. Printed by a program of mine (seatgen.py). -/
import Derived.Test.YtbojilfnjnomiaaGreatCode
import Derived.Test.YtbojilfnjnomiaaGreatProg
set_option linter.unnecessarySimpa false
set_option linter.unusedVariables false
set_option linter.unusedSimpArgs false
set_option linter.unusedSectionVars false
namespace Camp.S
open Go Go.Proofs
def tbl:List Nat:=[1000000,1000000,1000000,340,341,342,262,343,261,344,345,265,312,346,347,263,258,272,1000000,1000000,260,1000000,278,277,279,280,1000000,1000000,1000000,1000000,1000000,1000000,1000000,274,1000000,267,1000000,1000000,1000000,1000000,1000000,1000000,1000000,1000000,1000000,66,1000000,259,264,1000000,1000000,266,268,203,269,270,271,294,295,296,297,298,299,290,291,300,292,1000000,1000000,1000000,1000000,1000000,1000000,336,1000000,1000000,1000000,1000000,60,1000000,1000000,293,1000000,1000000,1000000,1000000,1000000,282,283,284,285,286,287,288,311,310,313,314,315,316,317,330,318,319,320,309,324,1000000,1000000,1000000,1000000,1000000,1000000,1000000,1000000,1000000,1000000,1000000,1000000,1000000,1000000,1000000,1000000,1000000,1000000,1000000,1000000,1000000,1000000,1000000,1000000,1000000,1000000,1000000,1000000,1000000,301,302,44,303,304,305,328,329,335,334,1000000,1000000,1000000,1000000,1000000,1000000,1000000,338,1000000,1000000,1000000,1000000,1000000,1000000,1000000,1000000,1000000,1000000,1000000,1000000,1000000,1000000,1000000,1000000,1000000,325,326,327,337,1000000,1000000,1000000,1000000,1000000,1000000,1000000,1000000,1000000,1000000,1000000,1000000,1000000,1000000,1000000,1000000,1000000,1000000,1000000,1000000,1000000,1000000,1000000,1000000,1000000,1000000,1000000,1000000,1000000,1000000,1000000,1000000,1000000,1000000,1000000,1000000,1000000,1000000,1000000,1000000,331,321,332,322,333,323,339,1000000]
abbrev rn:FuncId→Nat:=rnOf tbl
theorem c340:CFn Tryz.prog rn (DJ Tryz.prog rn) Tryz.f3 n340:=cfn_ok [1] (by kernel_rfl) (by kernel_rfl) (by kernel_rfl) (by kernel_rfl)
theorem c341:CFn Tryz.prog rn (DJ Tryz.prog rn) Tryz.f4 n341:=cfn_ok [] (by kernel_rfl) (by kernel_rfl) (by kernel_rfl) (by kernel_rfl)
theorem c342:CFn Tryz.prog rn (DJ Tryz.prog rn) Tryz.f5 n342:=cfn_ok [] (by kernel_rfl) (by kernel_rfl) (by kernel_rfl) (by kernel_rfl)
theorem c262:CFn Tryz.prog rn (DJ Tryz.prog rn) Tryz.f6 n262:=cfn_ok [7] (by kernel_rfl) (by kernel_rfl) (by kernel_rfl) (by kernel_rfl)
theorem c343:CFn Tryz.prog rn (DJ Tryz.prog rn) Tryz.f7 n343:=cfn_ok [10] (by kernel_rfl) (by kernel_rfl) (by kernel_rfl) (by kernel_rfl)
theorem c261:CFn Tryz.prog rn (DJ Tryz.prog rn) Tryz.f8 n261:=cfn_ok [] (by kernel_rfl) (by kernel_rfl) (by kernel_rfl) (by kernel_rfl)
theorem c344:CFn Tryz.prog rn (DJ Tryz.prog rn) Tryz.f9 n344:=cfn_ok [10,14] (by kernel_rfl) (by kernel_rfl) (by kernel_rfl) (by kernel_rfl)
theorem c345:CFn Tryz.prog rn (DJ Tryz.prog rn) Tryz.f10 n345:=cfn_ok [6] (by kernel_rfl) (by kernel_rfl) (by kernel_rfl) (by kernel_rfl)
theorem c265:CFn Tryz.prog rn (DJ Tryz.prog rn) Tryz.f11 n265:=cfn_ok [] (by kernel_rfl) (by kernel_rfl) (by kernel_rfl) (by kernel_rfl)
theorem c312:CFn Tryz.prog rn (DJ Tryz.prog rn) Tryz.f12 n312:=cfn_ok [] (by kernel_rfl) (by kernel_rfl) (by kernel_rfl) (by kernel_rfl)
theorem c346:CFn Tryz.prog rn (DJ Tryz.prog rn) Tryz.f13 n346:=cfn_ok [] (by kernel_rfl) (by kernel_rfl) (by kernel_rfl) (by kernel_rfl)
theorem c347:CFn Tryz.prog rn (DJ Tryz.prog rn) Tryz.f14 n347:=cfn_ok [] (by kernel_rfl) (by kernel_rfl) (by kernel_rfl) (by kernel_rfl)
theorem c263:CFn Tryz.prog rn (DJ Tryz.prog rn) Tryz.f15 n263:=cfn_ok [] (by kernel_rfl) (by kernel_rfl) (by kernel_rfl) (by kernel_rfl)
theorem c258:CFn Tryz.prog rn (DJ Tryz.prog rn) Tryz.f16 n258:=cfn_ok [4] (by kernel_rfl) (by kernel_rfl) (by kernel_rfl) (by kernel_rfl)
theorem c272:CFn Tryz.prog rn (DJ Tryz.prog rn) Tryz.f17 n272:=cfn_ok [] (by kernel_rfl) (by kernel_rfl) (by kernel_rfl) (by kernel_rfl)
theorem c260:CFn Tryz.prog rn (DJ Tryz.prog rn) Tryz.f20 n260:=cfn_ok [2] (by kernel_rfl) (by kernel_rfl) (by kernel_rfl) (by kernel_rfl)
theorem c278:CFn Tryz.prog rn (DJ Tryz.prog rn) Tryz.f22 n278:=cfn_ok [] (by kernel_rfl) (by kernel_rfl) (by kernel_rfl) (by kernel_rfl)
theorem c277:CFn Tryz.prog rn (DJ Tryz.prog rn) Tryz.f23 n277:=cfn_ok [] (by kernel_rfl) (by kernel_rfl) (by kernel_rfl) (by kernel_rfl)
theorem c279:CFnC Tryz.prog rn (DJ Tryz.prog rn) Tryz.f24 n279:=cfn_cell [] [] [] 4 25 (some 6) (by kernel_rfl) (by kernel_rfl) (by kernel_rfl) (by decide) (by decide) (by kernel_rfl) (by kernel_rfl)
theorem c280:CFn Tryz.prog rn (DJ Tryz.prog rn) Tryz.f25 n280:=cfn_ok [1] (by kernel_rfl) (by kernel_rfl) (by kernel_rfl) (by kernel_rfl)
theorem c274:CFn Tryz.prog rn (DJ Tryz.prog rn) Tryz.f33 n274:=cfn_ok [] (by kernel_rfl) (by kernel_rfl) (by kernel_rfl) (by kernel_rfl)
theorem c267:CFn Tryz.prog rn (DJ Tryz.prog rn) Tryz.f35 n267:=cfn_ok [] (by kernel_rfl) (by kernel_rfl) (by kernel_rfl) (by kernel_rfl)
theorem c66:CFn Tryz.prog rn (DJ Tryz.prog rn) Tryz.f45 n66:=cfn_ok [] (by kernel_rfl) (by kernel_rfl) (by kernel_rfl) (by kernel_rfl)
theorem c259:CFnC Tryz.prog rn (DJ Tryz.prog rn) Tryz.f47 n259:=cfn_cell [17] [] [] 14 51 (some 9) (by kernel_rfl) (by kernel_rfl) (by kernel_rfl) (by decide) (by decide) (by kernel_rfl) (by kernel_rfl)
theorem c264:CFnC Tryz.prog rn (DJ Tryz.prog rn) Tryz.f48 n264:=cfn_cell [4,7] [] [3] 2 25 (some 6) (by kernel_rfl) (by kernel_rfl) (by kernel_rfl) (by decide) (by decide) (by kernel_rfl) (by kernel_rfl)
theorem c266:CFn Tryz.prog rn (DJ Tryz.prog rn) Tryz.f51 n266:=cfn_ok [1] (by kernel_rfl) (by kernel_rfl) (by kernel_rfl) (by kernel_rfl)
theorem c268:CFn Tryz.prog rn (DJ Tryz.prog rn) Tryz.f52 n268:=cfn_ok [] (by kernel_rfl) (by kernel_rfl) (by kernel_rfl) (by kernel_rfl)
theorem c203:CFn Tryz.prog rn (DJ Tryz.prog rn) Tryz.f53 n203:=cfn_ok [] (by kernel_rfl) (by kernel_rfl) (by kernel_rfl) (by kernel_rfl)
theorem c269:CFn Tryz.prog rn (DJ Tryz.prog rn) Tryz.f54 n269:=cfn_ok [] (by kernel_rfl) (by kernel_rfl) (by kernel_rfl) (by kernel_rfl)
theorem c270:CFn Tryz.prog rn (DJ Tryz.prog rn) Tryz.f55 n270:=cfn_ok [] (by kernel_rfl) (by kernel_rfl) (by kernel_rfl) (by kernel_rfl)
theorem c271:CFn Tryz.prog rn (DJ Tryz.prog rn) Tryz.f56 n271:=cfn_ok [] (by kernel_rfl) (by kernel_rfl) (by kernel_rfl) (by kernel_rfl)
theorem c294:CFn Tryz.prog rn (DJ Tryz.prog rn) Tryz.f57 n294:=cfn_ok [] (by kernel_rfl) (by kernel_rfl) (by kernel_rfl) (by kernel_rfl)
theorem c295:CFnC Tryz.prog rn (DJ Tryz.prog rn) Tryz.f58 n295:=cfn_cell [] [] [] 4 102 (some 5) (by kernel_rfl) (by kernel_rfl) (by kernel_rfl) (by decide) (by decide) (by kernel_rfl) (by kernel_rfl)
theorem c296:CFn Tryz.prog rn (DJ Tryz.prog rn) Tryz.f59 n296:=cfn_ok [] (by kernel_rfl) (by kernel_rfl) (by kernel_rfl) (by kernel_rfl)
theorem c297:CFn Tryz.prog rn (DJ Tryz.prog rn) Tryz.f60 n297:=cfn_ok [] (by kernel_rfl) (by kernel_rfl) (by kernel_rfl) (by kernel_rfl)
theorem c298:CFn Tryz.prog rn (DJ Tryz.prog rn) Tryz.f61 n298:=cfn_ok [1] (by kernel_rfl) (by kernel_rfl) (by kernel_rfl) (by kernel_rfl)
theorem c299:CFn Tryz.prog rn (DJ Tryz.prog rn) Tryz.f62 n299:=cfn_ok [6] (by kernel_rfl) (by kernel_rfl) (by kernel_rfl) (by kernel_rfl)
theorem c290:CFn Tryz.prog rn (DJ Tryz.prog rn) Tryz.f63 n290:=cfn_ok [31] (by kernel_rfl) (by kernel_rfl) (by kernel_rfl) (by kernel_rfl)
theorem c291:CFn Tryz.prog rn (DJ Tryz.prog rn) Tryz.f64 n291:=cfn_ok [] (by kernel_rfl) (by kernel_rfl) (by kernel_rfl) (by kernel_rfl)
theorem c300:CFn Tryz.prog rn (DJ Tryz.prog rn) Tryz.f65 n300:=cfn_ok [13] (by kernel_rfl) (by kernel_rfl) (by kernel_rfl) (by kernel_rfl)
theorem c292:CFn Tryz.prog rn (DJ Tryz.prog rn) Tryz.f66 n292:=cfn_ok [] (by kernel_rfl) (by kernel_rfl) (by kernel_rfl) (by kernel_rfl)
theorem c336:CFnC Tryz.prog rn (DJ Tryz.prog rn) Tryz.f73 n336:=cfn_cell [7] [] [5] 4 102 (some 5) (by kernel_rfl) (by kernel_rfl) (by kernel_rfl) (by decide) (by decide) (by kernel_rfl) (by kernel_rfl)
theorem c60:CFn Tryz.prog rn (DJ Tryz.prog rn) Tryz.f78 n60:=cfn_ok [] (by kernel_rfl) (by kernel_rfl) (by kernel_rfl) (by kernel_rfl)
theorem c293:CFn Tryz.prog rn (DJ Tryz.prog rn) Tryz.f81 n293:=cfn_ok [] (by kernel_rfl) (by kernel_rfl) (by kernel_rfl) (by kernel_rfl)
theorem c282:CFn Tryz.prog rn (DJ Tryz.prog rn) Tryz.f87 n282:=cfn_ok [] (by kernel_rfl) (by kernel_rfl) (by kernel_rfl) (by kernel_rfl)
theorem c283:CFn Tryz.prog rn (DJ Tryz.prog rn) Tryz.f88 n283:=cfn_ok [] (by kernel_rfl) (by kernel_rfl) (by kernel_rfl) (by kernel_rfl)
theorem c284:CFn Tryz.prog rn (DJ Tryz.prog rn) Tryz.f89 n284:=cfn_ok [] (by kernel_rfl) (by kernel_rfl) (by kernel_rfl) (by kernel_rfl)
theorem c285:CFn Tryz.prog rn (DJ Tryz.prog rn) Tryz.f90 n285:=cfn_ok [] (by kernel_rfl) (by kernel_rfl) (by kernel_rfl) (by kernel_rfl)
theorem c286:CFn Tryz.prog rn (DJ Tryz.prog rn) Tryz.f91 n286:=cfn_ok [7,101,123] (by kernel_rfl) (by kernel_rfl) (by kernel_rfl) (by kernel_rfl)
theorem c287:CFn Tryz.prog rn (DJ Tryz.prog rn) Tryz.f92 n287:=cfn_ok [1,4,5] (by kernel_rfl) (by kernel_rfl) (by kernel_rfl) (by kernel_rfl)
theorem c288:CFn Tryz.prog rn (DJ Tryz.prog rn) Tryz.f93 n288:=cfn_ok [] (by kernel_rfl) (by kernel_rfl) (by kernel_rfl) (by kernel_rfl)
theorem c311:CFn Tryz.prog rn (DJ Tryz.prog rn) Tryz.f94 n311:=cfn_ok [] (by kernel_rfl) (by kernel_rfl) (by kernel_rfl) (by kernel_rfl)
theorem c310:CFn Tryz.prog rn (DJ Tryz.prog rn) Tryz.f95 n310:=cfn_ok [] (by kernel_rfl) (by kernel_rfl) (by kernel_rfl) (by kernel_rfl)
theorem c313:CFn Tryz.prog rn (DJ Tryz.prog rn) Tryz.f96 n313:=cfn_ok [] (by kernel_rfl) (by kernel_rfl) (by kernel_rfl) (by kernel_rfl)
theorem c314:CFn Tryz.prog rn (DJ Tryz.prog rn) Tryz.f97 n314:=cfn_ok [5,20] (by kernel_rfl) (by kernel_rfl) (by kernel_rfl) (by kernel_rfl)
theorem c315:CFn Tryz.prog rn (DJ Tryz.prog rn) Tryz.f98 n315:=cfn_ok [] (by kernel_rfl) (by kernel_rfl) (by kernel_rfl) (by kernel_rfl)
theorem c316:CFn Tryz.prog rn (DJ Tryz.prog rn) Tryz.f99 n316:=cfn_ok [] (by kernel_rfl) (by kernel_rfl) (by kernel_rfl) (by kernel_rfl)
theorem c317:CFn Tryz.prog rn (DJ Tryz.prog rn) Tryz.f100 n317:=cfn_ok [1] (by kernel_rfl) (by kernel_rfl) (by kernel_rfl) (by kernel_rfl)
theorem c330:CFn Tryz.prog rn (DJ Tryz.prog rn) Tryz.f101 n330:=cfn_ok [1] (by kernel_rfl) (by kernel_rfl) (by kernel_rfl) (by kernel_rfl)
theorem c318:CFn Tryz.prog rn (DJ Tryz.prog rn) Tryz.f102 n318:=cfn_ok [1,3] (by kernel_rfl) (by kernel_rfl) (by kernel_rfl) (by kernel_rfl)
theorem c319:CFn Tryz.prog rn (DJ Tryz.prog rn) Tryz.f103 n319:=cfn_ok [1] (by kernel_rfl) (by kernel_rfl) (by kernel_rfl) (by kernel_rfl)
theorem c320:CFn Tryz.prog rn (DJ Tryz.prog rn) Tryz.f104 n320:=cfn_ok [1] (by kernel_rfl) (by kernel_rfl) (by kernel_rfl) (by kernel_rfl)
theorem c309:CFn Tryz.prog rn (DJ Tryz.prog rn) Tryz.f105 n309:=cfn_ok [] (by kernel_rfl) (by kernel_rfl) (by kernel_rfl) (by kernel_rfl)
theorem c324:CFn Tryz.prog rn (DJ Tryz.prog rn) Tryz.f106 n324:=cfn_ok [] (by kernel_rfl) (by kernel_rfl) (by kernel_rfl) (by kernel_rfl)
theorem c301:CFn Tryz.prog rn (DJ Tryz.prog rn) Tryz.f136 n301:=cfn_ok [13] (by kernel_rfl) (by kernel_rfl) (by kernel_rfl) (by kernel_rfl)
theorem c302:CFn Tryz.prog rn (DJ Tryz.prog rn) Tryz.f137 n302:=cfn_ok [] (by kernel_rfl) (by kernel_rfl) (by kernel_rfl) (by kernel_rfl)
theorem c44:CFn Tryz.prog rn (DJ Tryz.prog rn) Tryz.f138 n44:=cfn_ok [] (by kernel_rfl) (by kernel_rfl) (by kernel_rfl) (by kernel_rfl)
theorem c303:CFn Tryz.prog rn (DJ Tryz.prog rn) Tryz.f139 n303:=cfn_ok [1] (by kernel_rfl) (by kernel_rfl) (by kernel_rfl) (by kernel_rfl)
theorem c304:CFnC Tryz.prog rn (DJ Tryz.prog rn) Tryz.f140 n304:=cfn_cell [7] [] [5] 4 102 (some 5) (by kernel_rfl) (by kernel_rfl) (by kernel_rfl) (by decide) (by decide) (by kernel_rfl) (by kernel_rfl)
theorem c305:CFn Tryz.prog rn (DJ Tryz.prog rn) Tryz.f141 n305:=cfn_ok [] (by kernel_rfl) (by kernel_rfl) (by kernel_rfl) (by kernel_rfl)
theorem c328:CFn Tryz.prog rn (DJ Tryz.prog rn) Tryz.f142 n328:=cfn_ok [] (by kernel_rfl) (by kernel_rfl) (by kernel_rfl) (by kernel_rfl)
theorem c329:CFn Tryz.prog rn (DJ Tryz.prog rn) Tryz.f143 n329:=cfn_ok [] (by kernel_rfl) (by kernel_rfl) (by kernel_rfl) (by kernel_rfl)
theorem c335:CFn Tryz.prog rn (DJ Tryz.prog rn) Tryz.f144 n335:=cfn_ok [2,3] (by kernel_rfl) (by kernel_rfl) (by kernel_rfl) (by kernel_rfl)
theorem c334:CFnC Tryz.prog rn (DJ Tryz.prog rn) Tryz.f145 n334:=cfn_cell [5,6,8,10] [] [] 4 102 (some 5) (by kernel_rfl) (by kernel_rfl) (by kernel_rfl) (by decide) (by decide) (by kernel_rfl) (by kernel_rfl)
theorem c338:CFn Tryz.prog rn (DJ Tryz.prog rn) Tryz.f153 n338:=cfn_ok [] (by kernel_rfl) (by kernel_rfl) (by kernel_rfl) (by kernel_rfl)
theorem c325:CFn Tryz.prog rn (DJ Tryz.prog rn) Tryz.f171 n325:=cfn_ok [] (by kernel_rfl) (by kernel_rfl) (by kernel_rfl) (by kernel_rfl)
theorem c326:CFn Tryz.prog rn (DJ Tryz.prog rn) Tryz.f172 n326:=cfn_ok [] (by kernel_rfl) (by kernel_rfl) (by kernel_rfl) (by kernel_rfl)
theorem c327:CFn Tryz.prog rn (DJ Tryz.prog rn) Tryz.f173 n327:=cfn_ok [] (by kernel_rfl) (by kernel_rfl) (by kernel_rfl) (by kernel_rfl)
theorem c337:CFn Tryz.prog rn (DJ Tryz.prog rn) Tryz.f174 n337:=cfn_ok [] (by kernel_rfl) (by kernel_rfl) (by kernel_rfl) (by kernel_rfl)
theorem c331:CFn Tryz.prog rn (DJ Tryz.prog rn) Tryz.f215 n331:=cfn_ok [1] (by kernel_rfl) (by kernel_rfl) (by kernel_rfl) (by kernel_rfl)
theorem c321:CFn Tryz.prog rn (DJ Tryz.prog rn) Tryz.f216 n321:=cfn_ok [2] (by kernel_rfl) (by kernel_rfl) (by kernel_rfl) (by kernel_rfl)
theorem c332:CFn Tryz.prog rn (DJ Tryz.prog rn) Tryz.f217 n332:=cfn_ok [1] (by kernel_rfl) (by kernel_rfl) (by kernel_rfl) (by kernel_rfl)
theorem c322:CFn Tryz.prog rn (DJ Tryz.prog rn) Tryz.f218 n322:=cfn_ok [2] (by kernel_rfl) (by kernel_rfl) (by kernel_rfl) (by kernel_rfl)
theorem c333:CFn Tryz.prog rn (DJ Tryz.prog rn) Tryz.f219 n333:=cfn_ok [1] (by kernel_rfl) (by kernel_rfl) (by kernel_rfl) (by kernel_rfl)
theorem c323:CFn Tryz.prog rn (DJ Tryz.prog rn) Tryz.f220 n323:=cfn_ok [2] (by kernel_rfl) (by kernel_rfl) (by kernel_rfl) (by kernel_rfl)
theorem c339:CFn Tryz.prog rn (DJ Tryz.prog rn) Tryz.f221 n339:=cfn_ok [] (by kernel_rfl) (by kernel_rfl) (by kernel_rfl) (by kernel_rfl)
set_option maxRecDepth 100000 in
theorem all:AllOk Tryz.prog rn N0 tbl 0:=
 ⟨ok_none rfl,
  ok_none rfl,
  ok_none rfl,
  ok_some rfl Tryz.func3 c340,
  ok_some rfl Tryz.func4 c341,
  ok_some rfl Tryz.func5 c342,
  ok_some rfl Tryz.func6 c262,
  ok_some rfl Tryz.func7 c343,
  ok_some rfl Tryz.func8 c261,
  ok_some rfl Tryz.func9 c344,
  ok_some rfl Tryz.func10 c345,
  ok_some rfl Tryz.func11 c265,
  ok_some rfl Tryz.func12 c312,
  ok_some rfl Tryz.func13 c346,
  ok_some rfl Tryz.func14 c347,
  ok_some rfl Tryz.func15 c263,
  ok_some rfl Tryz.func16 c258,
  ok_some rfl Tryz.func17 c272,
  ok_none rfl,
  ok_none rfl,
  ok_some rfl Tryz.func20 c260,
  ok_none rfl,
  ok_some rfl Tryz.func22 c278,
  ok_some rfl Tryz.func23 c277,
  ok_cell rfl Tryz.func24 c279,
  ok_some rfl Tryz.func25 c280,
  ok_none rfl,
  ok_none rfl,
  ok_none rfl,
  ok_none rfl,
  ok_none rfl,
  ok_none rfl,
  ok_none rfl,
  ok_some rfl Tryz.func33 c274,
  ok_none rfl,
  ok_some rfl Tryz.func35 c267,
  ok_none rfl,
  ok_none rfl,
  ok_none rfl,
  ok_none rfl,
  ok_none rfl,
  ok_none rfl,
  ok_none rfl,
  ok_none rfl,
  ok_none rfl,
  ok_some rfl Tryz.func45 c66,
  ok_none rfl,
  ok_cell rfl Tryz.func47 c259,
  ok_cell rfl Tryz.func48 c264,
  ok_none rfl,
  ok_none rfl,
  ok_some rfl Tryz.func51 c266,
  ok_some rfl Tryz.func52 c268,
  ok_some rfl Tryz.func53 c203,
  ok_some rfl Tryz.func54 c269,
  ok_some rfl Tryz.func55 c270,
  ok_some rfl Tryz.func56 c271,
  ok_some rfl Tryz.func57 c294,
  ok_cell rfl Tryz.func58 c295,
  ok_some rfl Tryz.func59 c296,
  ok_some rfl Tryz.func60 c297,
  ok_some rfl Tryz.func61 c298,
  ok_some rfl Tryz.func62 c299,
  ok_some rfl Tryz.func63 c290,
  ok_some rfl Tryz.func64 c291,
  ok_some rfl Tryz.func65 c300,
  ok_some rfl Tryz.func66 c292,
  ok_none rfl,
  ok_none rfl,
  ok_none rfl,
  ok_none rfl,
  ok_none rfl,
  ok_none rfl,
  ok_cell rfl Tryz.func73 c336,
  ok_none rfl,
  ok_none rfl,
  ok_none rfl,
  ok_none rfl,
  ok_some rfl Tryz.func78 c60,
  ok_none rfl,
  ok_none rfl,
  ok_some rfl Tryz.func81 c293,
  ok_none rfl,
  ok_none rfl,
  ok_none rfl,
  ok_none rfl,
  ok_none rfl,
  ok_some rfl Tryz.func87 c282,
  ok_some rfl Tryz.func88 c283,
  ok_some rfl Tryz.func89 c284,
  ok_some rfl Tryz.func90 c285,
  ok_some rfl Tryz.func91 c286,
  ok_some rfl Tryz.func92 c287,
  ok_some rfl Tryz.func93 c288,
  ok_some rfl Tryz.func94 c311,
  ok_some rfl Tryz.func95 c310,
  ok_some rfl Tryz.func96 c313,
  ok_some rfl Tryz.func97 c314,
  ok_some rfl Tryz.func98 c315,
  ok_some rfl Tryz.func99 c316,
  ok_some rfl Tryz.func100 c317,
  ok_some rfl Tryz.func101 c330,
  ok_some rfl Tryz.func102 c318,
  ok_some rfl Tryz.func103 c319,
  ok_some rfl Tryz.func104 c320,
  ok_some rfl Tryz.func105 c309,
  ok_some rfl Tryz.func106 c324,
  ok_none rfl,
  ok_none rfl,
  ok_none rfl,
  ok_none rfl,
  ok_none rfl,
  ok_none rfl,
  ok_none rfl,
  ok_none rfl,
  ok_none rfl,
  ok_none rfl,
  ok_none rfl,
  ok_none rfl,
  ok_none rfl,
  ok_none rfl,
  ok_none rfl,
  ok_none rfl,
  ok_none rfl,
  ok_none rfl,
  ok_none rfl,
  ok_none rfl,
  ok_none rfl,
  ok_none rfl,
  ok_none rfl,
  ok_none rfl,
  ok_none rfl,
  ok_none rfl,
  ok_none rfl,
  ok_none rfl,
  ok_none rfl,
  ok_some rfl Tryz.func136 c301,
  ok_some rfl Tryz.func137 c302,
  ok_some rfl Tryz.func138 c44,
  ok_some rfl Tryz.func139 c303,
  ok_cell rfl Tryz.func140 c304,
  ok_some rfl Tryz.func141 c305,
  ok_some rfl Tryz.func142 c328,
  ok_some rfl Tryz.func143 c329,
  ok_some rfl Tryz.func144 c335,
  ok_cell rfl Tryz.func145 c334,
  ok_none rfl,
  ok_none rfl,
  ok_none rfl,
  ok_none rfl,
  ok_none rfl,
  ok_none rfl,
  ok_none rfl,
  ok_some rfl Tryz.func153 c338,
  ok_none rfl,
  ok_none rfl,
  ok_none rfl,
  ok_none rfl,
  ok_none rfl,
  ok_none rfl,
  ok_none rfl,
  ok_none rfl,
  ok_none rfl,
  ok_none rfl,
  ok_none rfl,
  ok_none rfl,
  ok_none rfl,
  ok_none rfl,
  ok_none rfl,
  ok_none rfl,
  ok_none rfl,
  ok_some rfl Tryz.func171 c325,
  ok_some rfl Tryz.func172 c326,
  ok_some rfl Tryz.func173 c327,
  ok_some rfl Tryz.func174 c337,
  ok_none rfl,
  ok_none rfl,
  ok_none rfl,
  ok_none rfl,
  ok_none rfl,
  ok_none rfl,
  ok_none rfl,
  ok_none rfl,
  ok_none rfl,
  ok_none rfl,
  ok_none rfl,
  ok_none rfl,
  ok_none rfl,
  ok_none rfl,
  ok_none rfl,
  ok_none rfl,
  ok_none rfl,
  ok_none rfl,
  ok_none rfl,
  ok_none rfl,
  ok_none rfl,
  ok_none rfl,
  ok_none rfl,
  ok_none rfl,
  ok_none rfl,
  ok_none rfl,
  ok_none rfl,
  ok_none rfl,
  ok_none rfl,
  ok_none rfl,
  ok_none rfl,
  ok_none rfl,
  ok_none rfl,
  ok_none rfl,
  ok_none rfl,
  ok_none rfl,
  ok_none rfl,
  ok_none rfl,
  ok_none rfl,
  ok_none rfl,
  ok_some rfl Tryz.func215 c331,
  ok_some rfl Tryz.func216 c321,
  ok_some rfl Tryz.func217 c332,
  ok_some rfl Tryz.func218 c322,
  ok_some rfl Tryz.func219 c333,
  ok_some rfl Tryz.func220 c323,
  ok_some rfl Tryz.func221 c339,
  ok_none rfl,trivial⟩
theorem mixed:Tryz.prog.follows .mixedOrders=true:=by kernel_rfl
theorem hprog0:HProg Tryz.prog rn (DJ Tryz.prog rn) N0:=hprog_of all rfl
theorem awake_true:K.isTrueK (K.kCl N0 200 600 (rn 16) [] ⟨0,.nil⟩)=true:=by decide +kernel
theorem awake_given:PrimFn Tryz.prog 16 Tryz.f16 awakeN:=closed_quick hprog0 mixed (by kernel_rfl) (by kernel_rfl) awake_true
theorem hprog:HProg Tryz.prog rn (DJ Tryz.prog rn) N:=hprog_with hprog0 Tryz.func16 awake_given (by decide +kernel) (by decide)
end Camp.S
