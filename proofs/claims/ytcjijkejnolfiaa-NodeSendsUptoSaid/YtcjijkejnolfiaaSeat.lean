/- The seat's program is what the machine runs. Printed by a program of mine (seatgen.py). -/
import Derived.Test.YtcjijkejnolfiaaCode
import Derived.Test.YtcjijkejnolfiaaProg
set_option linter.unnecessarySimpa false
set_option linter.unusedVariables false
set_option linter.unusedSimpArgs false
set_option linter.unusedSectionVars false
namespace Camp.S
open Go Go.Proofs
def tbl:List Nat:=[1000000,1000000,1000000,256,257,258,259,260,261,262,263,264,265,266,267,268,203,269,270,271,272,273,274,275,276,278,277,279,280,281,282,283,284,285,286,287,288,60,289,290,291,292,293,294,295,296,297,298,299,300,301,302,44,303,304,305,306,307,308,309,311,310,312,313,314,315,316,317,330,318,319,320,324,325,326,327,328,66,329,335,334,336,337,1000000,1000000,1000000,1000000,1000000,1000000,1000000,1000000,1000000,1000000,1000000,1000000,1000000,1000000,1000000,1000000,1000000,1000000,1000000,1000000,331,321,332,322,333,323,338,339,1000000]
abbrev rn:FuncId→Nat:=rnOf tbl
theorem c256:CFn Try.prog rn (DJ Try.prog rn) Try.f3 n256:=cfn_ok [7,11,15] (by kernel_rfl) (by kernel_rfl) (by kernel_rfl) (by kernel_rfl)
theorem c257:CFn Try.prog rn (DJ Try.prog rn) Try.f4 n257:=cfn_ok [5,7] (by kernel_rfl) (by kernel_rfl) (by kernel_rfl) (by kernel_rfl)
theorem c258:CFn Try.prog rn (DJ Try.prog rn) Try.f5 n258:=cfn_ok [4] (by kernel_rfl) (by kernel_rfl) (by kernel_rfl) (by kernel_rfl)
theorem c259:CFnC Try.prog rn (DJ Try.prog rn) Try.f6 n259:=cfn_cell [17] [] [] 14 28 (some 9) (by kernel_rfl) (by kernel_rfl) (by kernel_rfl) (by decide) (by decide) (by kernel_rfl) (by kernel_rfl)
theorem c260:CFn Try.prog rn (DJ Try.prog rn) Try.f7 n260:=cfn_ok [2] (by kernel_rfl) (by kernel_rfl) (by kernel_rfl) (by kernel_rfl)
theorem c261:CFn Try.prog rn (DJ Try.prog rn) Try.f8 n261:=cfn_ok [] (by kernel_rfl) (by kernel_rfl) (by kernel_rfl) (by kernel_rfl)
theorem c262:CFn Try.prog rn (DJ Try.prog rn) Try.f9 n262:=cfn_ok [7] (by kernel_rfl) (by kernel_rfl) (by kernel_rfl) (by kernel_rfl)
theorem c263:CFn Try.prog rn (DJ Try.prog rn) Try.f10 n263:=cfn_ok [] (by kernel_rfl) (by kernel_rfl) (by kernel_rfl) (by kernel_rfl)
theorem c264:CFnC Try.prog rn (DJ Try.prog rn) Try.f11 n264:=cfn_cell [4,7] [] [3] 2 35 (some 6) (by kernel_rfl) (by kernel_rfl) (by kernel_rfl) (by decide) (by decide) (by kernel_rfl) (by kernel_rfl)
theorem c265:CFn Try.prog rn (DJ Try.prog rn) Try.f12 n265:=cfn_ok [] (by kernel_rfl) (by kernel_rfl) (by kernel_rfl) (by kernel_rfl)
theorem c266:CFn Try.prog rn (DJ Try.prog rn) Try.f13 n266:=cfn_ok [1] (by kernel_rfl) (by kernel_rfl) (by kernel_rfl) (by kernel_rfl)
theorem c267:CFn Try.prog rn (DJ Try.prog rn) Try.f14 n267:=cfn_ok [] (by kernel_rfl) (by kernel_rfl) (by kernel_rfl) (by kernel_rfl)
theorem c268:CFn Try.prog rn (DJ Try.prog rn) Try.f15 n268:=cfn_ok [] (by kernel_rfl) (by kernel_rfl) (by kernel_rfl) (by kernel_rfl)
theorem c203:CFn Try.prog rn (DJ Try.prog rn) Try.f16 n203:=cfn_ok [] (by kernel_rfl) (by kernel_rfl) (by kernel_rfl) (by kernel_rfl)
theorem c269:CFn Try.prog rn (DJ Try.prog rn) Try.f17 n269:=cfn_ok [] (by kernel_rfl) (by kernel_rfl) (by kernel_rfl) (by kernel_rfl)
theorem c270:CFn Try.prog rn (DJ Try.prog rn) Try.f18 n270:=cfn_ok [] (by kernel_rfl) (by kernel_rfl) (by kernel_rfl) (by kernel_rfl)
theorem c271:CFn Try.prog rn (DJ Try.prog rn) Try.f19 n271:=cfn_ok [] (by kernel_rfl) (by kernel_rfl) (by kernel_rfl) (by kernel_rfl)
theorem c272:CFn Try.prog rn (DJ Try.prog rn) Try.f20 n272:=cfn_ok [] (by kernel_rfl) (by kernel_rfl) (by kernel_rfl) (by kernel_rfl)
theorem c273:CFn Try.prog rn (DJ Try.prog rn) Try.f21 n273:=cfn_ok [] (by kernel_rfl) (by kernel_rfl) (by kernel_rfl) (by kernel_rfl)
theorem c274:CFn Try.prog rn (DJ Try.prog rn) Try.f22 n274:=cfn_ok [] (by kernel_rfl) (by kernel_rfl) (by kernel_rfl) (by kernel_rfl)
theorem c275:CFn Try.prog rn (DJ Try.prog rn) Try.f23 n275:=cfn_ok [1] (by kernel_rfl) (by kernel_rfl) (by kernel_rfl) (by kernel_rfl)
theorem c276:CFn Try.prog rn (DJ Try.prog rn) Try.f24 n276:=cfn_ok [] (by kernel_rfl) (by kernel_rfl) (by kernel_rfl) (by kernel_rfl)
theorem c278:CFn Try.prog rn (DJ Try.prog rn) Try.f25 n278:=cfn_ok [] (by kernel_rfl) (by kernel_rfl) (by kernel_rfl) (by kernel_rfl)
theorem c277:CFn Try.prog rn (DJ Try.prog rn) Try.f26 n277:=cfn_ok [] (by kernel_rfl) (by kernel_rfl) (by kernel_rfl) (by kernel_rfl)
theorem c279:CFnC Try.prog rn (DJ Try.prog rn) Try.f27 n279:=cfn_cell [] [] [] 4 35 (some 6) (by kernel_rfl) (by kernel_rfl) (by kernel_rfl) (by decide) (by decide) (by kernel_rfl) (by kernel_rfl)
theorem c280:CFn Try.prog rn (DJ Try.prog rn) Try.f28 n280:=cfn_ok [1] (by kernel_rfl) (by kernel_rfl) (by kernel_rfl) (by kernel_rfl)
theorem c281:CFn Try.prog rn (DJ Try.prog rn) Try.f29 n281:=cfn_ok [] (by kernel_rfl) (by kernel_rfl) (by kernel_rfl) (by kernel_rfl)
theorem c282:CFn Try.prog rn (DJ Try.prog rn) Try.f30 n282:=cfn_ok [] (by kernel_rfl) (by kernel_rfl) (by kernel_rfl) (by kernel_rfl)
theorem c283:CFn Try.prog rn (DJ Try.prog rn) Try.f31 n283:=cfn_ok [] (by kernel_rfl) (by kernel_rfl) (by kernel_rfl) (by kernel_rfl)
theorem c284:CFn Try.prog rn (DJ Try.prog rn) Try.f32 n284:=cfn_ok [] (by kernel_rfl) (by kernel_rfl) (by kernel_rfl) (by kernel_rfl)
theorem c285:CFn Try.prog rn (DJ Try.prog rn) Try.f33 n285:=cfn_ok [] (by kernel_rfl) (by kernel_rfl) (by kernel_rfl) (by kernel_rfl)
theorem c286:CFn Try.prog rn (DJ Try.prog rn) Try.f34 n286:=cfn_ok [7,101,123] (by kernel_rfl) (by kernel_rfl) (by kernel_rfl) (by kernel_rfl)
theorem c287:CFn Try.prog rn (DJ Try.prog rn) Try.f35 n287:=cfn_ok [1,4,5] (by kernel_rfl) (by kernel_rfl) (by kernel_rfl) (by kernel_rfl)
theorem c288:CFn Try.prog rn (DJ Try.prog rn) Try.f36 n288:=cfn_ok [] (by kernel_rfl) (by kernel_rfl) (by kernel_rfl) (by kernel_rfl)
theorem c60:CFn Try.prog rn (DJ Try.prog rn) Try.f37 n60:=cfn_ok [] (by kernel_rfl) (by kernel_rfl) (by kernel_rfl) (by kernel_rfl)
theorem c289:CFn Try.prog rn (DJ Try.prog rn) Try.f38 n289:=cfn_ok [1] (by kernel_rfl) (by kernel_rfl) (by kernel_rfl) (by kernel_rfl)
theorem c290:CFn Try.prog rn (DJ Try.prog rn) Try.f39 n290:=cfn_ok [31] (by kernel_rfl) (by kernel_rfl) (by kernel_rfl) (by kernel_rfl)
theorem c291:CFn Try.prog rn (DJ Try.prog rn) Try.f40 n291:=cfn_ok [] (by kernel_rfl) (by kernel_rfl) (by kernel_rfl) (by kernel_rfl)
theorem c292:CFn Try.prog rn (DJ Try.prog rn) Try.f41 n292:=cfn_ok [] (by kernel_rfl) (by kernel_rfl) (by kernel_rfl) (by kernel_rfl)
theorem c293:CFn Try.prog rn (DJ Try.prog rn) Try.f42 n293:=cfn_ok [] (by kernel_rfl) (by kernel_rfl) (by kernel_rfl) (by kernel_rfl)
theorem c294:CFn Try.prog rn (DJ Try.prog rn) Try.f43 n294:=cfn_ok [] (by kernel_rfl) (by kernel_rfl) (by kernel_rfl) (by kernel_rfl)
theorem c295:CFnC Try.prog rn (DJ Try.prog rn) Try.f44 n295:=cfn_cell [] [] [] 4 49 (some 5) (by kernel_rfl) (by kernel_rfl) (by kernel_rfl) (by decide) (by decide) (by kernel_rfl) (by kernel_rfl)
theorem c296:CFn Try.prog rn (DJ Try.prog rn) Try.f45 n296:=cfn_ok [] (by kernel_rfl) (by kernel_rfl) (by kernel_rfl) (by kernel_rfl)
theorem c297:CFn Try.prog rn (DJ Try.prog rn) Try.f46 n297:=cfn_ok [] (by kernel_rfl) (by kernel_rfl) (by kernel_rfl) (by kernel_rfl)
theorem c298:CFn Try.prog rn (DJ Try.prog rn) Try.f47 n298:=cfn_ok [1] (by kernel_rfl) (by kernel_rfl) (by kernel_rfl) (by kernel_rfl)
theorem c299:CFn Try.prog rn (DJ Try.prog rn) Try.f48 n299:=cfn_ok [6] (by kernel_rfl) (by kernel_rfl) (by kernel_rfl) (by kernel_rfl)
theorem c300:CFn Try.prog rn (DJ Try.prog rn) Try.f49 n300:=cfn_ok [13] (by kernel_rfl) (by kernel_rfl) (by kernel_rfl) (by kernel_rfl)
theorem c301:CFn Try.prog rn (DJ Try.prog rn) Try.f50 n301:=cfn_ok [13] (by kernel_rfl) (by kernel_rfl) (by kernel_rfl) (by kernel_rfl)
theorem c302:CFn Try.prog rn (DJ Try.prog rn) Try.f51 n302:=cfn_ok [] (by kernel_rfl) (by kernel_rfl) (by kernel_rfl) (by kernel_rfl)
theorem c44:CFn Try.prog rn (DJ Try.prog rn) Try.f52 n44:=cfn_ok [] (by kernel_rfl) (by kernel_rfl) (by kernel_rfl) (by kernel_rfl)
theorem c303:CFn Try.prog rn (DJ Try.prog rn) Try.f53 n303:=cfn_ok [1] (by kernel_rfl) (by kernel_rfl) (by kernel_rfl) (by kernel_rfl)
theorem c304:CFnC Try.prog rn (DJ Try.prog rn) Try.f54 n304:=cfn_cell [7] [] [5] 4 49 (some 5) (by kernel_rfl) (by kernel_rfl) (by kernel_rfl) (by decide) (by decide) (by kernel_rfl) (by kernel_rfl)
theorem c305:CFn Try.prog rn (DJ Try.prog rn) Try.f55 n305:=cfn_ok [] (by kernel_rfl) (by kernel_rfl) (by kernel_rfl) (by kernel_rfl)
theorem c306:CFn Try.prog rn (DJ Try.prog rn) Try.f56 n306:=cfn_ok [] (by kernel_rfl) (by kernel_rfl) (by kernel_rfl) (by kernel_rfl)
theorem c307:CFn Try.prog rn (DJ Try.prog rn) Try.f57 n307:=cfn_ok [] (by kernel_rfl) (by kernel_rfl) (by kernel_rfl) (by kernel_rfl)
theorem c308:CFn Try.prog rn (DJ Try.prog rn) Try.f58 n308:=cfn_ok [] (by kernel_rfl) (by kernel_rfl) (by kernel_rfl) (by kernel_rfl)
theorem c309:CFn Try.prog rn (DJ Try.prog rn) Try.f59 n309:=cfn_ok [] (by kernel_rfl) (by kernel_rfl) (by kernel_rfl) (by kernel_rfl)
theorem c311:CFn Try.prog rn (DJ Try.prog rn) Try.f60 n311:=cfn_ok [] (by kernel_rfl) (by kernel_rfl) (by kernel_rfl) (by kernel_rfl)
theorem c310:CFn Try.prog rn (DJ Try.prog rn) Try.f61 n310:=cfn_ok [] (by kernel_rfl) (by kernel_rfl) (by kernel_rfl) (by kernel_rfl)
theorem c312:CFn Try.prog rn (DJ Try.prog rn) Try.f62 n312:=cfn_ok [] (by kernel_rfl) (by kernel_rfl) (by kernel_rfl) (by kernel_rfl)
theorem c313:CFn Try.prog rn (DJ Try.prog rn) Try.f63 n313:=cfn_ok [] (by kernel_rfl) (by kernel_rfl) (by kernel_rfl) (by kernel_rfl)
theorem c314:CFn Try.prog rn (DJ Try.prog rn) Try.f64 n314:=cfn_ok [5,20] (by kernel_rfl) (by kernel_rfl) (by kernel_rfl) (by kernel_rfl)
theorem c315:CFn Try.prog rn (DJ Try.prog rn) Try.f65 n315:=cfn_ok [] (by kernel_rfl) (by kernel_rfl) (by kernel_rfl) (by kernel_rfl)
theorem c316:CFn Try.prog rn (DJ Try.prog rn) Try.f66 n316:=cfn_ok [] (by kernel_rfl) (by kernel_rfl) (by kernel_rfl) (by kernel_rfl)
theorem c317:CFn Try.prog rn (DJ Try.prog rn) Try.f67 n317:=cfn_ok [1] (by kernel_rfl) (by kernel_rfl) (by kernel_rfl) (by kernel_rfl)
theorem c330:CFn Try.prog rn (DJ Try.prog rn) Try.f68 n330:=cfn_ok [1] (by kernel_rfl) (by kernel_rfl) (by kernel_rfl) (by kernel_rfl)
theorem c318:CFn Try.prog rn (DJ Try.prog rn) Try.f69 n318:=cfn_ok [1,3] (by kernel_rfl) (by kernel_rfl) (by kernel_rfl) (by kernel_rfl)
theorem c319:CFn Try.prog rn (DJ Try.prog rn) Try.f70 n319:=cfn_ok [1] (by kernel_rfl) (by kernel_rfl) (by kernel_rfl) (by kernel_rfl)
theorem c320:CFn Try.prog rn (DJ Try.prog rn) Try.f71 n320:=cfn_ok [1] (by kernel_rfl) (by kernel_rfl) (by kernel_rfl) (by kernel_rfl)
theorem c324:CFn Try.prog rn (DJ Try.prog rn) Try.f72 n324:=cfn_ok [] (by kernel_rfl) (by kernel_rfl) (by kernel_rfl) (by kernel_rfl)
theorem c325:CFn Try.prog rn (DJ Try.prog rn) Try.f73 n325:=cfn_ok [] (by kernel_rfl) (by kernel_rfl) (by kernel_rfl) (by kernel_rfl)
theorem c326:CFn Try.prog rn (DJ Try.prog rn) Try.f74 n326:=cfn_ok [] (by kernel_rfl) (by kernel_rfl) (by kernel_rfl) (by kernel_rfl)
theorem c327:CFn Try.prog rn (DJ Try.prog rn) Try.f75 n327:=cfn_ok [] (by kernel_rfl) (by kernel_rfl) (by kernel_rfl) (by kernel_rfl)
theorem c328:CFn Try.prog rn (DJ Try.prog rn) Try.f76 n328:=cfn_ok [] (by kernel_rfl) (by kernel_rfl) (by kernel_rfl) (by kernel_rfl)
theorem c66:CFn Try.prog rn (DJ Try.prog rn) Try.f77 n66:=cfn_ok [] (by kernel_rfl) (by kernel_rfl) (by kernel_rfl) (by kernel_rfl)
theorem c329:CFn Try.prog rn (DJ Try.prog rn) Try.f78 n329:=cfn_ok [] (by kernel_rfl) (by kernel_rfl) (by kernel_rfl) (by kernel_rfl)
theorem c335:CFn Try.prog rn (DJ Try.prog rn) Try.f79 n335:=cfn_ok [2,3] (by kernel_rfl) (by kernel_rfl) (by kernel_rfl) (by kernel_rfl)
theorem c334:CFnC Try.prog rn (DJ Try.prog rn) Try.f80 n334:=cfn_cell [5,6,8,10] [] [] 4 49 (some 5) (by kernel_rfl) (by kernel_rfl) (by kernel_rfl) (by decide) (by decide) (by kernel_rfl) (by kernel_rfl)
theorem c336:CFnC Try.prog rn (DJ Try.prog rn) Try.f81 n336:=cfn_cell [7] [] [5] 4 49 (some 5) (by kernel_rfl) (by kernel_rfl) (by kernel_rfl) (by decide) (by decide) (by kernel_rfl) (by kernel_rfl)
theorem c337:CFn Try.prog rn (DJ Try.prog rn) Try.f82 n337:=cfn_ok [] (by kernel_rfl) (by kernel_rfl) (by kernel_rfl) (by kernel_rfl)
theorem c331:CFn Try.prog rn (DJ Try.prog rn) Try.f103 n331:=cfn_ok [1] (by kernel_rfl) (by kernel_rfl) (by kernel_rfl) (by kernel_rfl)
theorem c321:CFn Try.prog rn (DJ Try.prog rn) Try.f104 n321:=cfn_ok [2] (by kernel_rfl) (by kernel_rfl) (by kernel_rfl) (by kernel_rfl)
theorem c332:CFn Try.prog rn (DJ Try.prog rn) Try.f105 n332:=cfn_ok [1] (by kernel_rfl) (by kernel_rfl) (by kernel_rfl) (by kernel_rfl)
theorem c322:CFn Try.prog rn (DJ Try.prog rn) Try.f106 n322:=cfn_ok [2] (by kernel_rfl) (by kernel_rfl) (by kernel_rfl) (by kernel_rfl)
theorem c333:CFn Try.prog rn (DJ Try.prog rn) Try.f107 n333:=cfn_ok [1] (by kernel_rfl) (by kernel_rfl) (by kernel_rfl) (by kernel_rfl)
theorem c323:CFn Try.prog rn (DJ Try.prog rn) Try.f108 n323:=cfn_ok [2] (by kernel_rfl) (by kernel_rfl) (by kernel_rfl) (by kernel_rfl)
theorem c338:CFn Try.prog rn (DJ Try.prog rn) Try.f109 n338:=cfn_ok [] (by kernel_rfl) (by kernel_rfl) (by kernel_rfl) (by kernel_rfl)
theorem c339:CFn Try.prog rn (DJ Try.prog rn) Try.f110 n339:=cfn_ok [] (by kernel_rfl) (by kernel_rfl) (by kernel_rfl) (by kernel_rfl)
set_option maxRecDepth 100000 in
theorem all:AllOk Try.prog rn N0 tbl 0:=
 ⟨ok_none rfl,
  ok_none rfl,
  ok_none rfl,
  ok_some rfl Try.func3 c256,
  ok_some rfl Try.func4 c257,
  ok_some rfl Try.func5 c258,
  ok_cell rfl Try.func6 c259,
  ok_some rfl Try.func7 c260,
  ok_some rfl Try.func8 c261,
  ok_some rfl Try.func9 c262,
  ok_some rfl Try.func10 c263,
  ok_cell rfl Try.func11 c264,
  ok_some rfl Try.func12 c265,
  ok_some rfl Try.func13 c266,
  ok_some rfl Try.func14 c267,
  ok_some rfl Try.func15 c268,
  ok_some rfl Try.func16 c203,
  ok_some rfl Try.func17 c269,
  ok_some rfl Try.func18 c270,
  ok_some rfl Try.func19 c271,
  ok_some rfl Try.func20 c272,
  ok_some rfl Try.func21 c273,
  ok_some rfl Try.func22 c274,
  ok_some rfl Try.func23 c275,
  ok_some rfl Try.func24 c276,
  ok_some rfl Try.func25 c278,
  ok_some rfl Try.func26 c277,
  ok_cell rfl Try.func27 c279,
  ok_some rfl Try.func28 c280,
  ok_some rfl Try.func29 c281,
  ok_some rfl Try.func30 c282,
  ok_some rfl Try.func31 c283,
  ok_some rfl Try.func32 c284,
  ok_some rfl Try.func33 c285,
  ok_some rfl Try.func34 c286,
  ok_some rfl Try.func35 c287,
  ok_some rfl Try.func36 c288,
  ok_some rfl Try.func37 c60,
  ok_some rfl Try.func38 c289,
  ok_some rfl Try.func39 c290,
  ok_some rfl Try.func40 c291,
  ok_some rfl Try.func41 c292,
  ok_some rfl Try.func42 c293,
  ok_some rfl Try.func43 c294,
  ok_cell rfl Try.func44 c295,
  ok_some rfl Try.func45 c296,
  ok_some rfl Try.func46 c297,
  ok_some rfl Try.func47 c298,
  ok_some rfl Try.func48 c299,
  ok_some rfl Try.func49 c300,
  ok_some rfl Try.func50 c301,
  ok_some rfl Try.func51 c302,
  ok_some rfl Try.func52 c44,
  ok_some rfl Try.func53 c303,
  ok_cell rfl Try.func54 c304,
  ok_some rfl Try.func55 c305,
  ok_some rfl Try.func56 c306,
  ok_some rfl Try.func57 c307,
  ok_some rfl Try.func58 c308,
  ok_some rfl Try.func59 c309,
  ok_some rfl Try.func60 c311,
  ok_some rfl Try.func61 c310,
  ok_some rfl Try.func62 c312,
  ok_some rfl Try.func63 c313,
  ok_some rfl Try.func64 c314,
  ok_some rfl Try.func65 c315,
  ok_some rfl Try.func66 c316,
  ok_some rfl Try.func67 c317,
  ok_some rfl Try.func68 c330,
  ok_some rfl Try.func69 c318,
  ok_some rfl Try.func70 c319,
  ok_some rfl Try.func71 c320,
  ok_some rfl Try.func72 c324,
  ok_some rfl Try.func73 c325,
  ok_some rfl Try.func74 c326,
  ok_some rfl Try.func75 c327,
  ok_some rfl Try.func76 c328,
  ok_some rfl Try.func77 c66,
  ok_some rfl Try.func78 c329,
  ok_some rfl Try.func79 c335,
  ok_cell rfl Try.func80 c334,
  ok_cell rfl Try.func81 c336,
  ok_some rfl Try.func82 c337,
  ok_none rfl,
  ok_none rfl,
  ok_none rfl,
  ok_none rfl,
  ok_none rfl,
  ok_none rfl,
  ok_none rfl,
  ok_none rfl,
  ok_none rfl,
  ok_none rfl,
  ok_none rfl,
  ok_none rfl,
  ok_none rfl,
  ok_none rfl,
  ok_none rfl,
  ok_none rfl,
  ok_none rfl,
  ok_none rfl,
  ok_none rfl,
  ok_none rfl,
  ok_some rfl Try.func103 c331,
  ok_some rfl Try.func104 c321,
  ok_some rfl Try.func105 c332,
  ok_some rfl Try.func106 c322,
  ok_some rfl Try.func107 c333,
  ok_some rfl Try.func108 c323,
  ok_some rfl Try.func109 c338,
  ok_some rfl Try.func110 c339,
  ok_none rfl,trivial⟩
theorem mixed:Try.prog.follows .mixedOrders=true:=by kernel_rfl
theorem hprog0:HProg Try.prog rn (DJ Try.prog rn) N0:=hprog_of all rfl
theorem awake_true:K.isTrueK (K.kCl N0 200 600 (rn 5) [] ⟨0,.nil⟩)=true:=by decide +kernel
theorem awake_given:PrimFn Try.prog 5 Try.f5 awakeN:=closed_quick hprog0 mixed (by kernel_rfl) (by kernel_rfl) awake_true
theorem hprog:HProg Try.prog rn (DJ Try.prog rn) N:=hprog_with hprog0 Try.func5 awake_given (by decide +kernel) (by decide)
end Camp.S
