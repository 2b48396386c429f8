/- Awake of law 25: forty slots, each a piece. Printed by a program of mine but for its end. The seat's program is what the machine runs. Printed by a program of mine (seatgen.py). -/
import Derived.Test.YtidnhdikcdninaaGreatUseA
import Derived.Test.YtidnhdikcdninaaGreatGenB
import Derived.Test.YtidnhdikcdninaaGreatGenC
import Derived.Test.YtidnhdikcdninaaGreatGenD
import Derived.Test.YtidnhdikcdninaaGreatGenE
import Derived.Test.YtidnhdikcdninaaGreatGenF
import Derived.Test.YtidnhdikcdninaaGreatGenG
import Derived.Test.YtidnhdikcdninaaGreatGenH
import Derived.Test.YtidnhdikcdninaaGreatGenI
import Derived.Test.YtidnhdikcdninaaGreatCode
import Derived.Test.YtidnhdikcdninaaGreatProg
set_option linter.unnecessarySimpa false
set_option linter.unusedVariables false
set_option linter.unusedSimpArgs false
set_option linter.unusedSectionVars false
namespace Camp
open Go
section
set_option maxHeartbeats 4000000
def nS:Nat→Nat
 | 0=>71
 | 1=>171
 | 2=>188
 | 3=>205
 | 4=>222
 | 5=>278
 | 6=>295
 | 7=>312
 | 8=>329
 | 9=>385
 | 10=>402
 | 11=>419
 | 12=>436
 | 13=>492
 | 14=>509
 | 15=>526
 | 16=>543
 | 17=>668
 | 18=>777
 | 19=>886
 | 20=>905
 | 21=>1020
 | 22=>1129
 | 23=>1272
 | 24=>1384
 | 25=>1500
 | 26=>1640
 | 27=>1778
 | 28=>1890
 | 29=>2006
 | 30=>2145
 | 31=>2283
 | 32=>2395
 | 33=>2511
 | 34=>2650
 | 35=>2788
 | 36=>2900
 | 37=>3016
 | 38=>3155
 | 39=>3293
 | _=>3405
def hS:Nat→List (Nat × AO)
 | 0=>h2
 | 1=>h3
 | 2=>h4
 | 3=>h5
 | 4=>h6
 | 5=>h7
 | 6=>h8
 | 7=>h9
 | 8=>h10
 | 9=>h11
 | 10=>h12
 | 11=>h13
 | 12=>h14
 | 13=>h15
 | 14=>h16
 | 15=>h17
 | 16=>h18
 | 17=>h19
 | 18=>h20
 | 19=>h21
 | 20=>h22
 | 21=>h23
 | 22=>h24
 | 23=>h25
 | 24=>h26
 | 25=>h27
 | 26=>h28
 | 27=>h29
 | 28=>h30
 | 29=>h31
 | 30=>h32
 | 31=>h33
 | 32=>h34
 | 33=>h35
 | 34=>h36
 | 35=>h37
 | 36=>h38
 | 37=>h39
 | 38=>h40
 | 39=>h41
 | _=>h42
theorem pS:∀ j:Nat,j<40→∃ v,K.piece N0 200 600 350 [.c wp,stp] (nS j) (hS j) v (nS (j+1)) (hS (j+1))=true
 | 0,_=>⟨_,p2⟩
 | 1,_=>⟨_,p3⟩
 | 2,_=>⟨_,p4⟩
 | 3,_=>⟨_,p5⟩
 | 4,_=>⟨_,p6⟩
 | 5,_=>⟨_,p7⟩
 | 6,_=>⟨_,p8⟩
 | 7,_=>⟨_,p9⟩
 | 8,_=>⟨_,p10⟩
 | 9,_=>⟨_,p11⟩
 | 10,_=>⟨_,p12⟩
 | 11,_=>⟨_,p13⟩
 | 12,_=>⟨_,p14⟩
 | 13,_=>⟨_,p15⟩
 | 14,_=>⟨_,p16⟩
 | 15,_=>⟨_,p17⟩
 | 16,_=>⟨_,p18⟩
 | 17,_=>⟨_,p19⟩
 | 18,_=>⟨_,p20⟩
 | 19,_=>⟨_,p21⟩
 | 20,_=>⟨_,p22⟩
 | 21,_=>⟨_,p23⟩
 | 22,_=>⟨_,p24⟩
 | 23,_=>⟨_,p25⟩
 | 24,_=>⟨_,p26⟩
 | 25,_=>⟨_,p27⟩
 | 26,_=>⟨_,p28⟩
 | 27,_=>⟨_,p29⟩
 | 28,_=>⟨_,p30⟩
 | 29,_=>⟨_,p31⟩
 | 30,_=>⟨_,p32⟩
 | 31,_=>⟨_,p33⟩
 | 32,_=>⟨_,p34⟩
 | 33,_=>⟨_,p35⟩
 | 34,_=>⟨_,p36⟩
 | 35,_=>⟨_,p37⟩
 | 36,_=>⟨_,p38⟩
 | 37,_=>⟨_,p39⟩
 | 38,_=>⟨_,p40⟩
 | 39,_=>⟨_,p41⟩
 | j+40,h=>absurd h (by omega)
theorem q1:K.piece N0 200 600 352 [.c wp] 3405 h42 (.c (zI 40)) 3405 h42=true:=by decide +kernel
theorem q2:K.piece N0 200 600 353 [.c wp,.c (zI 1)] 3405 h42 (.c (zP 32)) 3405 h42=true:=by decide +kernel
theorem q3:K.piece N0 200 600 265 [.c (zP 32)] 3405 h42 (.c (zB true)) 3405 h42=true:=by decide +kernel
theorem q4:K.piece N0 200 600 312 [.c (zP 32)] 3405 h42 (.c (zI 1)) 3405 h42=true:=by decide +kernel
def WdI (n:Nat) (s:St):Prop:=∃ (j:Nat) (l:List (Nat × TV)) (lc:List (List CV)) (h':Hp),s=ST 34 l lc h'∧j≤40∧n=40-j∧lk l 1 = .v (.c wp)∧lk l 14 = .v (.c (.int .i64 j))∧K.RH h' (K.told (nS j) (hS j))
theorem awakeW_ok:callW N0 601 349 [] ⟨[],0⟩ fun r _=>r = .c (.bool true):=by
 refine call_intro rfl (by simp only [List.length_cons,List.length_nil];omega) ?_
 simp (maxSteps:=200000) -implicitDefEqProofs only [KA,KB,KC,KD,KE,KF,eq_self,ne_eq,↓reduceIte,Nat.reduceLT,Nat.reduceEqDiff,Nat.reduceAdd,Nat.reduceLeDiff,Nat.reduceSub,Nat.reduceMul,reduceCtorEq]
 refine K.piece_call p0 K.told_nil fun g1 r1=>?_
 simp (maxSteps:=200000) -implicitDefEqProofs only [KA,KB,KC,KD,KE,KF,eq_self,ne_eq,↓reduceIte,Nat.reduceLT,Nat.reduceEqDiff,Nat.reduceAdd,Nat.reduceLeDiff,Nat.reduceSub,Nat.reduceMul,reduceCtorEq]
 refine K.piece_call p1 r1 fun g2 r2=>?_
 simp (maxSteps:=200000) -implicitDefEqProofs only [KA,KB,KC,KD,KE,KF,eq_self,ne_eq,↓reduceIte,Nat.reduceLT,Nat.reduceEqDiff,Nat.reduceAdd,Nat.reduceLeDiff,Nat.reduceSub,Nat.reduceMul,reduceCtorEq]
 refine loop_rd (callW_mono N0 _) WdI (n:=40) ?_ ?_
 ·exact ⟨0,_,_,_,rfl,by omega,rfl,rfl,rfl,r2⟩
 ·rintro n s ⟨j,l,lc,g3,rfl,hj,rfl,e1,e14,r3⟩
  by_cases hjt:j<40
  ·have c1:((j:Int)<40):=by omega
   obtain ⟨v,hv⟩:=pS j hjt
   have w1:IntKind.wrap .i64 ((j:Int)+1)=((j+1:Nat):Int):=by rw [wrap_i64 (by omega)];omega
   simp (maxSteps:=200000) -implicitDefEqProofs only [KA,KB,KC,KD,KE,KF,eq_self,ne_eq,↓reduceIte,Nat.reduceLT,Nat.reduceEqDiff,Nat.reduceAdd,Nat.reduceLeDiff,Nat.reduceSub,Nat.reduceMul,reduceCtorEq,e1,e14,c1]
   refine K.piece_call hv r3 fun g4 r4=>?_
   simp (maxSteps:=200000) -implicitDefEqProofs only [KA,KB,KC,KD,KE,KF,eq_self,ne_eq,↓reduceIte,Nat.reduceLT,Nat.reduceEqDiff,Nat.reduceAdd,Nat.reduceLeDiff,Nat.reduceSub,Nat.reduceMul,reduceCtorEq,e1,e14,w1]
   exact ⟨40-(j+1),by omega,j+1,_,_,_,rfl,by omega,rfl,rfl,rfl,r4⟩
  ·have c1:¬((j:Int)<40):=by omega
   have hj40:j=40:=by omega
   subst hj40
   simp (maxSteps:=200000) -implicitDefEqProofs only [KA,KB,KC,KD,KE,KF,eq_self,ne_eq,↓reduceIte,Nat.reduceLT,Nat.reduceEqDiff,Nat.reduceAdd,Nat.reduceLeDiff,Nat.reduceSub,Nat.reduceMul,reduceCtorEq,e1,e14,c1]
   refine K.piece_call q1 r3 fun g4 r4=>?_
   simp (maxSteps:=200000) -implicitDefEqProofs only [KA,KB,KC,KD,KE,KF,eq_self,ne_eq,↓reduceIte,Nat.reduceLT,Nat.reduceEqDiff,Nat.reduceAdd,Nat.reduceLeDiff,Nat.reduceSub,Nat.reduceMul,reduceCtorEq]
   refine K.piece_call q2 r4 fun g5 r5=>?_
   simp (maxSteps:=200000) -implicitDefEqProofs only [KA,KB,KC,KD,KE,KF,eq_self,ne_eq,↓reduceIte,Nat.reduceLT,Nat.reduceEqDiff,Nat.reduceAdd,Nat.reduceLeDiff,Nat.reduceSub,Nat.reduceMul,reduceCtorEq]
   refine K.piece_call q3 r5 fun g6 r6=>?_
   simp (maxSteps:=200000) -implicitDefEqProofs only [KA,KB,KC,KD,KE,KF,eq_self,ne_eq,↓reduceIte,Nat.reduceLT,Nat.reduceEqDiff,Nat.reduceAdd,Nat.reduceLeDiff,Nat.reduceSub,Nat.reduceMul,reduceCtorEq]
   refine K.piece_call q2 r6 fun g7 r7=>?_
   simp (maxSteps:=200000) -implicitDefEqProofs only [KA,KB,KC,KD,KE,KF,eq_self,ne_eq,↓reduceIte,Nat.reduceLT,Nat.reduceEqDiff,Nat.reduceAdd,Nat.reduceLeDiff,Nat.reduceSub,Nat.reduceMul,reduceCtorEq]
   refine K.piece_call q4 r7 fun g8 r8=>?_
   simp (maxSteps:=200000) -implicitDefEqProofs only [KA,KB,KC,KD,KE,KF,eq_self,ne_eq,↓reduceIte,Nat.reduceLT,Nat.reduceEqDiff,Nat.reduceAdd,Nat.reduceLeDiff,Nat.reduceSub,Nat.reduceMul,reduceCtorEq]
end
end Camp
namespace Camp.S
open Go Go.Proofs
def tbl:List Nat:=[1000000,1000000,1000000,348,349,350,351,352,353,354,355,356,259,265,312,357,358,359,360,361,362,363,364,266,268,203,260,66,365,262,347,366,368,344,367,345,261,342,293,369,13,267,288,269,270,271,341,370,371,272,278,277,279,280,372,373,343,374,375,376,377,378,379,380,381,382,274,56,383,384,281,273,275,276,385,337,386,305,387,294,295,296,297,298,299,290,291,300,292,388,389,390,391,392,393,394,395,396,397,398,399,336,400,401,60,74,76,75,289,402,327,311,310,313,314,315,316,317,330,318,319,320,309,324,53,403,58,404,405,406,408,407,409,410,411,412,413,307,83,82,84,306,308,328,329,335,334,73,77,78,79,80,62,414,415,416,417,418,419,420,421,422,423,424,425,87,88,89,90,91,92,93,94,95,96,97,98,85,86,46,338,426,427,428,429,430,107,108,109,110,111,47,99,100,101,102,103,104,105,106,205,431,115,112,113,114,432,116,1000000,1000000,1000000,1000000,1000000,1000000,1000000,1000000,1000000,1000000,1000000,1000000,1000000,1000000,1000000,1000000,1000000,1000000,331,321,332,322,333,323,339,1000000]
abbrev rn:FuncId→Nat:=rnOf tbl
theorem c348:CFn Tryz.prog rn (DJ Tryz.prog rn) Tryz.f3 n348:=cfn_ok [3] (by kernel_rfl) (by kernel_rfl) (by kernel_rfl) (by kernel_rfl)
theorem c349:CFn Tryz.prog rn (DJ Tryz.prog rn) Tryz.f4 n349:=cfn_ok [] (by kernel_rfl) (by kernel_rfl) (by kernel_rfl) (by kernel_rfl)
theorem c350:CFn Tryz.prog rn (DJ Tryz.prog rn) Tryz.f5 n350:=cfn_ok [3] (by kernel_rfl) (by kernel_rfl) (by kernel_rfl) (by kernel_rfl)
theorem c351:CFn Tryz.prog rn (DJ Tryz.prog rn) Tryz.f6 n351:=cfn_ok [] (by kernel_rfl) (by kernel_rfl) (by kernel_rfl) (by kernel_rfl)
theorem c352:CFn Tryz.prog rn (DJ Tryz.prog rn) Tryz.f7 n352:=cfn_ok [] (by kernel_rfl) (by kernel_rfl) (by kernel_rfl) (by kernel_rfl)
theorem c353:CFn Tryz.prog rn (DJ Tryz.prog rn) Tryz.f8 n353:=cfn_ok [] (by kernel_rfl) (by kernel_rfl) (by kernel_rfl) (by kernel_rfl)
theorem c354:CFn Tryz.prog rn (DJ Tryz.prog rn) Tryz.f9 n354:=cfn_ok [] (by kernel_rfl) (by kernel_rfl) (by kernel_rfl) (by kernel_rfl)
theorem c355:CFn Tryz.prog rn (DJ Tryz.prog rn) Tryz.f10 n355:=cfn_ok [6,7] (by kernel_rfl) (by kernel_rfl) (by kernel_rfl) (by kernel_rfl)
theorem c356:CFn Tryz.prog rn (DJ Tryz.prog rn) Tryz.f11 n356:=cfn_ok [1,43] (by kernel_rfl) (by kernel_rfl) (by kernel_rfl) (by kernel_rfl)
theorem c259:CFnC Tryz.prog rn (DJ Tryz.prog rn) Tryz.f12 n259:=cfn_cell [17] [] [] 14 43 (some 9) (by kernel_rfl) (by kernel_rfl) (by kernel_rfl) (by decide) (by decide) (by kernel_rfl) (by kernel_rfl)
theorem c265:CFn Tryz.prog rn (DJ Tryz.prog rn) Tryz.f13 n265:=cfn_ok [] (by kernel_rfl) (by kernel_rfl) (by kernel_rfl) (by kernel_rfl)
theorem c312:CFn Tryz.prog rn (DJ Tryz.prog rn) Tryz.f14 n312:=cfn_ok [] (by kernel_rfl) (by kernel_rfl) (by kernel_rfl) (by kernel_rfl)
theorem c357:CFn Tryz.prog rn (DJ Tryz.prog rn) Tryz.f15 n357:=cfn_ok [3] (by kernel_rfl) (by kernel_rfl) (by kernel_rfl) (by kernel_rfl)
theorem c358:CFn Tryz.prog rn (DJ Tryz.prog rn) Tryz.f16 n358:=cfn_ok [3] (by kernel_rfl) (by kernel_rfl) (by kernel_rfl) (by kernel_rfl)
theorem c359:CFn Tryz.prog rn (DJ Tryz.prog rn) Tryz.f17 n359:=cfn_ok [] (by kernel_rfl) (by kernel_rfl) (by kernel_rfl) (by kernel_rfl)
theorem c360:CFn Tryz.prog rn (DJ Tryz.prog rn) Tryz.f18 n360:=cfn_ok [3] (by kernel_rfl) (by kernel_rfl) (by kernel_rfl) (by kernel_rfl)
theorem c361:CFn Tryz.prog rn (DJ Tryz.prog rn) Tryz.f19 n361:=cfn_ok [] (by kernel_rfl) (by kernel_rfl) (by kernel_rfl) (by kernel_rfl)
theorem c362:CFn Tryz.prog rn (DJ Tryz.prog rn) Tryz.f20 n362:=cfn_ok [8,9] (by kernel_rfl) (by kernel_rfl) (by kernel_rfl) (by kernel_rfl)
theorem c363:CFn Tryz.prog rn (DJ Tryz.prog rn) Tryz.f21 n363:=cfn_ok [2,3] (by kernel_rfl) (by kernel_rfl) (by kernel_rfl) (by kernel_rfl)
theorem c364:CFn Tryz.prog rn (DJ Tryz.prog rn) Tryz.f22 n364:=cfn_ok [2,3] (by kernel_rfl) (by kernel_rfl) (by kernel_rfl) (by kernel_rfl)
theorem c266:CFn Tryz.prog rn (DJ Tryz.prog rn) Tryz.f23 n266:=cfn_ok [1] (by kernel_rfl) (by kernel_rfl) (by kernel_rfl) (by kernel_rfl)
theorem c268:CFn Tryz.prog rn (DJ Tryz.prog rn) Tryz.f24 n268:=cfn_ok [] (by kernel_rfl) (by kernel_rfl) (by kernel_rfl) (by kernel_rfl)
theorem c203:CFn Tryz.prog rn (DJ Tryz.prog rn) Tryz.f25 n203:=cfn_ok [] (by kernel_rfl) (by kernel_rfl) (by kernel_rfl) (by kernel_rfl)
theorem c260:CFn Tryz.prog rn (DJ Tryz.prog rn) Tryz.f26 n260:=cfn_ok [2] (by kernel_rfl) (by kernel_rfl) (by kernel_rfl) (by kernel_rfl)
theorem c66:CFn Tryz.prog rn (DJ Tryz.prog rn) Tryz.f27 n66:=cfn_ok [] (by kernel_rfl) (by kernel_rfl) (by kernel_rfl) (by kernel_rfl)
theorem c365:CFn Tryz.prog rn (DJ Tryz.prog rn) Tryz.f28 n365:=cfn_ok [3] (by kernel_rfl) (by kernel_rfl) (by kernel_rfl) (by kernel_rfl)
theorem c262:CFn Tryz.prog rn (DJ Tryz.prog rn) Tryz.f29 n262:=cfn_ok [7] (by kernel_rfl) (by kernel_rfl) (by kernel_rfl) (by kernel_rfl)
theorem c347:CFn Tryz.prog rn (DJ Tryz.prog rn) Tryz.f30 n347:=cfn_ok [] (by kernel_rfl) (by kernel_rfl) (by kernel_rfl) (by kernel_rfl)
theorem c366:CFn Tryz.prog rn (DJ Tryz.prog rn) Tryz.f31 n366:=cfn_ok [5] (by kernel_rfl) (by kernel_rfl) (by kernel_rfl) (by kernel_rfl)
theorem c368:CFn Tryz.prog rn (DJ Tryz.prog rn) Tryz.f32 n368:=cfn_ok [7] (by kernel_rfl) (by kernel_rfl) (by kernel_rfl) (by kernel_rfl)
theorem c344:CFn Tryz.prog rn (DJ Tryz.prog rn) Tryz.f33 n344:=cfn_ok [10,14] (by kernel_rfl) (by kernel_rfl) (by kernel_rfl) (by kernel_rfl)
theorem c367:CFn Tryz.prog rn (DJ Tryz.prog rn) Tryz.f34 n367:=cfn_ok [6,11] (by kernel_rfl) (by kernel_rfl) (by kernel_rfl) (by kernel_rfl)
theorem c345:CFn Tryz.prog rn (DJ Tryz.prog rn) Tryz.f35 n345:=cfn_ok [6] (by kernel_rfl) (by kernel_rfl) (by kernel_rfl) (by kernel_rfl)
theorem c261:CFn Tryz.prog rn (DJ Tryz.prog rn) Tryz.f36 n261:=cfn_ok [] (by kernel_rfl) (by kernel_rfl) (by kernel_rfl) (by kernel_rfl)
theorem c342:CFn Tryz.prog rn (DJ Tryz.prog rn) Tryz.f37 n342:=cfn_ok [] (by kernel_rfl) (by kernel_rfl) (by kernel_rfl) (by kernel_rfl)
theorem c293:CFn Tryz.prog rn (DJ Tryz.prog rn) Tryz.f38 n293:=cfn_ok [] (by kernel_rfl) (by kernel_rfl) (by kernel_rfl) (by kernel_rfl)
theorem c369:CFn Tryz.prog rn (DJ Tryz.prog rn) Tryz.f39 n369:=cfn_ok [2,3] (by kernel_rfl) (by kernel_rfl) (by kernel_rfl) (by kernel_rfl)
theorem c13:CFn Tryz.prog rn (DJ Tryz.prog rn) Tryz.f40 n13:=cfn_ok [] (by kernel_rfl) (by kernel_rfl) (by kernel_rfl) (by kernel_rfl)
theorem c267:CFn Tryz.prog rn (DJ Tryz.prog rn) Tryz.f41 n267:=cfn_ok [] (by kernel_rfl) (by kernel_rfl) (by kernel_rfl) (by kernel_rfl)
theorem c288:CFn Tryz.prog rn (DJ Tryz.prog rn) Tryz.f42 n288:=cfn_ok [] (by kernel_rfl) (by kernel_rfl) (by kernel_rfl) (by kernel_rfl)
theorem c269:CFn Tryz.prog rn (DJ Tryz.prog rn) Tryz.f43 n269:=cfn_ok [] (by kernel_rfl) (by kernel_rfl) (by kernel_rfl) (by kernel_rfl)
theorem c270:CFn Tryz.prog rn (DJ Tryz.prog rn) Tryz.f44 n270:=cfn_ok [] (by kernel_rfl) (by kernel_rfl) (by kernel_rfl) (by kernel_rfl)
theorem c271:CFn Tryz.prog rn (DJ Tryz.prog rn) Tryz.f45 n271:=cfn_ok [] (by kernel_rfl) (by kernel_rfl) (by kernel_rfl) (by kernel_rfl)
theorem c341:CFn Tryz.prog rn (DJ Tryz.prog rn) Tryz.f46 n341:=cfn_ok [] (by kernel_rfl) (by kernel_rfl) (by kernel_rfl) (by kernel_rfl)
theorem c370:CFn Tryz.prog rn (DJ Tryz.prog rn) Tryz.f47 n370:=cfn_ok [] (by kernel_rfl) (by kernel_rfl) (by kernel_rfl) (by kernel_rfl)
theorem c371:CFn Tryz.prog rn (DJ Tryz.prog rn) Tryz.f48 n371:=cfn_ok [] (by kernel_rfl) (by kernel_rfl) (by kernel_rfl) (by kernel_rfl)
theorem c272:CFn Tryz.prog rn (DJ Tryz.prog rn) Tryz.f49 n272:=cfn_ok [] (by kernel_rfl) (by kernel_rfl) (by kernel_rfl) (by kernel_rfl)
theorem c278:CFn Tryz.prog rn (DJ Tryz.prog rn) Tryz.f50 n278:=cfn_ok [] (by kernel_rfl) (by kernel_rfl) (by kernel_rfl) (by kernel_rfl)
theorem c277:CFn Tryz.prog rn (DJ Tryz.prog rn) Tryz.f51 n277:=cfn_ok [] (by kernel_rfl) (by kernel_rfl) (by kernel_rfl) (by kernel_rfl)
theorem c279:CFnC Tryz.prog rn (DJ Tryz.prog rn) Tryz.f52 n279:=cfn_cell [] [] [] 4 75 (some 6) (by kernel_rfl) (by kernel_rfl) (by kernel_rfl) (by decide) (by decide) (by kernel_rfl) (by kernel_rfl)
theorem c280:CFn Tryz.prog rn (DJ Tryz.prog rn) Tryz.f53 n280:=cfn_ok [1] (by kernel_rfl) (by kernel_rfl) (by kernel_rfl) (by kernel_rfl)
theorem c372:CFn Tryz.prog rn (DJ Tryz.prog rn) Tryz.f54 n372:=cfn_ok [] (by kernel_rfl) (by kernel_rfl) (by kernel_rfl) (by kernel_rfl)
theorem c373:CFn Tryz.prog rn (DJ Tryz.prog rn) Tryz.f55 n373:=cfn_ok [5,11,81] (by kernel_rfl) (by kernel_rfl) (by kernel_rfl) (by kernel_rfl)
theorem c343:CFn Tryz.prog rn (DJ Tryz.prog rn) Tryz.f56 n343:=cfn_ok [10] (by kernel_rfl) (by kernel_rfl) (by kernel_rfl) (by kernel_rfl)
theorem c374:CFn Tryz.prog rn (DJ Tryz.prog rn) Tryz.f57 n374:=cfn_ok [] (by kernel_rfl) (by kernel_rfl) (by kernel_rfl) (by kernel_rfl)
theorem c375:CFnC Tryz.prog rn (DJ Tryz.prog rn) Tryz.f58 n375:=cfn_cell [6] [] [3] 2 75 (some 6) (by kernel_rfl) (by kernel_rfl) (by kernel_rfl) (by decide) (by decide) (by kernel_rfl) (by kernel_rfl)
theorem c376:CFn Tryz.prog rn (DJ Tryz.prog rn) Tryz.f59 n376:=cfn_ok [2,6] (by kernel_rfl) (by kernel_rfl) (by kernel_rfl) (by kernel_rfl)
theorem c377:CFn Tryz.prog rn (DJ Tryz.prog rn) Tryz.f60 n377:=cfn_ok [6,10] (by kernel_rfl) (by kernel_rfl) (by kernel_rfl) (by kernel_rfl)
theorem c378:CFnC Tryz.prog rn (DJ Tryz.prog rn) Tryz.f61 n378:=cfn_cell [6] [] [3] 2 56 (some 6) (by kernel_rfl) (by kernel_rfl) (by kernel_rfl) (by decide) (by decide) (by kernel_rfl) (by kernel_rfl)
theorem c379:CFn Tryz.prog rn (DJ Tryz.prog rn) Tryz.f62 n379:=cfn_ok [4] (by kernel_rfl) (by kernel_rfl) (by kernel_rfl) (by kernel_rfl)
theorem c380:CFn Tryz.prog rn (DJ Tryz.prog rn) Tryz.f63 n380:=cfn_ok [] (by kernel_rfl) (by kernel_rfl) (by kernel_rfl) (by kernel_rfl)
theorem c381:CFn Tryz.prog rn (DJ Tryz.prog rn) Tryz.f64 n381:=cfn_ok [] (by kernel_rfl) (by kernel_rfl) (by kernel_rfl) (by kernel_rfl)
theorem c382:CFn Tryz.prog rn (DJ Tryz.prog rn) Tryz.f65 n382:=cfn_ok [] (by kernel_rfl) (by kernel_rfl) (by kernel_rfl) (by kernel_rfl)
theorem c274:CFn Tryz.prog rn (DJ Tryz.prog rn) Tryz.f66 n274:=cfn_ok [] (by kernel_rfl) (by kernel_rfl) (by kernel_rfl) (by kernel_rfl)
theorem c56:CFn Tryz.prog rn (DJ Tryz.prog rn) Tryz.f67 n56:=cfn_ok [10,37] (by kernel_rfl) (by kernel_rfl) (by kernel_rfl) (by kernel_rfl)
theorem c383:CFn Tryz.prog rn (DJ Tryz.prog rn) Tryz.f68 n383:=cfn_ok [] (by kernel_rfl) (by kernel_rfl) (by kernel_rfl) (by kernel_rfl)
theorem c384:CFn Tryz.prog rn (DJ Tryz.prog rn) Tryz.f69 n384:=cfn_ok [] (by kernel_rfl) (by kernel_rfl) (by kernel_rfl) (by kernel_rfl)
theorem c281:CFn Tryz.prog rn (DJ Tryz.prog rn) Tryz.f70 n281:=cfn_ok [] (by kernel_rfl) (by kernel_rfl) (by kernel_rfl) (by kernel_rfl)
theorem c273:CFn Tryz.prog rn (DJ Tryz.prog rn) Tryz.f71 n273:=cfn_ok [] (by kernel_rfl) (by kernel_rfl) (by kernel_rfl) (by kernel_rfl)
theorem c275:CFn Tryz.prog rn (DJ Tryz.prog rn) Tryz.f72 n275:=cfn_ok [1] (by kernel_rfl) (by kernel_rfl) (by kernel_rfl) (by kernel_rfl)
theorem c276:CFn Tryz.prog rn (DJ Tryz.prog rn) Tryz.f73 n276:=cfn_ok [] (by kernel_rfl) (by kernel_rfl) (by kernel_rfl) (by kernel_rfl)
theorem c385:CFn Tryz.prog rn (DJ Tryz.prog rn) Tryz.f74 n385:=cfn_ok [] (by kernel_rfl) (by kernel_rfl) (by kernel_rfl) (by kernel_rfl)
theorem c337:CFn Tryz.prog rn (DJ Tryz.prog rn) Tryz.f75 n337:=cfn_ok [] (by kernel_rfl) (by kernel_rfl) (by kernel_rfl) (by kernel_rfl)
theorem c386:CFn Tryz.prog rn (DJ Tryz.prog rn) Tryz.f76 n386:=cfn_ok [] (by kernel_rfl) (by kernel_rfl) (by kernel_rfl) (by kernel_rfl)
theorem c305:CFn Tryz.prog rn (DJ Tryz.prog rn) Tryz.f77 n305:=cfn_ok [] (by kernel_rfl) (by kernel_rfl) (by kernel_rfl) (by kernel_rfl)
theorem c387:CFn Tryz.prog rn (DJ Tryz.prog rn) Tryz.f78 n387:=cfn_ok [] (by kernel_rfl) (by kernel_rfl) (by kernel_rfl) (by kernel_rfl)
theorem c294:CFn Tryz.prog rn (DJ Tryz.prog rn) Tryz.f79 n294:=cfn_ok [] (by kernel_rfl) (by kernel_rfl) (by kernel_rfl) (by kernel_rfl)
theorem c295:CFnC Tryz.prog rn (DJ Tryz.prog rn) Tryz.f80 n295:=cfn_cell [] [] [] 4 146 (some 5) (by kernel_rfl) (by kernel_rfl) (by kernel_rfl) (by decide) (by decide) (by kernel_rfl) (by kernel_rfl)
theorem c296:CFn Tryz.prog rn (DJ Tryz.prog rn) Tryz.f81 n296:=cfn_ok [] (by kernel_rfl) (by kernel_rfl) (by kernel_rfl) (by kernel_rfl)
theorem c297:CFn Tryz.prog rn (DJ Tryz.prog rn) Tryz.f82 n297:=cfn_ok [] (by kernel_rfl) (by kernel_rfl) (by kernel_rfl) (by kernel_rfl)
theorem c298:CFn Tryz.prog rn (DJ Tryz.prog rn) Tryz.f83 n298:=cfn_ok [1] (by kernel_rfl) (by kernel_rfl) (by kernel_rfl) (by kernel_rfl)
theorem c299:CFn Tryz.prog rn (DJ Tryz.prog rn) Tryz.f84 n299:=cfn_ok [6] (by kernel_rfl) (by kernel_rfl) (by kernel_rfl) (by kernel_rfl)
theorem c290:CFn Tryz.prog rn (DJ Tryz.prog rn) Tryz.f85 n290:=cfn_ok [31] (by kernel_rfl) (by kernel_rfl) (by kernel_rfl) (by kernel_rfl)
theorem c291:CFn Tryz.prog rn (DJ Tryz.prog rn) Tryz.f86 n291:=cfn_ok [] (by kernel_rfl) (by kernel_rfl) (by kernel_rfl) (by kernel_rfl)
theorem c300:CFn Tryz.prog rn (DJ Tryz.prog rn) Tryz.f87 n300:=cfn_ok [13] (by kernel_rfl) (by kernel_rfl) (by kernel_rfl) (by kernel_rfl)
theorem c292:CFn Tryz.prog rn (DJ Tryz.prog rn) Tryz.f88 n292:=cfn_ok [] (by kernel_rfl) (by kernel_rfl) (by kernel_rfl) (by kernel_rfl)
theorem c388:CFn Tryz.prog rn (DJ Tryz.prog rn) Tryz.f89 n388:=cfn_ok [] (by kernel_rfl) (by kernel_rfl) (by kernel_rfl) (by kernel_rfl)
theorem c389:CFn Tryz.prog rn (DJ Tryz.prog rn) Tryz.f90 n389:=cfn_ok [] (by kernel_rfl) (by kernel_rfl) (by kernel_rfl) (by kernel_rfl)
theorem c390:CFn Tryz.prog rn (DJ Tryz.prog rn) Tryz.f91 n390:=cfn_ok [6] (by kernel_rfl) (by kernel_rfl) (by kernel_rfl) (by kernel_rfl)
theorem c391:CFn Tryz.prog rn (DJ Tryz.prog rn) Tryz.f92 n391:=cfn_ok [] (by kernel_rfl) (by kernel_rfl) (by kernel_rfl) (by kernel_rfl)
theorem c392:CFn Tryz.prog rn (DJ Tryz.prog rn) Tryz.f93 n392:=cfn_ok [5] (by kernel_rfl) (by kernel_rfl) (by kernel_rfl) (by kernel_rfl)
theorem c393:CFn Tryz.prog rn (DJ Tryz.prog rn) Tryz.f94 n393:=cfn_ok [] (by kernel_rfl) (by kernel_rfl) (by kernel_rfl) (by kernel_rfl)
theorem c394:CFn Tryz.prog rn (DJ Tryz.prog rn) Tryz.f95 n394:=cfn_ok [] (by kernel_rfl) (by kernel_rfl) (by kernel_rfl) (by kernel_rfl)
theorem c395:CFn Tryz.prog rn (DJ Tryz.prog rn) Tryz.f96 n395:=cfn_ok [] (by kernel_rfl) (by kernel_rfl) (by kernel_rfl) (by kernel_rfl)
theorem c396:CFn Tryz.prog rn (DJ Tryz.prog rn) Tryz.f97 n396:=cfn_ok [] (by kernel_rfl) (by kernel_rfl) (by kernel_rfl) (by kernel_rfl)
theorem c397:CFn Tryz.prog rn (DJ Tryz.prog rn) Tryz.f98 n397:=cfn_ok [27] (by kernel_rfl) (by kernel_rfl) (by kernel_rfl) (by kernel_rfl)
theorem c398:CFn Tryz.prog rn (DJ Tryz.prog rn) Tryz.f99 n398:=cfn_ok [] (by kernel_rfl) (by kernel_rfl) (by kernel_rfl) (by kernel_rfl)
theorem c399:CFn Tryz.prog rn (DJ Tryz.prog rn) Tryz.f100 n399:=cfn_ok [7,32] (by kernel_rfl) (by kernel_rfl) (by kernel_rfl) (by kernel_rfl)
theorem c336:CFnC Tryz.prog rn (DJ Tryz.prog rn) Tryz.f101 n336:=cfn_cell [7] [] [5] 4 146 (some 5) (by kernel_rfl) (by kernel_rfl) (by kernel_rfl) (by decide) (by decide) (by kernel_rfl) (by kernel_rfl)
theorem c400:CFn Tryz.prog rn (DJ Tryz.prog rn) Tryz.f102 n400:=cfn_ok [] (by kernel_rfl) (by kernel_rfl) (by kernel_rfl) (by kernel_rfl)
theorem c401:CFnC Tryz.prog rn (DJ Tryz.prog rn) Tryz.f103 n401:=cfn_cell [5,40] [] [3] 2 56 (some 6) (by kernel_rfl) (by kernel_rfl) (by kernel_rfl) (by decide) (by decide) (by kernel_rfl) (by kernel_rfl)
theorem c60:CFn Tryz.prog rn (DJ Tryz.prog rn) Tryz.f104 n60:=cfn_ok [] (by kernel_rfl) (by kernel_rfl) (by kernel_rfl) (by kernel_rfl)
theorem c74:CFn Tryz.prog rn (DJ Tryz.prog rn) Tryz.f105 n74:=cfn_ok [] (by kernel_rfl) (by kernel_rfl) (by kernel_rfl) (by kernel_rfl)
theorem c76:CFn Tryz.prog rn (DJ Tryz.prog rn) Tryz.f106 n76:=cfn_ok [] (by kernel_rfl) (by kernel_rfl) (by kernel_rfl) (by kernel_rfl)
theorem c75:CFn Tryz.prog rn (DJ Tryz.prog rn) Tryz.f107 n75:=cfn_ok [2] (by kernel_rfl) (by kernel_rfl) (by kernel_rfl) (by kernel_rfl)
theorem c289:CFn Tryz.prog rn (DJ Tryz.prog rn) Tryz.f108 n289:=cfn_ok [1] (by kernel_rfl) (by kernel_rfl) (by kernel_rfl) (by kernel_rfl)
theorem c402:CFn Tryz.prog rn (DJ Tryz.prog rn) Tryz.f109 n402:=cfn_ok [] (by kernel_rfl) (by kernel_rfl) (by kernel_rfl) (by kernel_rfl)
theorem c327:CFn Tryz.prog rn (DJ Tryz.prog rn) Tryz.f110 n327:=cfn_ok [] (by kernel_rfl) (by kernel_rfl) (by kernel_rfl) (by kernel_rfl)
theorem c311:CFn Tryz.prog rn (DJ Tryz.prog rn) Tryz.f111 n311:=cfn_ok [] (by kernel_rfl) (by kernel_rfl) (by kernel_rfl) (by kernel_rfl)
theorem c310:CFn Tryz.prog rn (DJ Tryz.prog rn) Tryz.f112 n310:=cfn_ok [] (by kernel_rfl) (by kernel_rfl) (by kernel_rfl) (by kernel_rfl)
theorem c313:CFn Tryz.prog rn (DJ Tryz.prog rn) Tryz.f113 n313:=cfn_ok [] (by kernel_rfl) (by kernel_rfl) (by kernel_rfl) (by kernel_rfl)
theorem c314:CFn Tryz.prog rn (DJ Tryz.prog rn) Tryz.f114 n314:=cfn_ok [5,20] (by kernel_rfl) (by kernel_rfl) (by kernel_rfl) (by kernel_rfl)
theorem c315:CFn Tryz.prog rn (DJ Tryz.prog rn) Tryz.f115 n315:=cfn_ok [] (by kernel_rfl) (by kernel_rfl) (by kernel_rfl) (by kernel_rfl)
theorem c316:CFn Tryz.prog rn (DJ Tryz.prog rn) Tryz.f116 n316:=cfn_ok [] (by kernel_rfl) (by kernel_rfl) (by kernel_rfl) (by kernel_rfl)
theorem c317:CFn Tryz.prog rn (DJ Tryz.prog rn) Tryz.f117 n317:=cfn_ok [1] (by kernel_rfl) (by kernel_rfl) (by kernel_rfl) (by kernel_rfl)
theorem c330:CFn Tryz.prog rn (DJ Tryz.prog rn) Tryz.f118 n330:=cfn_ok [1] (by kernel_rfl) (by kernel_rfl) (by kernel_rfl) (by kernel_rfl)
theorem c318:CFn Tryz.prog rn (DJ Tryz.prog rn) Tryz.f119 n318:=cfn_ok [1,3] (by kernel_rfl) (by kernel_rfl) (by kernel_rfl) (by kernel_rfl)
theorem c319:CFn Tryz.prog rn (DJ Tryz.prog rn) Tryz.f120 n319:=cfn_ok [1] (by kernel_rfl) (by kernel_rfl) (by kernel_rfl) (by kernel_rfl)
theorem c320:CFn Tryz.prog rn (DJ Tryz.prog rn) Tryz.f121 n320:=cfn_ok [1] (by kernel_rfl) (by kernel_rfl) (by kernel_rfl) (by kernel_rfl)
theorem c309:CFn Tryz.prog rn (DJ Tryz.prog rn) Tryz.f122 n309:=cfn_ok [] (by kernel_rfl) (by kernel_rfl) (by kernel_rfl) (by kernel_rfl)
theorem c324:CFn Tryz.prog rn (DJ Tryz.prog rn) Tryz.f123 n324:=cfn_ok [] (by kernel_rfl) (by kernel_rfl) (by kernel_rfl) (by kernel_rfl)
theorem c53:CFn Tryz.prog rn (DJ Tryz.prog rn) Tryz.f124 n53:=cfn_ok [] (by kernel_rfl) (by kernel_rfl) (by kernel_rfl) (by kernel_rfl)
theorem c403:CFn Tryz.prog rn (DJ Tryz.prog rn) Tryz.f125 n403:=cfn_ok [] (by kernel_rfl) (by kernel_rfl) (by kernel_rfl) (by kernel_rfl)
theorem c58:CFn Tryz.prog rn (DJ Tryz.prog rn) Tryz.f126 n58:=cfn_ok [] (by kernel_rfl) (by kernel_rfl) (by kernel_rfl) (by kernel_rfl)
theorem c404:CFn Tryz.prog rn (DJ Tryz.prog rn) Tryz.f127 n404:=cfn_ok [] (by kernel_rfl) (by kernel_rfl) (by kernel_rfl) (by kernel_rfl)
theorem c405:CFn Tryz.prog rn (DJ Tryz.prog rn) Tryz.f128 n405:=cfn_ok [4] (by kernel_rfl) (by kernel_rfl) (by kernel_rfl) (by kernel_rfl)
theorem c406:CFn Tryz.prog rn (DJ Tryz.prog rn) Tryz.f129 n406:=cfn_ok [] (by kernel_rfl) (by kernel_rfl) (by kernel_rfl) (by kernel_rfl)
theorem c408:CFn Tryz.prog rn (DJ Tryz.prog rn) Tryz.f130 n408:=cfn_ok [] (by kernel_rfl) (by kernel_rfl) (by kernel_rfl) (by kernel_rfl)
theorem c407:CFn Tryz.prog rn (DJ Tryz.prog rn) Tryz.f131 n407:=cfn_ok [] (by kernel_rfl) (by kernel_rfl) (by kernel_rfl) (by kernel_rfl)
theorem c409:CFn Tryz.prog rn (DJ Tryz.prog rn) Tryz.f132 n409:=cfn_ok [] (by kernel_rfl) (by kernel_rfl) (by kernel_rfl) (by kernel_rfl)
theorem c410:CFn Tryz.prog rn (DJ Tryz.prog rn) Tryz.f133 n410:=cfn_ok [] (by kernel_rfl) (by kernel_rfl) (by kernel_rfl) (by kernel_rfl)
theorem c411:CFnC Tryz.prog rn (DJ Tryz.prog rn) Tryz.f134 n411:=cfn_cell [6] [] [3] 2 146 (some 5) (by kernel_rfl) (by kernel_rfl) (by kernel_rfl) (by decide) (by decide) (by kernel_rfl) (by kernel_rfl)
theorem c412:CFn Tryz.prog rn (DJ Tryz.prog rn) Tryz.f135 n412:=cfn_ok [] (by kernel_rfl) (by kernel_rfl) (by kernel_rfl) (by kernel_rfl)
theorem c413:CFn Tryz.prog rn (DJ Tryz.prog rn) Tryz.f136 n413:=cfn_ok [] (by kernel_rfl) (by kernel_rfl) (by kernel_rfl) (by kernel_rfl)
theorem c307:CFn Tryz.prog rn (DJ Tryz.prog rn) Tryz.f137 n307:=cfn_ok [] (by kernel_rfl) (by kernel_rfl) (by kernel_rfl) (by kernel_rfl)
theorem c83:CFn Tryz.prog rn (DJ Tryz.prog rn) Tryz.f138 n83:=cfn_ok [] (by kernel_rfl) (by kernel_rfl) (by kernel_rfl) (by kernel_rfl)
theorem c82:CFn Tryz.prog rn (DJ Tryz.prog rn) Tryz.f139 n82:=cfn_ok [] (by kernel_rfl) (by kernel_rfl) (by kernel_rfl) (by kernel_rfl)
theorem c84:CFn Tryz.prog rn (DJ Tryz.prog rn) Tryz.f140 n84:=cfn_ok [7] (by kernel_rfl) (by kernel_rfl) (by kernel_rfl) (by kernel_rfl)
theorem c306:CFn Tryz.prog rn (DJ Tryz.prog rn) Tryz.f141 n306:=cfn_ok [] (by kernel_rfl) (by kernel_rfl) (by kernel_rfl) (by kernel_rfl)
theorem c308:CFn Tryz.prog rn (DJ Tryz.prog rn) Tryz.f142 n308:=cfn_ok [] (by kernel_rfl) (by kernel_rfl) (by kernel_rfl) (by kernel_rfl)
theorem c328:CFn Tryz.prog rn (DJ Tryz.prog rn) Tryz.f143 n328:=cfn_ok [] (by kernel_rfl) (by kernel_rfl) (by kernel_rfl) (by kernel_rfl)
theorem c329:CFn Tryz.prog rn (DJ Tryz.prog rn) Tryz.f144 n329:=cfn_ok [] (by kernel_rfl) (by kernel_rfl) (by kernel_rfl) (by kernel_rfl)
theorem c335:CFn Tryz.prog rn (DJ Tryz.prog rn) Tryz.f145 n335:=cfn_ok [2,3] (by kernel_rfl) (by kernel_rfl) (by kernel_rfl) (by kernel_rfl)
theorem c334:CFnC Tryz.prog rn (DJ Tryz.prog rn) Tryz.f146 n334:=cfn_cell [5,6,8,10] [] [] 4 146 (some 5) (by kernel_rfl) (by kernel_rfl) (by kernel_rfl) (by decide) (by decide) (by kernel_rfl) (by kernel_rfl)
theorem c73:CFn Tryz.prog rn (DJ Tryz.prog rn) Tryz.f147 n73:=cfn_ok [] (by kernel_rfl) (by kernel_rfl) (by kernel_rfl) (by kernel_rfl)
theorem c77:CFn Tryz.prog rn (DJ Tryz.prog rn) Tryz.f148 n77:=cfn_ok [2] (by kernel_rfl) (by kernel_rfl) (by kernel_rfl) (by kernel_rfl)
theorem c78:CFn Tryz.prog rn (DJ Tryz.prog rn) Tryz.f149 n78:=cfn_ok [] (by kernel_rfl) (by kernel_rfl) (by kernel_rfl) (by kernel_rfl)
theorem c79:CFn Tryz.prog rn (DJ Tryz.prog rn) Tryz.f150 n79:=cfn_ok [2,3] (by kernel_rfl) (by kernel_rfl) (by kernel_rfl) (by kernel_rfl)
theorem c80:CFn Tryz.prog rn (DJ Tryz.prog rn) Tryz.f151 n80:=cfn_ok [2] (by kernel_rfl) (by kernel_rfl) (by kernel_rfl) (by kernel_rfl)
theorem c62:CFn Tryz.prog rn (DJ Tryz.prog rn) Tryz.f152 n62:=cfn_ok [7] (by kernel_rfl) (by kernel_rfl) (by kernel_rfl) (by kernel_rfl)
theorem c414:CFn Tryz.prog rn (DJ Tryz.prog rn) Tryz.f153 n414:=cfn_ok [] (by kernel_rfl) (by kernel_rfl) (by kernel_rfl) (by kernel_rfl)
theorem c415:CFn Tryz.prog rn (DJ Tryz.prog rn) Tryz.f154 n415:=cfn_ok [] (by kernel_rfl) (by kernel_rfl) (by kernel_rfl) (by kernel_rfl)
theorem c416:CFn Tryz.prog rn (DJ Tryz.prog rn) Tryz.f155 n416:=cfn_ok [3] (by kernel_rfl) (by kernel_rfl) (by kernel_rfl) (by kernel_rfl)
theorem c417:CFn Tryz.prog rn (DJ Tryz.prog rn) Tryz.f156 n417:=cfn_ok [7] (by kernel_rfl) (by kernel_rfl) (by kernel_rfl) (by kernel_rfl)
theorem c418:CFn Tryz.prog rn (DJ Tryz.prog rn) Tryz.f157 n418:=cfn_ok [3] (by kernel_rfl) (by kernel_rfl) (by kernel_rfl) (by kernel_rfl)
theorem c419:CFn Tryz.prog rn (DJ Tryz.prog rn) Tryz.f158 n419:=cfn_ok [4,5] (by kernel_rfl) (by kernel_rfl) (by kernel_rfl) (by kernel_rfl)
theorem c420:CFn Tryz.prog rn (DJ Tryz.prog rn) Tryz.f159 n420:=cfn_ok [3,6] (by kernel_rfl) (by kernel_rfl) (by kernel_rfl) (by kernel_rfl)
theorem c421:CFn Tryz.prog rn (DJ Tryz.prog rn) Tryz.f160 n421:=cfn_ok [3] (by kernel_rfl) (by kernel_rfl) (by kernel_rfl) (by kernel_rfl)
theorem c422:CFn Tryz.prog rn (DJ Tryz.prog rn) Tryz.f161 n422:=cfn_ok [] (by kernel_rfl) (by kernel_rfl) (by kernel_rfl) (by kernel_rfl)
theorem c423:CFn Tryz.prog rn (DJ Tryz.prog rn) Tryz.f162 n423:=cfn_ok [] (by kernel_rfl) (by kernel_rfl) (by kernel_rfl) (by kernel_rfl)
theorem c424:CFn Tryz.prog rn (DJ Tryz.prog rn) Tryz.f163 n424:=cfn_ok [] (by kernel_rfl) (by kernel_rfl) (by kernel_rfl) (by kernel_rfl)
theorem c425:CFnC Tryz.prog rn (DJ Tryz.prog rn) Tryz.f164 n425:=cfn_cell [8,10,59] [] [] 6 146 (some 5) (by kernel_rfl) (by kernel_rfl) (by kernel_rfl) (by decide) (by decide) (by kernel_rfl) (by kernel_rfl)
theorem c87:CFn Tryz.prog rn (DJ Tryz.prog rn) Tryz.f165 n87:=cfn_ok [] (by kernel_rfl) (by kernel_rfl) (by kernel_rfl) (by kernel_rfl)
theorem c88:CFn Tryz.prog rn (DJ Tryz.prog rn) Tryz.f166 n88:=cfn_ok [] (by kernel_rfl) (by kernel_rfl) (by kernel_rfl) (by kernel_rfl)
theorem c89:CFn Tryz.prog rn (DJ Tryz.prog rn) Tryz.f167 n89:=cfn_ok [] (by kernel_rfl) (by kernel_rfl) (by kernel_rfl) (by kernel_rfl)
theorem c90:CFn Tryz.prog rn (DJ Tryz.prog rn) Tryz.f168 n90:=cfn_ok [] (by kernel_rfl) (by kernel_rfl) (by kernel_rfl) (by kernel_rfl)
theorem c91:CFn Tryz.prog rn (DJ Tryz.prog rn) Tryz.f169 n91:=cfn_ok [] (by kernel_rfl) (by kernel_rfl) (by kernel_rfl) (by kernel_rfl)
theorem c92:CFn Tryz.prog rn (DJ Tryz.prog rn) Tryz.f170 n92:=cfn_ok [] (by kernel_rfl) (by kernel_rfl) (by kernel_rfl) (by kernel_rfl)
theorem c93:CFn Tryz.prog rn (DJ Tryz.prog rn) Tryz.f171 n93:=cfn_ok [] (by kernel_rfl) (by kernel_rfl) (by kernel_rfl) (by kernel_rfl)
theorem c94:CFn Tryz.prog rn (DJ Tryz.prog rn) Tryz.f172 n94:=cfn_ok [] (by kernel_rfl) (by kernel_rfl) (by kernel_rfl) (by kernel_rfl)
theorem c95:CFn Tryz.prog rn (DJ Tryz.prog rn) Tryz.f173 n95:=cfn_ok [] (by kernel_rfl) (by kernel_rfl) (by kernel_rfl) (by kernel_rfl)
theorem c96:CFn Tryz.prog rn (DJ Tryz.prog rn) Tryz.f174 n96:=cfn_ok [] (by kernel_rfl) (by kernel_rfl) (by kernel_rfl) (by kernel_rfl)
theorem c97:CFn Tryz.prog rn (DJ Tryz.prog rn) Tryz.f175 n97:=cfn_ok [] (by kernel_rfl) (by kernel_rfl) (by kernel_rfl) (by kernel_rfl)
theorem c98:CFn Tryz.prog rn (DJ Tryz.prog rn) Tryz.f176 n98:=cfn_ok [] (by kernel_rfl) (by kernel_rfl) (by kernel_rfl) (by kernel_rfl)
theorem c85:CFn Tryz.prog rn (DJ Tryz.prog rn) Tryz.f177 n85:=cfn_ok [] (by kernel_rfl) (by kernel_rfl) (by kernel_rfl) (by kernel_rfl)
theorem c86:CFn Tryz.prog rn (DJ Tryz.prog rn) Tryz.f178 n86:=cfn_ok [] (by kernel_rfl) (by kernel_rfl) (by kernel_rfl) (by kernel_rfl)
theorem c46:CFn Tryz.prog rn (DJ Tryz.prog rn) Tryz.f179 n46:=cfn_ok [] (by kernel_rfl) (by kernel_rfl) (by kernel_rfl) (by kernel_rfl)
theorem c338:CFn Tryz.prog rn (DJ Tryz.prog rn) Tryz.f180 n338:=cfn_ok [] (by kernel_rfl) (by kernel_rfl) (by kernel_rfl) (by kernel_rfl)
theorem c426:CFn Tryz.prog rn (DJ Tryz.prog rn) Tryz.f181 n426:=cfn_ok [] (by kernel_rfl) (by kernel_rfl) (by kernel_rfl) (by kernel_rfl)
theorem c427:CFn Tryz.prog rn (DJ Tryz.prog rn) Tryz.f182 n427:=cfn_ok [] (by kernel_rfl) (by kernel_rfl) (by kernel_rfl) (by kernel_rfl)
theorem c428:CFnC Tryz.prog rn (DJ Tryz.prog rn) Tryz.f183 n428:=cfn_cell [2] [] [5,6] 4 56 (some 6) (by kernel_rfl) (by kernel_rfl) (by kernel_rfl) (by decide) (by decide) (by kernel_rfl) (by kernel_rfl)
theorem c429:CFn Tryz.prog rn (DJ Tryz.prog rn) Tryz.f184 n429:=cfn_ok [5,7] (by kernel_rfl) (by kernel_rfl) (by kernel_rfl) (by kernel_rfl)
theorem c430:CFnC Tryz.prog rn (DJ Tryz.prog rn) Tryz.f185 n430:=cfn_cell [2,31] [] [5] 4 56 (some 6) (by kernel_rfl) (by kernel_rfl) (by kernel_rfl) (by decide) (by decide) (by kernel_rfl) (by kernel_rfl)
theorem c107:CFn Tryz.prog rn (DJ Tryz.prog rn) Tryz.f186 n107:=cfn_ok [] (by kernel_rfl) (by kernel_rfl) (by kernel_rfl) (by kernel_rfl)
theorem c108:CFn Tryz.prog rn (DJ Tryz.prog rn) Tryz.f187 n108:=cfn_ok [] (by kernel_rfl) (by kernel_rfl) (by kernel_rfl) (by kernel_rfl)
theorem c109:CFn Tryz.prog rn (DJ Tryz.prog rn) Tryz.f188 n109:=cfn_ok [] (by kernel_rfl) (by kernel_rfl) (by kernel_rfl) (by kernel_rfl)
theorem c110:CFn Tryz.prog rn (DJ Tryz.prog rn) Tryz.f189 n110:=cfn_ok [] (by kernel_rfl) (by kernel_rfl) (by kernel_rfl) (by kernel_rfl)
theorem c111:CFn Tryz.prog rn (DJ Tryz.prog rn) Tryz.f190 n111:=cfn_ok [] (by kernel_rfl) (by kernel_rfl) (by kernel_rfl) (by kernel_rfl)
theorem c47:CFn Tryz.prog rn (DJ Tryz.prog rn) Tryz.f191 n47:=cfn_ok [] (by kernel_rfl) (by kernel_rfl) (by kernel_rfl) (by kernel_rfl)
theorem c99:CFn Tryz.prog rn (DJ Tryz.prog rn) Tryz.f192 n99:=cfn_ok [] (by kernel_rfl) (by kernel_rfl) (by kernel_rfl) (by kernel_rfl)
theorem c100:CFn Tryz.prog rn (DJ Tryz.prog rn) Tryz.f193 n100:=cfn_ok [] (by kernel_rfl) (by kernel_rfl) (by kernel_rfl) (by kernel_rfl)
theorem c101:CFn Tryz.prog rn (DJ Tryz.prog rn) Tryz.f194 n101:=cfn_ok [] (by kernel_rfl) (by kernel_rfl) (by kernel_rfl) (by kernel_rfl)
theorem c102:CFn Tryz.prog rn (DJ Tryz.prog rn) Tryz.f195 n102:=cfn_ok [] (by kernel_rfl) (by kernel_rfl) (by kernel_rfl) (by kernel_rfl)
theorem c103:CFn Tryz.prog rn (DJ Tryz.prog rn) Tryz.f196 n103:=cfn_ok [] (by kernel_rfl) (by kernel_rfl) (by kernel_rfl) (by kernel_rfl)
theorem c104:CFn Tryz.prog rn (DJ Tryz.prog rn) Tryz.f197 n104:=cfn_ok [] (by kernel_rfl) (by kernel_rfl) (by kernel_rfl) (by kernel_rfl)
theorem c105:CFn Tryz.prog rn (DJ Tryz.prog rn) Tryz.f198 n105:=cfn_ok [] (by kernel_rfl) (by kernel_rfl) (by kernel_rfl) (by kernel_rfl)
theorem c106:CFn Tryz.prog rn (DJ Tryz.prog rn) Tryz.f199 n106:=cfn_ok [] (by kernel_rfl) (by kernel_rfl) (by kernel_rfl) (by kernel_rfl)
theorem c205:CFn Tryz.prog rn (DJ Tryz.prog rn) Tryz.f200 n205:=cfn_ok [] (by kernel_rfl) (by kernel_rfl) (by kernel_rfl) (by kernel_rfl)
theorem c431:CFnC Tryz.prog rn (DJ Tryz.prog rn) Tryz.f201 n431:=cfn_cell [2] [] [5] 4 56 (some 6) (by kernel_rfl) (by kernel_rfl) (by kernel_rfl) (by decide) (by decide) (by kernel_rfl) (by kernel_rfl)
theorem c115:CFn Tryz.prog rn (DJ Tryz.prog rn) Tryz.f202 n115:=cfn_ok [] (by kernel_rfl) (by kernel_rfl) (by kernel_rfl) (by kernel_rfl)
theorem c112:CFn Tryz.prog rn (DJ Tryz.prog rn) Tryz.f203 n112:=cfn_ok [] (by kernel_rfl) (by kernel_rfl) (by kernel_rfl) (by kernel_rfl)
theorem c113:CFn Tryz.prog rn (DJ Tryz.prog rn) Tryz.f204 n113:=cfn_ok [] (by kernel_rfl) (by kernel_rfl) (by kernel_rfl) (by kernel_rfl)
theorem c114:CFn Tryz.prog rn (DJ Tryz.prog rn) Tryz.f205 n114:=cfn_ok [] (by kernel_rfl) (by kernel_rfl) (by kernel_rfl) (by kernel_rfl)
theorem c432:CFnC Tryz.prog rn (DJ Tryz.prog rn) Tryz.f206 n432:=cfn_cell [1] [] [] 2 56 (some 6) (by kernel_rfl) (by kernel_rfl) (by kernel_rfl) (by decide) (by decide) (by kernel_rfl) (by kernel_rfl)
theorem c116:CFn Tryz.prog rn (DJ Tryz.prog rn) Tryz.f207 n116:=cfn_ok [] (by kernel_rfl) (by kernel_rfl) (by kernel_rfl) (by kernel_rfl)
theorem c331:CFn Tryz.prog rn (DJ Tryz.prog rn) Tryz.f226 n331:=cfn_ok [1] (by kernel_rfl) (by kernel_rfl) (by kernel_rfl) (by kernel_rfl)
theorem c321:CFn Tryz.prog rn (DJ Tryz.prog rn) Tryz.f227 n321:=cfn_ok [2] (by kernel_rfl) (by kernel_rfl) (by kernel_rfl) (by kernel_rfl)
theorem c332:CFn Tryz.prog rn (DJ Tryz.prog rn) Tryz.f228 n332:=cfn_ok [1] (by kernel_rfl) (by kernel_rfl) (by kernel_rfl) (by kernel_rfl)
theorem c322:CFn Tryz.prog rn (DJ Tryz.prog rn) Tryz.f229 n322:=cfn_ok [2] (by kernel_rfl) (by kernel_rfl) (by kernel_rfl) (by kernel_rfl)
theorem c333:CFn Tryz.prog rn (DJ Tryz.prog rn) Tryz.f230 n333:=cfn_ok [1] (by kernel_rfl) (by kernel_rfl) (by kernel_rfl) (by kernel_rfl)
theorem c323:CFn Tryz.prog rn (DJ Tryz.prog rn) Tryz.f231 n323:=cfn_ok [2] (by kernel_rfl) (by kernel_rfl) (by kernel_rfl) (by kernel_rfl)
theorem c339:CFn Tryz.prog rn (DJ Tryz.prog rn) Tryz.f232 n339:=cfn_ok [] (by kernel_rfl) (by kernel_rfl) (by kernel_rfl) (by kernel_rfl)
set_option maxRecDepth 100000 in
theorem all:AllOk Tryz.prog rn N0 tbl 0:=
 ⟨ok_none rfl,
  ok_none rfl,
  ok_none rfl,
  ok_some rfl Tryz.func3 c348,
  ok_some rfl Tryz.func4 c349,
  ok_some rfl Tryz.func5 c350,
  ok_some rfl Tryz.func6 c351,
  ok_some rfl Tryz.func7 c352,
  ok_some rfl Tryz.func8 c353,
  ok_some rfl Tryz.func9 c354,
  ok_some rfl Tryz.func10 c355,
  ok_some rfl Tryz.func11 c356,
  ok_cell rfl Tryz.func12 c259,
  ok_some rfl Tryz.func13 c265,
  ok_some rfl Tryz.func14 c312,
  ok_some rfl Tryz.func15 c357,
  ok_some rfl Tryz.func16 c358,
  ok_some rfl Tryz.func17 c359,
  ok_some rfl Tryz.func18 c360,
  ok_some rfl Tryz.func19 c361,
  ok_some rfl Tryz.func20 c362,
  ok_some rfl Tryz.func21 c363,
  ok_some rfl Tryz.func22 c364,
  ok_some rfl Tryz.func23 c266,
  ok_some rfl Tryz.func24 c268,
  ok_some rfl Tryz.func25 c203,
  ok_some rfl Tryz.func26 c260,
  ok_some rfl Tryz.func27 c66,
  ok_some rfl Tryz.func28 c365,
  ok_some rfl Tryz.func29 c262,
  ok_some rfl Tryz.func30 c347,
  ok_some rfl Tryz.func31 c366,
  ok_some rfl Tryz.func32 c368,
  ok_some rfl Tryz.func33 c344,
  ok_some rfl Tryz.func34 c367,
  ok_some rfl Tryz.func35 c345,
  ok_some rfl Tryz.func36 c261,
  ok_some rfl Tryz.func37 c342,
  ok_some rfl Tryz.func38 c293,
  ok_some rfl Tryz.func39 c369,
  ok_some rfl Tryz.func40 c13,
  ok_some rfl Tryz.func41 c267,
  ok_some rfl Tryz.func42 c288,
  ok_some rfl Tryz.func43 c269,
  ok_some rfl Tryz.func44 c270,
  ok_some rfl Tryz.func45 c271,
  ok_some rfl Tryz.func46 c341,
  ok_some rfl Tryz.func47 c370,
  ok_some rfl Tryz.func48 c371,
  ok_some rfl Tryz.func49 c272,
  ok_some rfl Tryz.func50 c278,
  ok_some rfl Tryz.func51 c277,
  ok_cell rfl Tryz.func52 c279,
  ok_some rfl Tryz.func53 c280,
  ok_some rfl Tryz.func54 c372,
  ok_some rfl Tryz.func55 c373,
  ok_some rfl Tryz.func56 c343,
  ok_some rfl Tryz.func57 c374,
  ok_cell rfl Tryz.func58 c375,
  ok_some rfl Tryz.func59 c376,
  ok_some rfl Tryz.func60 c377,
  ok_cell rfl Tryz.func61 c378,
  ok_some rfl Tryz.func62 c379,
  ok_some rfl Tryz.func63 c380,
  ok_some rfl Tryz.func64 c381,
  ok_some rfl Tryz.func65 c382,
  ok_some rfl Tryz.func66 c274,
  ok_some rfl Tryz.func67 c56,
  ok_some rfl Tryz.func68 c383,
  ok_some rfl Tryz.func69 c384,
  ok_some rfl Tryz.func70 c281,
  ok_some rfl Tryz.func71 c273,
  ok_some rfl Tryz.func72 c275,
  ok_some rfl Tryz.func73 c276,
  ok_some rfl Tryz.func74 c385,
  ok_some rfl Tryz.func75 c337,
  ok_some rfl Tryz.func76 c386,
  ok_some rfl Tryz.func77 c305,
  ok_some rfl Tryz.func78 c387,
  ok_some rfl Tryz.func79 c294,
  ok_cell rfl Tryz.func80 c295,
  ok_some rfl Tryz.func81 c296,
  ok_some rfl Tryz.func82 c297,
  ok_some rfl Tryz.func83 c298,
  ok_some rfl Tryz.func84 c299,
  ok_some rfl Tryz.func85 c290,
  ok_some rfl Tryz.func86 c291,
  ok_some rfl Tryz.func87 c300,
  ok_some rfl Tryz.func88 c292,
  ok_some rfl Tryz.func89 c388,
  ok_some rfl Tryz.func90 c389,
  ok_some rfl Tryz.func91 c390,
  ok_some rfl Tryz.func92 c391,
  ok_some rfl Tryz.func93 c392,
  ok_some rfl Tryz.func94 c393,
  ok_some rfl Tryz.func95 c394,
  ok_some rfl Tryz.func96 c395,
  ok_some rfl Tryz.func97 c396,
  ok_some rfl Tryz.func98 c397,
  ok_some rfl Tryz.func99 c398,
  ok_some rfl Tryz.func100 c399,
  ok_cell rfl Tryz.func101 c336,
  ok_some rfl Tryz.func102 c400,
  ok_cell rfl Tryz.func103 c401,
  ok_some rfl Tryz.func104 c60,
  ok_some rfl Tryz.func105 c74,
  ok_some rfl Tryz.func106 c76,
  ok_some rfl Tryz.func107 c75,
  ok_some rfl Tryz.func108 c289,
  ok_some rfl Tryz.func109 c402,
  ok_some rfl Tryz.func110 c327,
  ok_some rfl Tryz.func111 c311,
  ok_some rfl Tryz.func112 c310,
  ok_some rfl Tryz.func113 c313,
  ok_some rfl Tryz.func114 c314,
  ok_some rfl Tryz.func115 c315,
  ok_some rfl Tryz.func116 c316,
  ok_some rfl Tryz.func117 c317,
  ok_some rfl Tryz.func118 c330,
  ok_some rfl Tryz.func119 c318,
  ok_some rfl Tryz.func120 c319,
  ok_some rfl Tryz.func121 c320,
  ok_some rfl Tryz.func122 c309,
  ok_some rfl Tryz.func123 c324,
  ok_some rfl Tryz.func124 c53,
  ok_some rfl Tryz.func125 c403,
  ok_some rfl Tryz.func126 c58,
  ok_some rfl Tryz.func127 c404,
  ok_some rfl Tryz.func128 c405,
  ok_some rfl Tryz.func129 c406,
  ok_some rfl Tryz.func130 c408,
  ok_some rfl Tryz.func131 c407,
  ok_some rfl Tryz.func132 c409,
  ok_some rfl Tryz.func133 c410,
  ok_cell rfl Tryz.func134 c411,
  ok_some rfl Tryz.func135 c412,
  ok_some rfl Tryz.func136 c413,
  ok_some rfl Tryz.func137 c307,
  ok_some rfl Tryz.func138 c83,
  ok_some rfl Tryz.func139 c82,
  ok_some rfl Tryz.func140 c84,
  ok_some rfl Tryz.func141 c306,
  ok_some rfl Tryz.func142 c308,
  ok_some rfl Tryz.func143 c328,
  ok_some rfl Tryz.func144 c329,
  ok_some rfl Tryz.func145 c335,
  ok_cell rfl Tryz.func146 c334,
  ok_some rfl Tryz.func147 c73,
  ok_some rfl Tryz.func148 c77,
  ok_some rfl Tryz.func149 c78,
  ok_some rfl Tryz.func150 c79,
  ok_some rfl Tryz.func151 c80,
  ok_some rfl Tryz.func152 c62,
  ok_some rfl Tryz.func153 c414,
  ok_some rfl Tryz.func154 c415,
  ok_some rfl Tryz.func155 c416,
  ok_some rfl Tryz.func156 c417,
  ok_some rfl Tryz.func157 c418,
  ok_some rfl Tryz.func158 c419,
  ok_some rfl Tryz.func159 c420,
  ok_some rfl Tryz.func160 c421,
  ok_some rfl Tryz.func161 c422,
  ok_some rfl Tryz.func162 c423,
  ok_some rfl Tryz.func163 c424,
  ok_cell rfl Tryz.func164 c425,
  ok_some rfl Tryz.func165 c87,
  ok_some rfl Tryz.func166 c88,
  ok_some rfl Tryz.func167 c89,
  ok_some rfl Tryz.func168 c90,
  ok_some rfl Tryz.func169 c91,
  ok_some rfl Tryz.func170 c92,
  ok_some rfl Tryz.func171 c93,
  ok_some rfl Tryz.func172 c94,
  ok_some rfl Tryz.func173 c95,
  ok_some rfl Tryz.func174 c96,
  ok_some rfl Tryz.func175 c97,
  ok_some rfl Tryz.func176 c98,
  ok_some rfl Tryz.func177 c85,
  ok_some rfl Tryz.func178 c86,
  ok_some rfl Tryz.func179 c46,
  ok_some rfl Tryz.func180 c338,
  ok_some rfl Tryz.func181 c426,
  ok_some rfl Tryz.func182 c427,
  ok_cell rfl Tryz.func183 c428,
  ok_some rfl Tryz.func184 c429,
  ok_cell rfl Tryz.func185 c430,
  ok_some rfl Tryz.func186 c107,
  ok_some rfl Tryz.func187 c108,
  ok_some rfl Tryz.func188 c109,
  ok_some rfl Tryz.func189 c110,
  ok_some rfl Tryz.func190 c111,
  ok_some rfl Tryz.func191 c47,
  ok_some rfl Tryz.func192 c99,
  ok_some rfl Tryz.func193 c100,
  ok_some rfl Tryz.func194 c101,
  ok_some rfl Tryz.func195 c102,
  ok_some rfl Tryz.func196 c103,
  ok_some rfl Tryz.func197 c104,
  ok_some rfl Tryz.func198 c105,
  ok_some rfl Tryz.func199 c106,
  ok_some rfl Tryz.func200 c205,
  ok_cell rfl Tryz.func201 c431,
  ok_some rfl Tryz.func202 c115,
  ok_some rfl Tryz.func203 c112,
  ok_some rfl Tryz.func204 c113,
  ok_some rfl Tryz.func205 c114,
  ok_cell rfl Tryz.func206 c432,
  ok_some rfl Tryz.func207 c116,
  ok_none rfl,
  ok_none rfl,
  ok_none rfl,
  ok_none rfl,
  ok_none rfl,
  ok_none rfl,
  ok_none rfl,
  ok_none rfl,
  ok_none rfl,
  ok_none rfl,
  ok_none rfl,
  ok_none rfl,
  ok_none rfl,
  ok_none rfl,
  ok_none rfl,
  ok_none rfl,
  ok_none rfl,
  ok_none rfl,
  ok_some rfl Tryz.func226 c331,
  ok_some rfl Tryz.func227 c321,
  ok_some rfl Tryz.func228 c332,
  ok_some rfl Tryz.func229 c322,
  ok_some rfl Tryz.func230 c333,
  ok_some rfl Tryz.func231 c323,
  ok_some rfl Tryz.func232 c339,
  ok_none rfl,trivial⟩
theorem mixed:Tryz.prog.follows .mixedOrders=true:=by kernel_rfl
theorem hprog0:HProg Tryz.prog rn (DJ Tryz.prog rn) N0:=hprog_of all rfl
theorem awake_given:PrimFn Tryz.prog 4 Tryz.f4 awakeN:=closed_walk hprog0 mixed (by kernel_rfl) (by kernel_rfl) awakeW_ok
theorem hprog:HProg Tryz.prog rn (DJ Tryz.prog rn) N:=hprog_with hprog0 Tryz.func4 awake_given (by decide +kernel) (by decide)
end Camp.S
