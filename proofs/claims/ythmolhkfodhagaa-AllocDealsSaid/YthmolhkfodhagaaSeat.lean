/- Cells one before the other: Less, compare, Or, Compare, over the program's own code. The seat's program is what the machine runs. Printed by a program of mine (seatgen.py). -/
import Derived.Test.YthmolhkfodhagaaCode
import Derived.Test.YthmolhkfodhagaaUseB
import Derived.Test.YthmolhkfodhagaaProg
set_option linter.unnecessarySimpa false
set_option linter.unusedVariables false
set_option linter.unusedSimpArgs false
set_option linter.unusedSectionVars false
namespace Camp
open Go
open Nat (reduceLT reduceEqDiff reduceAdd reduceLeDiff reduceSub reduceMul)
section
set_option maxHeartbeats 2000000
section
variable {k:Nat} {h:Hp} {P:AV→Hp→Prop}
def cmp3t (a b:Int):Int:=if a<b then -1 else if b<a then 1 else 0
theorem nan0_ok {a:Int} (hP:P (.c (.bool false)) h):callW N0 (k+1) 47 [.c (.int .i64 a)] h P:=by
 refine call_intro rfl (by simp only [List.length_cons,List.length_nil];omega) ?_
 have hd:decide (a=a)=true:=by simp
 simp -implicitDefEqProofs only [KK,eq_self,↓reduceIte,reduceLT,reduceCtorEq]
 exact hP
theorem cmp0_ok {a b:Int} (hP:P (.c (.int .i64 (cmp3t a b))) h):callW N0 (k+2) 46 [.c (.int .i64 a),.c (.int .i64 b)] h P:=by
 refine call_intro rfl (by simp only [List.length_cons,List.length_nil];omega) ?_
 simp -implicitDefEqProofs only [KK,eq_self,↓reduceIte,reduceLT,reduceEqDiff,reduceAdd,reduceCtorEq]
 refine nan0_ok (k:=k) ?_
 simp -implicitDefEqProofs only [KK,eq_self,↓reduceIte,reduceLT,reduceEqDiff,reduceCtorEq]
 refine nan0_ok (k:=k) ?_
 unfold cmp3t at hP
 by_cases c1:a<b
 ·rw [if_pos c1] at hP
  simp -implicitDefEqProofs only [KK,eq_self,↓reduceIte,reduceLT,reduceEqDiff,reduceCtorEq,c1]
  exact hP
 ·rw [if_neg c1] at hP
  by_cases c2:b<a
  ·rw [if_pos c2] at hP
   simp -implicitDefEqProofs only [KK,eq_self,↓reduceIte,reduceLT,reduceEqDiff,reduceCtorEq,c1,c2]
   exact hP
  ·rw [if_neg c2] at hP
   simp -implicitDefEqProofs only [KK,eq_self,↓reduceIte,reduceLT,reduceEqDiff,reduceCtorEq,c1,c2]
   exact hP
def orL:List Int→Int
 | []=>0
 | a::l=>if a=0 then orL l else a
def OrI (h:Hp) (v:CV) (L:List Int) (m:Nat) (s:St):Prop:=
 ∃ (i:Nat) (l:List (Nat × TV)) (lc:List (List CV)),s=ST 18 l lc h∧i≤L.length∧m=L.length-i∧orL L=orL (L.drop i)∧
  lk l 3 = .v (.c (.int .i64 0))∧lk l 6 = .v (.c v)∧lk l 7 = .v (.c (.int .i64 L.length))∧lk l 8 = .v (.c (.int .i64 i))
theorem or0_ok {v:CV} {L:List Int} (hv:SL h 1 v (L.map fun x=>[.int .i64 x])) (hn:L.length≤100) (hP:P (.c (.int .i64 (orL L))) h):callW N0 (k+1) 86 [.c v] h P:=by
 have hlen:∀ h':Hp,lenT h' .sl (.v (.c v))=some (L.length:Int):=fun h'=>by rw [hv.len h',List.length_map]
 refine call_intro rfl (by simp only [List.length_cons,List.length_nil];omega) ?_
 simp -implicitDefEqProofs only [KK,eq_self,↓reduceIte,reduceLT,reduceEqDiff,reduceCtorEq,hlen]
 refine loop_rd (callW_mono N0 _) (OrI h v L) (n:=L.length) ⟨0,_,_,rfl,by omega,rfl,rfl,rfl,rfl,rfl,rfl⟩ ?_
 rintro m s ⟨i,l,lc,rfl,hi,hm,ho,e3,e6,e7,e8⟩
 by_cases hlt:(i:Int)<(L.length:Int)
 ·have hil:i<L.length:=by omega
  obtain ⟨x,hx⟩:∃ x,L[i]? = some x:=⟨_,List.getElem?_eq_getElem hil⟩
  have hrow:(L.map fun x=>[CV.int .i64 x])[(i:Int).toNat]? = some [.int .i64 x]:=by simp [hx]
  obtain ⟨p1,p2,p3,a1,a2⟩:=hv.at (by omega) hrow
  have hwi:=wrap_i64 (n:=(i:Int)+1) (by omega)
  have hdr:L.drop i=x::L.drop (i+1):=by
   rw [List.drop_eq_getElem_cons hil]
   rw [List.getElem?_eq_getElem hil] at hx
   rw [Option.some.inj hx]
  rw [hdr,orL] at ho
  by_cases c:x=0
  ·have hc:decide (x=0)=true:=decide_eq_true c
   rw [if_pos c] at ho
   simp -implicitDefEqProofs only [KK,eq_self,↓reduceIte,reduceLT,reduceEqDiff,e3,e6,e7,e8,hlt,a1,a2,hc,hwi,rd_n]
   exact ⟨m-1,by omega,i+1,_,_,rfl,by omega,by omega,ho,rfl,rfl,rfl,rfl⟩
  ·rw [if_neg c] at ho
   simp -implicitDefEqProofs only [KK,eq_self,↓reduceIte,reduceLT,reduceEqDiff,e3,e6,e7,e8,hlt,a1,a2,c]
   rw [ho] at hP
   exact hP
 ·have:i=L.length:=by omega
  subst this
  rw [List.drop_length] at ho
  simp -implicitDefEqProofs only [KK,eq_self,↓reduceIte,reduceLT,reduceEqDiff,e3,e6,e7,e8,hlt]
  rw [ho] at hP
  exact hP
theorem less_or (a b c d e a' b' c' d' e':Int):decide (orL [cmp3t a a',cmp3t b b',cmp3t c c',cmp3t d d',cmp3t e e']<0)=lessB a b c d e a' b' c' d' e':=by
 unfold lessB
 rw [Bool.eq_iff_iff,decide_eq_true_eq,decide_eq_true_eq]
 have key:∀ (x y:Int) (l:List Int),orL (cmp3t x y::l)<0↔x<y∨(x=y∧orL l<0):=by
  intro x y l
  rw [orL]
  unfold cmp3t
  by_cases c1:x<y
  ·rw [if_pos c1,if_neg (by omega)];omega
  ·rw [if_neg c1]
   by_cases c2:y<x
   ·rw [if_pos c2,if_neg (by omega)];omega
   ·rw [if_neg c2,if_pos rfl]
    have:x=y:=by omega
    simp [this]
 rw [key,key,key,key,key]
 simp [orL]
theorem compare0_ok {a b c d e a' b' c' d' e':Int} (hP:∀ h',P (.c (.int .i64 (orL [cmp3t a a',cmp3t b b',cmp3t c c',cmp3t d d',cmp3t e e']))) h') :
 callW N0 (k+3) 157 [.agg [.int .i64 a,.int .i64 b,.int .i64 c,.int .i64 d,.int .i64 e],.agg [.int .i64 a',.int .i64 b',.int .i64 c',.int .i64 d',.int .i64 e']] h P:=by
 obtain ⟨h1,hh1⟩:∃ h1,h1=h.reserve 1:=⟨_,rfl⟩
 have d0:h1.g h.n=some .dead:=by rw [hh1];exact dead_one h
 obtain ⟨h2,hh2⟩:∃ h2,h2=h1.put h.n (.rows true 1 0 0 ([cmp3t a a',cmp3t b b',cmp3t c c',cmp3t d d',cmp3t e e'].map fun x=>[.int .i64 x])):=⟨_,rfl⟩
 have g2:h2.g h.n=some (.rows true 1 0 0 ([cmp3t a a',cmp3t b b',cmp3t c c',cmp3t d d',cmp3t e e'].map fun x=>[.int .i64 x])):=by rw [hh2,g_put_eq,d0];rfl
 have hfold:=hh1.symm
 have hfold2:h1.put h.n (.rows true 1 0 0 [[.int .i64 (cmp3t a a')],[.int .i64 (cmp3t b b')],[.int .i64 (cmp3t c c')],[.int .i64 (cmp3t d d')],[.int .i64 (cmp3t e e')]])=h2:=hh2.symm
 refine call_intro rfl (by simp only [List.length_cons,List.length_nil];omega) ?_
 simp -implicitDefEqProofs only [KK,eq_self,↓reduceIte,reduceLT,reduceEqDiff,reduceAdd,reduceCtorEq,hfold]
 refine cmp0_ok (k:=k) ?_
 simp -implicitDefEqProofs only [KK,eq_self,↓reduceIte,reduceLT,reduceEqDiff]
 refine cmp0_ok (k:=k) ?_
 simp -implicitDefEqProofs only [KK,eq_self,↓reduceIte,reduceLT,reduceEqDiff]
 refine cmp0_ok (k:=k) ?_
 simp -implicitDefEqProofs only [KK,eq_self,↓reduceIte,reduceLT,reduceEqDiff]
 refine cmp0_ok (k:=k) ?_
 simp -implicitDefEqProofs only [KK,eq_self,↓reduceIte,reduceLT,reduceEqDiff]
 refine cmp0_ok (k:=k) ?_
 simp -implicitDefEqProofs only [KK,eq_self,↓reduceIte,reduceLT,reduceEqDiff,reduceAdd,reduceLeDiff,d0,chunks,hfold2]
 refine or0_ok (k:=k+1) (L:=[cmp3t a a',cmp3t b b',cmp3t c c',cmp3t d d',cmp3t e e']) ⟨true,0,0,_,g2,Nat.le_refl _,Nat.le_refl _,rfl⟩ (by simp) ?_
 simp -implicitDefEqProofs only [KK,eq_self,↓reduceIte,reduceLT]
 exact hP _
theorem less0_ok (a b c d e a' b' c' d' e':Int):callW N0 8 156 [.agg [.int .i64 a,.int .i64 b,.int .i64 c,.int .i64 d,.int .i64 e],.agg [.int .i64 a',.int .i64 b',.int .i64 c',.int .i64 d',.int .i64 e']] ⟨[],0⟩ fun r' _=>r' = .c (.bool (lessB a b c d e a' b' c' d' e')):=by
 refine call_intro rfl (by simp only [List.length_cons,List.length_nil];omega) ?_
 simp -implicitDefEqProofs only [KK,eq_self,↓reduceIte,reduceLT,reduceEqDiff,reduceAdd,reduceCtorEq]
 refine compare0_ok (k:=4) fun h'=>?_
 simp -implicitDefEqProofs only [KK,eq_self,↓reduceIte,reduceLT,less_or]
end
end
end Camp
namespace Camp.S
open Go Go.Proofs
def tbl:List Nat:=[1000000,1000000,1000000,1000000,1000000,245,1000000,1000000,1000000,119,1000000,118,216,120,1000000,7,246,196,247,237,13,229,199,197,44,121,122,123,218,219,126,2,19,15,20,3,21,250,74,151,251,156,5,202,238,252,232,12,244,203,124,125,128,127,18,22,17,253,83,82,155,157,4,207,206,46,254,233,11,129,255,87,88,89,90,91,92,93,94,95,96,97,158,159,160,161,162,163,164,165,86,208,47,107,108,109,110,111,166,167,168,209,210,115,169,211,212,1000000,1000000,1000000,1000000,1000000,1000000,1000000,1000000,1000000,1000000,1000000,1000000,1000000,1000000,1000000,1000000,1000000,1000000]
abbrev rn:FuncId→Nat:=rnOf tbl
theorem c245:CFn Try.prog rn (DJ Try.prog rn) Try.f5 n245:=cfn_ok [18] (by kernel_rfl) (by kernel_rfl) (by kernel_rfl) (by kernel_rfl)
theorem c119:CFn Try.prog rn (DJ Try.prog rn) Try.f9 n119:=cfn_ok [1,2] (by kernel_rfl) (by kernel_rfl) (by kernel_rfl) (by kernel_rfl)
theorem c118:CFn Try.prog rn (DJ Try.prog rn) Try.f11 n118:=cfn_ok [4,5] (by kernel_rfl) (by kernel_rfl) (by kernel_rfl) (by kernel_rfl)
theorem c216:CFn Try.prog rn (DJ Try.prog rn) Try.f12 n216:=cfn_ok [4,5] (by kernel_rfl) (by kernel_rfl) (by kernel_rfl) (by kernel_rfl)
theorem c120:CFn Try.prog rn (DJ Try.prog rn) Try.f13 n120:=cfn_ok [7,45] (by kernel_rfl) (by kernel_rfl) (by kernel_rfl) (by kernel_rfl)
theorem c7:CFn Try.prog rn (DJ Try.prog rn) Try.f15 n7:=cfn_ok [10] (by kernel_rfl) (by kernel_rfl) (by kernel_rfl) (by kernel_rfl)
theorem c246:CFn Try.prog rn (DJ Try.prog rn) Try.f16 n246:=cfn_ok [17,79] (by kernel_rfl) (by kernel_rfl) (by kernel_rfl) (by kernel_rfl)
theorem c196:CFn Try.prog rn (DJ Try.prog rn) Try.f17 n196:=cfn_ok [39,77] (by kernel_rfl) (by kernel_rfl) (by kernel_rfl) (by kernel_rfl)
theorem c247:CFnC Try.prog rn (DJ Try.prog rn) Try.f18 n247:=cfn_cell [11,15,96] [] [9] 8 31 (some 16) (by kernel_rfl) (by kernel_rfl) (by kernel_rfl) (by decide) (by decide) (by decide) (by kernel_rfl) (by kernel_rfl)
theorem c237:CFn Try.prog rn (DJ Try.prog rn) Try.f19 n237:=cfn_ok [] (by kernel_rfl) (by kernel_rfl) (by kernel_rfl) (by kernel_rfl)
theorem c13:CFn Try.prog rn (DJ Try.prog rn) Try.f20 n13:=cfn_ok [] (by kernel_rfl) (by kernel_rfl) (by kernel_rfl) (by kernel_rfl)
theorem c229:CFn Try.prog rn (DJ Try.prog rn) Try.f21 n229:=cfn_ok [] (by kernel_rfl) (by kernel_rfl) (by kernel_rfl) (by kernel_rfl)
theorem c199:CFn Try.prog rn (DJ Try.prog rn) Try.f22 n199:=cfn_ok [] (by kernel_rfl) (by kernel_rfl) (by kernel_rfl) (by kernel_rfl)
theorem c197:CFn Try.prog rn (DJ Try.prog rn) Try.f23 n197:=cfn_ok [] (by kernel_rfl) (by kernel_rfl) (by kernel_rfl) (by kernel_rfl)
theorem c44:CFn Try.prog rn (DJ Try.prog rn) Try.f24 n44:=cfn_ok [] (by kernel_rfl) (by kernel_rfl) (by kernel_rfl) (by kernel_rfl)
theorem c121:CFn Try.prog rn (DJ Try.prog rn) Try.f25 n121:=cfn_ok [1] (by kernel_rfl) (by kernel_rfl) (by kernel_rfl) (by kernel_rfl)
theorem c122:CFn Try.prog rn (DJ Try.prog rn) Try.f26 n122:=cfn_ok [] (by kernel_rfl) (by kernel_rfl) (by kernel_rfl) (by kernel_rfl)
theorem c123:CFn Try.prog rn (DJ Try.prog rn) Try.f27 n123:=cfn_ok [4,5] (by kernel_rfl) (by kernel_rfl) (by kernel_rfl) (by kernel_rfl)
theorem c218:CFn Try.prog rn (DJ Try.prog rn) Try.f28 n218:=cfn_ok [1] (by kernel_rfl) (by kernel_rfl) (by kernel_rfl) (by kernel_rfl)
theorem c219:CFn Try.prog rn (DJ Try.prog rn) Try.f29 n219:=cfn_ok [2,3] (by kernel_rfl) (by kernel_rfl) (by kernel_rfl) (by kernel_rfl)
theorem c126:CFn Try.prog rn (DJ Try.prog rn) Try.f30 n126:=cfn_ok [] (by kernel_rfl) (by kernel_rfl) (by kernel_rfl) (by kernel_rfl)
theorem c2:CFn Try.prog rn (DJ Try.prog rn) Try.f31 n2:=cfn_ok [] (by kernel_rfl) (by kernel_rfl) (by kernel_rfl) (by kernel_rfl)
theorem c19:CFn Try.prog rn (DJ Try.prog rn) Try.f32 n19:=cfn_ok [] (by kernel_rfl) (by kernel_rfl) (by kernel_rfl) (by kernel_rfl)
theorem c15:CFn Try.prog rn (DJ Try.prog rn) Try.f33 n15:=cfn_ok [] (by kernel_rfl) (by kernel_rfl) (by kernel_rfl) (by kernel_rfl)
theorem c20:CFn Try.prog rn (DJ Try.prog rn) Try.f34 n20:=cfn_ok [] (by kernel_rfl) (by kernel_rfl) (by kernel_rfl) (by kernel_rfl)
theorem c3:CFn Try.prog rn (DJ Try.prog rn) Try.f35 n3:=cfn_ok [9] (by kernel_rfl) (by kernel_rfl) (by kernel_rfl) (by kernel_rfl)
theorem c21:CFn Try.prog rn (DJ Try.prog rn) Try.f36 n21:=cfn_ok [7,8,10] (by kernel_rfl) (by kernel_rfl) (by kernel_rfl) (by kernel_rfl)
theorem c250:CFn Try.prog rn (DJ Try.prog rn) Try.f37 n250:=cfn_ok [7] (by kernel_rfl) (by kernel_rfl) (by kernel_rfl) (by kernel_rfl)
theorem c74:CFn Try.prog rn (DJ Try.prog rn) Try.f38 n74:=cfn_ok [] (by kernel_rfl) (by kernel_rfl) (by kernel_rfl) (by kernel_rfl)
theorem c151:CFn Try.prog rn (DJ Try.prog rn) Try.f39 n151:=cfn_ok [] (by kernel_rfl) (by kernel_rfl) (by kernel_rfl) (by kernel_rfl)
theorem c251:CFn Try.prog rn (DJ Try.prog rn) Try.f40 n251:=cfn_ok [2,3] (by kernel_rfl) (by kernel_rfl) (by kernel_rfl) (by kernel_rfl)
theorem c156:CFn Try.prog rn (DJ Try.prog rn) Try.f41 n156:=cfn_ok [2,3] (by kernel_rfl) (by kernel_rfl) (by kernel_rfl) (by kernel_rfl)
theorem c5:CFn Try.prog rn (DJ Try.prog rn) Try.f42 n5:=cfn_ok [34] (by kernel_rfl) (by kernel_rfl) (by kernel_rfl) (by kernel_rfl)
theorem c202:CFn Try.prog rn (DJ Try.prog rn) Try.f43 n202:=cfn_ok [46] (by kernel_rfl) (by kernel_rfl) (by kernel_rfl) (by kernel_rfl)
theorem c238:CFn Try.prog rn (DJ Try.prog rn) Try.f44 n238:=cfn_ok [23] (by kernel_rfl) (by kernel_rfl) (by kernel_rfl) (by kernel_rfl)
theorem c252:CFn Try.prog rn (DJ Try.prog rn) Try.f45 n252:=cfn_ok [17,18] (by kernel_rfl) (by kernel_rfl) (by kernel_rfl) (by kernel_rfl)
theorem c232:CFn Try.prog rn (DJ Try.prog rn) Try.f46 n232:=cfn_ok [5] (by kernel_rfl) (by kernel_rfl) (by kernel_rfl) (by kernel_rfl)
theorem c12:CFn Try.prog rn (DJ Try.prog rn) Try.f47 n12:=cfn_ok [30] (by kernel_rfl) (by kernel_rfl) (by kernel_rfl) (by kernel_rfl)
theorem c244:CFn Try.prog rn (DJ Try.prog rn) Try.f48 n244:=cfn_ok [55] (by kernel_rfl) (by kernel_rfl) (by kernel_rfl) (by kernel_rfl)
theorem c203:CFn Try.prog rn (DJ Try.prog rn) Try.f49 n203:=cfn_ok [] (by kernel_rfl) (by kernel_rfl) (by kernel_rfl) (by kernel_rfl)
theorem c124:CFn Try.prog rn (DJ Try.prog rn) Try.f50 n124:=cfn_ok [] (by kernel_rfl) (by kernel_rfl) (by kernel_rfl) (by kernel_rfl)
theorem c125:CFn Try.prog rn (DJ Try.prog rn) Try.f51 n125:=cfn_ok [2] (by kernel_rfl) (by kernel_rfl) (by kernel_rfl) (by kernel_rfl)
theorem c128:CFn Try.prog rn (DJ Try.prog rn) Try.f52 n128:=cfn_ok [] (by kernel_rfl) (by kernel_rfl) (by kernel_rfl) (by kernel_rfl)
theorem c127:CFn Try.prog rn (DJ Try.prog rn) Try.f53 n127:=cfn_ok [3] (by kernel_rfl) (by kernel_rfl) (by kernel_rfl) (by kernel_rfl)
theorem c18:CFn Try.prog rn (DJ Try.prog rn) Try.f54 n18:=cfn_ok [] (by kernel_rfl) (by kernel_rfl) (by kernel_rfl) (by kernel_rfl)
theorem c22:CFn Try.prog rn (DJ Try.prog rn) Try.f55 n22:=cfn_ok [] (by kernel_rfl) (by kernel_rfl) (by kernel_rfl) (by kernel_rfl)
theorem c17:CFn Try.prog rn (DJ Try.prog rn) Try.f56 n17:=cfn_ok [9] (by kernel_rfl) (by kernel_rfl) (by kernel_rfl) (by kernel_rfl)
theorem c253:CFn Try.prog rn (DJ Try.prog rn) Try.f57 n253:=cfn_ok [11,12] (by kernel_rfl) (by kernel_rfl) (by kernel_rfl) (by kernel_rfl)
theorem c83:CFn Try.prog rn (DJ Try.prog rn) Try.f58 n83:=cfn_ok [] (by kernel_rfl) (by kernel_rfl) (by kernel_rfl) (by kernel_rfl)
theorem c82:CFn Try.prog rn (DJ Try.prog rn) Try.f59 n82:=cfn_ok [] (by kernel_rfl) (by kernel_rfl) (by kernel_rfl) (by kernel_rfl)
theorem c155:CFn Try.prog rn (DJ Try.prog rn) Try.f60 n155:=cfn_ok [] (by kernel_rfl) (by kernel_rfl) (by kernel_rfl) (by kernel_rfl)
theorem c157:CFn Try.prog rn (DJ Try.prog rn) Try.f61 n157:=cfn_ok [2,3] (by kernel_rfl) (by kernel_rfl) (by kernel_rfl) (by kernel_rfl)
theorem c4:CFn Try.prog rn (DJ Try.prog rn) Try.f62 n4:=cfn_ok [] (by kernel_rfl) (by kernel_rfl) (by kernel_rfl) (by kernel_rfl)
theorem c207:CFn Try.prog rn (DJ Try.prog rn) Try.f63 n207:=cfn_ok [] (by kernel_rfl) (by kernel_rfl) (by kernel_rfl) (by kernel_rfl)
theorem c206:CFn Try.prog rn (DJ Try.prog rn) Try.f64 n206:=cfn_ok [] (by kernel_rfl) (by kernel_rfl) (by kernel_rfl) (by kernel_rfl)
theorem c46:CFn Try.prog rn (DJ Try.prog rn) Try.f65 n46:=cfn_ok [] (by kernel_rfl) (by kernel_rfl) (by kernel_rfl) (by kernel_rfl)
theorem c254:CFn Try.prog rn (DJ Try.prog rn) Try.f66 n254:=cfn_ok [4,10] (by kernel_rfl) (by kernel_rfl) (by kernel_rfl) (by kernel_rfl)
theorem c233:CFn Try.prog rn (DJ Try.prog rn) Try.f67 n233:=cfn_ok [2,3,5,6] (by kernel_rfl) (by kernel_rfl) (by kernel_rfl) (by kernel_rfl)
theorem c11:CFn Try.prog rn (DJ Try.prog rn) Try.f68 n11:=cfn_ok [] (by kernel_rfl) (by kernel_rfl) (by kernel_rfl) (by kernel_rfl)
theorem c129:CFn Try.prog rn (DJ Try.prog rn) Try.f69 n129:=cfn_ok [] (by kernel_rfl) (by kernel_rfl) (by kernel_rfl) (by kernel_rfl)
theorem c255:CFn Try.prog rn (DJ Try.prog rn) Try.f70 n255:=cfn_ok [5] (by kernel_rfl) (by kernel_rfl) (by kernel_rfl) (by kernel_rfl)
theorem c87:CFn Try.prog rn (DJ Try.prog rn) Try.f71 n87:=cfn_ok [] (by kernel_rfl) (by kernel_rfl) (by kernel_rfl) (by kernel_rfl)
theorem c88:CFn Try.prog rn (DJ Try.prog rn) Try.f72 n88:=cfn_ok [] (by kernel_rfl) (by kernel_rfl) (by kernel_rfl) (by kernel_rfl)
theorem c89:CFn Try.prog rn (DJ Try.prog rn) Try.f73 n89:=cfn_ok [] (by kernel_rfl) (by kernel_rfl) (by kernel_rfl) (by kernel_rfl)
theorem c90:CFn Try.prog rn (DJ Try.prog rn) Try.f74 n90:=cfn_ok [] (by kernel_rfl) (by kernel_rfl) (by kernel_rfl) (by kernel_rfl)
theorem c91:CFn Try.prog rn (DJ Try.prog rn) Try.f75 n91:=cfn_ok [] (by kernel_rfl) (by kernel_rfl) (by kernel_rfl) (by kernel_rfl)
theorem c92:CFn Try.prog rn (DJ Try.prog rn) Try.f76 n92:=cfn_ok [] (by kernel_rfl) (by kernel_rfl) (by kernel_rfl) (by kernel_rfl)
theorem c93:CFn Try.prog rn (DJ Try.prog rn) Try.f77 n93:=cfn_ok [] (by kernel_rfl) (by kernel_rfl) (by kernel_rfl) (by kernel_rfl)
theorem c94:CFn Try.prog rn (DJ Try.prog rn) Try.f78 n94:=cfn_ok [] (by kernel_rfl) (by kernel_rfl) (by kernel_rfl) (by kernel_rfl)
theorem c95:CFn Try.prog rn (DJ Try.prog rn) Try.f79 n95:=cfn_ok [] (by kernel_rfl) (by kernel_rfl) (by kernel_rfl) (by kernel_rfl)
theorem c96:CFn Try.prog rn (DJ Try.prog rn) Try.f80 n96:=cfn_ok [] (by kernel_rfl) (by kernel_rfl) (by kernel_rfl) (by kernel_rfl)
theorem c97:CFn Try.prog rn (DJ Try.prog rn) Try.f81 n97:=cfn_ok [] (by kernel_rfl) (by kernel_rfl) (by kernel_rfl) (by kernel_rfl)
theorem c158:CFn Try.prog rn (DJ Try.prog rn) Try.f82 n158:=cfn_ok [] (by kernel_rfl) (by kernel_rfl) (by kernel_rfl) (by kernel_rfl)
theorem c159:CFn Try.prog rn (DJ Try.prog rn) Try.f83 n159:=cfn_ok [] (by kernel_rfl) (by kernel_rfl) (by kernel_rfl) (by kernel_rfl)
theorem c160:CFn Try.prog rn (DJ Try.prog rn) Try.f84 n160:=cfn_ok [] (by kernel_rfl) (by kernel_rfl) (by kernel_rfl) (by kernel_rfl)
theorem c161:CFn Try.prog rn (DJ Try.prog rn) Try.f85 n161:=cfn_ok [] (by kernel_rfl) (by kernel_rfl) (by kernel_rfl) (by kernel_rfl)
theorem c162:CFn Try.prog rn (DJ Try.prog rn) Try.f86 n162:=cfn_ok [] (by kernel_rfl) (by kernel_rfl) (by kernel_rfl) (by kernel_rfl)
theorem c163:CFn Try.prog rn (DJ Try.prog rn) Try.f87 n163:=cfn_ok [] (by kernel_rfl) (by kernel_rfl) (by kernel_rfl) (by kernel_rfl)
theorem c164:CFn Try.prog rn (DJ Try.prog rn) Try.f88 n164:=cfn_ok [] (by kernel_rfl) (by kernel_rfl) (by kernel_rfl) (by kernel_rfl)
theorem c165:CFn Try.prog rn (DJ Try.prog rn) Try.f89 n165:=cfn_ok [] (by kernel_rfl) (by kernel_rfl) (by kernel_rfl) (by kernel_rfl)
theorem c86:CFn Try.prog rn (DJ Try.prog rn) Try.f90 n86:=cfn_ok [] (by kernel_rfl) (by kernel_rfl) (by kernel_rfl) (by kernel_rfl)
theorem c208:CFn Try.prog rn (DJ Try.prog rn) Try.f91 n208:=cfn_ok [] (by kernel_rfl) (by kernel_rfl) (by kernel_rfl) (by kernel_rfl)
theorem c47:CFn Try.prog rn (DJ Try.prog rn) Try.f92 n47:=cfn_ok [] (by kernel_rfl) (by kernel_rfl) (by kernel_rfl) (by kernel_rfl)
theorem c107:CFn Try.prog rn (DJ Try.prog rn) Try.f93 n107:=cfn_ok [] (by kernel_rfl) (by kernel_rfl) (by kernel_rfl) (by kernel_rfl)
theorem c108:CFn Try.prog rn (DJ Try.prog rn) Try.f94 n108:=cfn_ok [] (by kernel_rfl) (by kernel_rfl) (by kernel_rfl) (by kernel_rfl)
theorem c109:CFn Try.prog rn (DJ Try.prog rn) Try.f95 n109:=cfn_ok [] (by kernel_rfl) (by kernel_rfl) (by kernel_rfl) (by kernel_rfl)
theorem c110:CFn Try.prog rn (DJ Try.prog rn) Try.f96 n110:=cfn_ok [] (by kernel_rfl) (by kernel_rfl) (by kernel_rfl) (by kernel_rfl)
theorem c111:CFn Try.prog rn (DJ Try.prog rn) Try.f97 n111:=cfn_ok [] (by kernel_rfl) (by kernel_rfl) (by kernel_rfl) (by kernel_rfl)
theorem c166:CFn Try.prog rn (DJ Try.prog rn) Try.f98 n166:=cfn_ok [] (by kernel_rfl) (by kernel_rfl) (by kernel_rfl) (by kernel_rfl)
theorem c167:CFn Try.prog rn (DJ Try.prog rn) Try.f99 n167:=cfn_ok [] (by kernel_rfl) (by kernel_rfl) (by kernel_rfl) (by kernel_rfl)
theorem c168:CFn Try.prog rn (DJ Try.prog rn) Try.f100 n168:=cfn_ok [] (by kernel_rfl) (by kernel_rfl) (by kernel_rfl) (by kernel_rfl)
theorem c209:CFn Try.prog rn (DJ Try.prog rn) Try.f101 n209:=cfn_ok [] (by kernel_rfl) (by kernel_rfl) (by kernel_rfl) (by kernel_rfl)
theorem c210:CFn Try.prog rn (DJ Try.prog rn) Try.f102 n210:=cfn_ok [] (by kernel_rfl) (by kernel_rfl) (by kernel_rfl) (by kernel_rfl)
theorem c115:CFn Try.prog rn (DJ Try.prog rn) Try.f103 n115:=cfn_ok [] (by kernel_rfl) (by kernel_rfl) (by kernel_rfl) (by kernel_rfl)
theorem c169:CFn Try.prog rn (DJ Try.prog rn) Try.f104 n169:=cfn_ok [] (by kernel_rfl) (by kernel_rfl) (by kernel_rfl) (by kernel_rfl)
theorem c211:CFn Try.prog rn (DJ Try.prog rn) Try.f105 n211:=cfn_ok [] (by kernel_rfl) (by kernel_rfl) (by kernel_rfl) (by kernel_rfl)
theorem c212:CFn Try.prog rn (DJ Try.prog rn) Try.f106 n212:=cfn_ok [] (by kernel_rfl) (by kernel_rfl) (by kernel_rfl) (by kernel_rfl)
theorem all:AllOk Try.prog rn N0 tbl 0:=
 ⟨ok_none rfl,
  ok_none rfl,
  ok_none rfl,
  ok_none rfl,
  ok_none rfl,
  ok_some rfl Try.func5 c245,
  ok_none rfl,
  ok_none rfl,
  ok_none rfl,
  ok_some rfl Try.func9 c119,
  ok_none rfl,
  ok_some rfl Try.func11 c118,
  ok_some rfl Try.func12 c216,
  ok_some rfl Try.func13 c120,
  ok_none rfl,
  ok_some rfl Try.func15 c7,
  ok_some rfl Try.func16 c246,
  ok_some rfl Try.func17 c196,
  ok_cell rfl Try.func18 c247,
  ok_some rfl Try.func19 c237,
  ok_some rfl Try.func20 c13,
  ok_some rfl Try.func21 c229,
  ok_some rfl Try.func22 c199,
  ok_some rfl Try.func23 c197,
  ok_some rfl Try.func24 c44,
  ok_some rfl Try.func25 c121,
  ok_some rfl Try.func26 c122,
  ok_some rfl Try.func27 c123,
  ok_some rfl Try.func28 c218,
  ok_some rfl Try.func29 c219,
  ok_some rfl Try.func30 c126,
  ok_some rfl Try.func31 c2,
  ok_some rfl Try.func32 c19,
  ok_some rfl Try.func33 c15,
  ok_some rfl Try.func34 c20,
  ok_some rfl Try.func35 c3,
  ok_some rfl Try.func36 c21,
  ok_some rfl Try.func37 c250,
  ok_some rfl Try.func38 c74,
  ok_some rfl Try.func39 c151,
  ok_some rfl Try.func40 c251,
  ok_some rfl Try.func41 c156,
  ok_some rfl Try.func42 c5,
  ok_some rfl Try.func43 c202,
  ok_some rfl Try.func44 c238,
  ok_some rfl Try.func45 c252,
  ok_some rfl Try.func46 c232,
  ok_some rfl Try.func47 c12,
  ok_some rfl Try.func48 c244,
  ok_some rfl Try.func49 c203,
  ok_some rfl Try.func50 c124,
  ok_some rfl Try.func51 c125,
  ok_some rfl Try.func52 c128,
  ok_some rfl Try.func53 c127,
  ok_some rfl Try.func54 c18,
  ok_some rfl Try.func55 c22,
  ok_some rfl Try.func56 c17,
  ok_some rfl Try.func57 c253,
  ok_some rfl Try.func58 c83,
  ok_some rfl Try.func59 c82,
  ok_some rfl Try.func60 c155,
  ok_some rfl Try.func61 c157,
  ok_some rfl Try.func62 c4,
  ok_some rfl Try.func63 c207,
  ok_some rfl Try.func64 c206,
  ok_some rfl Try.func65 c46,
  ok_some rfl Try.func66 c254,
  ok_some rfl Try.func67 c233,
  ok_some rfl Try.func68 c11,
  ok_some rfl Try.func69 c129,
  ok_some rfl Try.func70 c255,
  ok_some rfl Try.func71 c87,
  ok_some rfl Try.func72 c88,
  ok_some rfl Try.func73 c89,
  ok_some rfl Try.func74 c90,
  ok_some rfl Try.func75 c91,
  ok_some rfl Try.func76 c92,
  ok_some rfl Try.func77 c93,
  ok_some rfl Try.func78 c94,
  ok_some rfl Try.func79 c95,
  ok_some rfl Try.func80 c96,
  ok_some rfl Try.func81 c97,
  ok_some rfl Try.func82 c158,
  ok_some rfl Try.func83 c159,
  ok_some rfl Try.func84 c160,
  ok_some rfl Try.func85 c161,
  ok_some rfl Try.func86 c162,
  ok_some rfl Try.func87 c163,
  ok_some rfl Try.func88 c164,
  ok_some rfl Try.func89 c165,
  ok_some rfl Try.func90 c86,
  ok_some rfl Try.func91 c208,
  ok_some rfl Try.func92 c47,
  ok_some rfl Try.func93 c107,
  ok_some rfl Try.func94 c108,
  ok_some rfl Try.func95 c109,
  ok_some rfl Try.func96 c110,
  ok_some rfl Try.func97 c111,
  ok_some rfl Try.func98 c166,
  ok_some rfl Try.func99 c167,
  ok_some rfl Try.func100 c168,
  ok_some rfl Try.func101 c209,
  ok_some rfl Try.func102 c210,
  ok_some rfl Try.func103 c115,
  ok_some rfl Try.func104 c169,
  ok_some rfl Try.func105 c211,
  ok_some rfl Try.func106 c212,
  ok_none rfl,
  ok_none rfl,
  ok_none rfl,
  ok_none rfl,
  ok_none rfl,
  ok_none rfl,
  ok_none rfl,
  ok_none rfl,
  ok_none rfl,
  ok_none rfl,
  ok_none rfl,
  ok_none rfl,
  ok_none rfl,
  ok_none rfl,
  ok_none rfl,
  ok_none rfl,
  ok_none rfl,
  ok_none rfl,trivial⟩
theorem mixed:Try.prog.follows .mixedOrders=true:=by kernel_rfl
theorem hprog0:HProg Try.prog rn (DJ Try.prog rn) N0:=hprog_of all rfl
theorem less_given:PrimFn Try.prog 41 Try.f41 lessN:=less_prim hprog0 mixed (k:=8) (by kernel_rfl) (by kernel_rfl) less0_ok
theorem hprog:HProg Try.prog rn (DJ Try.prog rn) N:=hprog_with hprog0 Try.func41 less_given (by decide +kernel) (by decide)
end Camp.S
