/- Sorting in place by a function: order of two, medians, pivot, turning about, breaking patterns. Sorting in place by a function: how many bits, the next random number, breaking patterns, insertion. Sorting in place by a function: insertion, heaps. Sorting in place by a function: partitions. Sorting in place by a function: the partition, few steps of insertion. Sorting in place by a function: few steps of insertion. Sorting in place by a function: the whole. -/
import Derived.Test.YthmolhkfodhagaaLawC
import Derived.Test.YthmolhkfodhagaaLawB
import Derived.Test.YthmolhkfodhagaaUseB
set_option linter.unnecessarySimpa false
set_option linter.unusedVariables false
set_option linter.unusedSimpArgs false
set_option linter.unusedSectionVars false
namespace Camp
open Go
open Nat (reduceLT reduceEqDiff reduceAdd reduceLeDiff reduceSub reduceMul)
section
set_option maxHeartbeats 4000000
def CmpOkt (lt:Cel→Cel→Prop) (g d:Nat):Prop:=∀ (F:Nat) x y (h':Hp) (Q:AV→Hp→Prop),d≤F→(∀ v:Int,(v<0↔lt x y)→Q (.c (.int .i64 v)) h')→callW N F g [.agg (encE x),.agg (encE y)] h' Q
section
variable {lt:Cel→Cel→Prop} {g:Nat} {d F id tok:Nat} {rest:List (List CV)} {L:List Cel} {cap:Option Nat} {h:Hp} {P:AV→Hp→Prop}
theorem ord_okt {a b s:Nat} {c0:Int} (hc:CmpOkt lt g d) (hF:d+1≤F) (hA:Ar encE 5 h id tok rest L) (hs:h.g s=some (.rows true 1 0 0 [[.int .i64 c0]])) (ha:a<L.length) (hb:b<L.length)
 (hP:∀ h' (x y:Nat) c',(x=a∧y=b)∨(x=b∧y=a)→h'.g s=some (.rows true 1 0 0 [[.int .i64 c']])→Fm (fun j=>j=s) h h'→P (.tup [.c (.int .i64 x),.c (.int .i64 y)]) h') :
 callW N F 169 [.c (.sl id tok 0 L.length cap),.c (.int .i64 a),.c (.int .i64 b),.c (.ptr s 0 0 0),.c (.fn g [])] h P:=by
 obtain ⟨k,rfl⟩:∃ k,F=k+1:=⟨F-1,by omega⟩
 have henc:∀ x,(encE x).length=5:=fun _=>rfl
 have htk:∀ x,(encE x).take 5=encE x:=fun _=>rfl
 obtain ⟨x,hx⟩:=some_at ha
 obtain ⟨y,hy⟩:=some_at hb
 have i1:=hA.adr ha cap
 have i2:=hA.adr hb cap
 have r1:=hA.row hx
 have r2:=hA.row hy
 skip
 refine call_intro rfl (by simp only [List.length_cons,List.length_nil];omega) ?_
 simp -implicitDefEqProofs only [KK,eq_self,↓reduceIte,reduceLT,reduceEqDiff,reduceAdd,reduceCtorEq,i1,i2,r1,r2,henc,htk]
 refine hc k y x _ _ (by omega) fun v hv=>?_
 by_cases c:lt y x
 ·have cv:=hv.mpr c
  simp -implicitDefEqProofs only [KK,eq_self,↓reduceIte,reduceLT,reduceEqDiff,reduceCtorEq,cv,hs]
  refine hP _ b a (IntKind.wrap .i64 (c0+1)) (.inr ⟨rfl,rfl⟩) ?_ (Fm.put _ _ rfl)
  rw [g_put_eq,hs];rfl
 ·have cv:¬v<0:=fun e=>c (hv.mp e)
  simp -implicitDefEqProofs only [KK,eq_self,↓reduceIte,reduceLT,reduceEqDiff,reduceCtorEq,cv]
  exact hP _ a b c0 (.inl ⟨rfl,rfl⟩) hs (Fm.refl _ _)
theorem med_okt {a b c s:Nat} {c0:Int} (hc:CmpOkt lt g d) (hF:d+2≤F) (hA:Ar encE 5 h id tok rest L) (hs:h.g s=some (.rows true 1 0 0 [[.int .i64 c0]])) (hid:id≠s) (ha:a<L.length) (hb:b<L.length) (hcc:c<L.length)
 (hP:∀ h' (m:Nat) c',m=a∨m=b∨m=c→h'.g s=some (.rows true 1 0 0 [[.int .i64 c']])→Fm (fun j=>j=s) h h'→P (.c (.int .i64 m)) h') :
 callW N F 168 [.c (.sl id tok 0 L.length cap),.c (.int .i64 a),.c (.int .i64 b),.c (.int .i64 c),.c (.ptr s 0 0 0),.c (.fn g [])] h P:=by
 obtain ⟨k,rfl⟩:∃ k,F=k+1:=⟨F-1,by omega⟩
 refine call_intro rfl (by simp only [List.length_cons,List.length_nil];omega) ?_
 simp -implicitDefEqProofs only [KK,eq_self,↓reduceIte,reduceLT,reduceEqDiff,reduceAdd,reduceCtorEq]
 refine ord_okt hc (by omega) hA hs ha hb fun h1 x1 y1 c1 e1 s1 f1=>?_
 simp -implicitDefEqProofs only [KK,eq_self,↓reduceIte,reduceLT,reduceEqDiff,reduceCtorEq]
 have A1:=hA.mono f1 hid
 refine ord_okt hc (by omega) A1 s1 (by omega) hcc fun h2 x2 y2 c2 e2 s2 f2=>?_
 simp -implicitDefEqProofs only [KK,eq_self,↓reduceIte,reduceLT,reduceEqDiff,reduceCtorEq]
 have A2:=A1.mono f2 hid
 refine ord_okt hc (by omega) A2 s2 (by omega) (by omega) fun h3 x3 y3 c3 e3 s3 f3=>?_
 simp -implicitDefEqProofs only [KK,eq_self,↓reduceIte,reduceLT,reduceEqDiff]
 exact hP h3 y3 c3 (by omega) s3 ((f1.trans f2).trans f3)
theorem madj_okt {a s:Nat} {c0:Int} (hc:CmpOkt lt g d) (hF:d+3≤F) (hA:Ar encE 5 h id tok rest L) (hs:h.g s=some (.rows true 1 0 0 [[.int .i64 c0]])) (hid:id≠s) (ha:1≤a) (hb:a+1<L.length) (hn:L.length≤255)
 (hP:∀ h' (m:Nat) c',a≤m+1→m≤a+1→h'.g s=some (.rows true 1 0 0 [[.int .i64 c']])→Fm (fun j=>j=s) h h'→P (.c (.int .i64 m)) h') :
 callW N F 167 [.c (.sl id tok 0 L.length cap),.c (.int .i64 a),.c (.ptr s 0 0 0),.c (.fn g [])] h P:=by
 obtain ⟨k,rfl⟩:∃ k,F=k+1:=⟨F-1,by omega⟩
 have w1:IntKind.wrap .i64 ((a:Int)-1)=((a-1:Nat):Int):=by rw [wrap_i64 (by omega)];omega
 have w2:IntKind.wrap .i64 ((a:Int)+1)=((a+1:Nat):Int):=by rw [wrap_i64 (by omega)];omega
 refine call_intro rfl (by simp only [List.length_cons,List.length_nil];omega) ?_
 simp -implicitDefEqProofs only [KK,eq_self,↓reduceIte,reduceLT,reduceEqDiff,reduceAdd,reduceCtorEq,w1,w2]
 refine med_okt hc (by omega) hA hs hid (by omega) (by omega) (by omega) fun h1 m c1 hm s1 f1=>?_
 simp -implicitDefEqProofs only [KK,eq_self,↓reduceIte,reduceLT]
 exact hP h1 m c1 (by omega) (by omega) s1 f1
theorem piv_okt {a b:Nat} (hc:CmpOkt lt g d) (hF:d+4≤F) (hA:Ar encE 5 h id tok rest L) (hab:a+13≤b) (hb:b≤L.length) (hn:L.length≤255)
 (hP:∀ h' (m:Nat) (hint:Int),a≤m→m<b→Fn h h'→P (.tup [.c (.int .i64 m),.c (.int .i64 hint)]) h') :
 callW N F 161 [.c (.sl id tok 0 L.length cap),.c (.int .i64 a),.c (.int .i64 b),.c (.fn g [])] h P:=by
 obtain ⟨k,rfl⟩:∃ k,F=k+1:=⟨F-1,by omega⟩
 obtain ⟨q,hq⟩:∃ q,q=(b-a) / 4:=⟨_,rfl⟩
 have w0:IntKind.wrap .i64 ((b:Int)-a)=((b-a:Nat):Int):=by rw [wrap_i64 (by omega)];omega
 have w1:IntKind.wrap .i64 (((b-a:Nat):Int).tdiv 4)=(q:Int):=by
  rw [Int.tdiv_eq_ediv_of_nonneg (by omega),wrap_i64 (by omega)];omega
 have m1:IntKind.wrap .i64 ((q:Int) * 1)=(q:Int):=by rw [wrap_i64 (by omega)];omega
 have m2:IntKind.wrap .i64 ((q:Int) * 2)=((q * 2:Nat):Int):=by rw [wrap_i64 (by omega)];omega
 have m3:IntKind.wrap .i64 ((q:Int) * 3)=((q * 3:Nat):Int):=by rw [wrap_i64 (by omega)];omega
 have p1:IntKind.wrap .i64 ((a:Int)+q)=((a+q:Nat):Int):=by rw [wrap_i64 (by omega)];omega
 have p2:IntKind.wrap .i64 ((a:Int)+((q * 2:Nat):Int))=((a+q * 2:Nat):Int):=by rw [wrap_i64 (by omega)];omega
 have p3:IntKind.wrap .i64 ((a:Int)+((q * 3:Nat):Int))=((a+q * 3:Nat):Int):=by rw [wrap_i64 (by omega)];omega
 have z4:¬((4:Int)=0):=by decide
 have c8:(8:Int)≤((b-a:Nat):Int):=by omega
 obtain ⟨h1,hh1⟩:∃ h1,h1=h.push (.rows true 1 0 0 [[.int .i64 0]]):=⟨_,rfl⟩
 have hs1:h1.g h.n=some (.rows true 1 0 0 [[.int .i64 0]]):=by rw [hh1,g_push_eq]
 have f1:Fn h h1:=by rw [hh1];exact Fm.push _ _ _
 have A1:=hA.mono f1 (fun e=>e)
 have hid:id≠h.n:=by have:=hA.lt;omega
 have hfold:=hh1.symm
 have fin:∀ h' (m:Nat) (c':Int),a≤m→m<b→h'.g h.n=some (.rows true 1 0 0 [[.int .i64 c']])→Fm (fun j=>j=h.n) h1 h'→Fn h h':=fun h' m c' _ _ _ f=>f1.fresh f (fun j e=>by omega)
 refine call_intro rfl (by simp only [List.length_cons,List.length_nil];omega) ?_
 by_cases c50:(50:Int)≤((b-a:Nat):Int)
 ·simp -implicitDefEqProofs only [KK,eq_self,↓reduceIte,reduceLT,reduceEqDiff,reduceAdd,reduceCtorEq,hfold,w0,w1,m1,m2,m3,p1,p2,p3,z4,c8,c50]
  refine madj_okt hc (by omega) A1 hs1 hid (by omega) (by omega) hn fun h2 i c2 i1 i2 s2 f2=>?_
  simp -implicitDefEqProofs only [KK,eq_self,↓reduceIte,reduceLT,reduceEqDiff,reduceCtorEq]
  have A2:=A1.mono f2 hid
  refine madj_okt hc (by omega) A2 s2 hid (by omega) (by omega) hn fun h3 j c3 j1 j2 s3 f3=>?_
  simp -implicitDefEqProofs only [KK,eq_self,↓reduceIte,reduceLT,reduceEqDiff,reduceCtorEq]
  have A3:=A2.mono f3 hid
  refine madj_okt hc (by omega) A3 s3 hid (by omega) (by omega) hn fun h4 l c4 l1 l2 s4 f4=>?_
  simp -implicitDefEqProofs only [KK,eq_self,↓reduceIte,reduceLT,reduceEqDiff,reduceCtorEq]
  have A4:=A3.mono f4 hid
  refine med_okt hc (by omega) A4 s4 hid (by omega) (by omega) (by omega) fun h5 m c5 hm s5 f5=>?_
  have ff:=fin h5 m c5 (by omega) (by omega) s5 (((f2.trans f3).trans f4).trans f5)
  by_cases e0:c5=0
  ·have e0':decide (c5=0)=true:=decide_eq_true e0
   simp -implicitDefEqProofs only [KK,eq_self,↓reduceIte,reduceLT,reduceEqDiff,reduceCtorEq,s5,e0']
   exact hP h5 m _ (by omega) (by omega) ff
  ·by_cases e1:c5=12
   ·have e1':decide (c5=12)=true:=decide_eq_true e1
    simp -implicitDefEqProofs only [KK,eq_self,↓reduceIte,reduceLT,reduceEqDiff,reduceCtorEq,s5,e0,e1']
    exact hP h5 m _ (by omega) (by omega) ff
   ·simp -implicitDefEqProofs only [KK,eq_self,↓reduceIte,reduceLT,reduceEqDiff,reduceCtorEq,s5,e0,e1]
    exact hP h5 m _ (by omega) (by omega) ff
 ·simp -implicitDefEqProofs only [KK,eq_self,↓reduceIte,reduceLT,reduceEqDiff,reduceAdd,reduceCtorEq,hfold,w0,w1,m1,m2,m3,p1,p2,p3,z4,c8,c50]
  refine med_okt hc (by omega) A1 hs1 hid (by omega) (by omega) (by omega) fun h5 m c5 hm s5 f5=>?_
  have ff:=fin h5 m c5 (by omega) (by omega) s5 f5
  by_cases e0:c5=0
  ·have e0':decide (c5=0)=true:=decide_eq_true e0
   simp -implicitDefEqProofs only [KK,eq_self,↓reduceIte,reduceLT,reduceEqDiff,reduceCtorEq,s5,e0']
   exact hP h5 m _ (by omega) (by omega) ff
  ·by_cases e1:c5=12
   ·have e1':decide (c5=12)=true:=decide_eq_true e1
    simp -implicitDefEqProofs only [KK,eq_self,↓reduceIte,reduceLT,reduceEqDiff,reduceCtorEq,s5,e0,e1']
    exact hP h5 m _ (by omega) (by omega) ff
   ·simp -implicitDefEqProofs only [KK,eq_self,↓reduceIte,reduceLT,reduceEqDiff,reduceCtorEq,s5,e0,e1]
    exact hP h5 m _ (by omega) (by omega) ff
def RevIt (h:Hp) (id tok:Nat) (rest:List (List CV)) (cap:Option Nat) (L:List Cel) (a b:Nat) (m:Nat) (s:St):Prop:=
 ∃ (i j:Nat) (T:List Cel) (h':Hp) (l:List (Nat × TV)) (lc:List (List CV)),s=ST 34 l lc h'∧a≤i∧i≤j+1∧j≤b∧m=j-i∧Sh a b L T∧Ar encE 5 h' id tok rest T∧Fm (fun j=>j=id) h h'∧
  lk l 0 = .v (.c (.sl id tok 0 L.length cap))∧lk l 8 = .v (.c (.int .i64 i))∧lk l 9 = .v (.c (.int .i64 ((j:Int)-1)))
theorem rev_okt {a b:Nat} (hF:1≤F) (hA:Ar encE 5 h id tok rest L) (hab:a≤b) (hb:b≤L.length) (hn:L.length≤255)
 (hP:∀ h' T,Sh a b L T→Ar encE 5 h' id tok rest T→Fm (fun j=>j=id) h h'→P (.tup []) h') :
 callW N F 162 [.c (.sl id tok 0 L.length cap),.c (.int .i64 a),.c (.int .i64 b),.c (.fn g [])] h P:=by
 obtain ⟨k,rfl⟩:∃ k,F=k+1:=⟨F-1,by omega⟩
 have henc:∀ x,(encE x).length=5:=fun _=>rfl
 have htk:∀ x,(encE x).take 5=encE x:=fun _=>rfl
 have w0:=wrap_i64 (n:=(b:Int)-1) (by omega)
 refine call_intro rfl (by simp only [List.length_cons,List.length_nil];omega) ?_
 simp -implicitDefEqProofs only [KK,eq_self,↓reduceIte,reduceLT,reduceEqDiff,reduceAdd,reduceCtorEq,w0]
 refine loop_rd (callW_mono N _) (RevIt h id tok rest cap L a b) (n:=b-a) ⟨a,b,L,h,_,_,rfl,by omega,by omega,by omega,by omega,Sh.refl _ _ _,hA,Fm.refl _ _,rfl,rfl,rfl⟩ ?_
 rintro m s ⟨i,j,T,h1,l,lc,rfl,hi,hij,hj,hm,hS,hA1,f1,e0,e8,e9⟩
 have hlen:=hS.len
 by_cases hlt:(i:Int)<(j:Int)-1
 ·obtain ⟨x,hx⟩:=some_at (L:=T) (i:=i) (by omega)
  obtain ⟨y,hy⟩:=some_at (L:=T) (i:=j-1) (by omega)
  have ej:(j:Int)-1=((j-1:Nat):Int):=by omega
  rw [ej] at e9 hlt
  have i1:=hA1.adr (n:=L.length) (m:=i) (by omega) cap
  have i2:=hA1.adr (n:=L.length) (m:=j-1) (by omega) cap
  have r1:=hA1.row hx
  have r2:=hA1.row hy
  obtain ⟨h2,h3,s1,s2,i3,A3,f3,_⟩:=hA1.swap henc hx hy
  have i4:=i3 L.length (j-1) cap (by omega)
  have w1:IntKind.wrap .i64 ((i:Int)+1)=((i+1:Nat):Int):=by rw [wrap_i64 (by omega)];omega
  have w2:IntKind.wrap .i64 (((j-1:Nat):Int)-1)=((j-1:Nat):Int)-1:=wrap_i64 (by omega)
  skip
  simp -implicitDefEqProofs only [KK,eq_self,↓reduceIte,reduceLT,reduceEqDiff,reduceCtorEq,e0,e8,e9,hlt,i1,i2,r1,r2,s1,s2,i4,w1,w2,henc,htk,rd_n]
  exact ⟨m-2,by omega,i+1,j-1,sw T i (j-1),h3,_,_,rfl,by omega,by omega,by omega,by omega,hS.trans (Sh.sw (by omega) (by omega) (by omega)),A3,f1.trans f3,rfl,rfl,rfl⟩
 ·simp -implicitDefEqProofs only [KK,eq_self,↓reduceIte,reduceLT,reduceEqDiff,reduceCtorEq,e0,e8,e9,hlt]
  exact hP h1 T hS hA1 f1
end
end
section
set_option maxHeartbeats 4000000
section
variable {k:Nat} {h:Hp} {P:AV→Hp→Prop}
end
section
variable {lt:Cel→Cel→Prop} {g:Nat} {d F id tok:Nat} {rest:List (List CV)} {L:List Cel} {cap:Option Nat} {h:Hp} {P:AV→Hp→Prop}
def BrkIt (h:Hp) (id tok:Nat) (rest:List (List CV)) (cap:Option Nat) (L:List Cel) (a b q M:Nat) (m:Nat) (s:St):Prop:=
 ∃ (i:Nat) (v:Int) (T:List Cel) (h':Hp) (l:List (Nat × TV)) (lc:List (List CV)),s=ST 67 l lc h'∧a≤i∧i≤a+q * 2+2∧m=a+q * 2+2-i∧Sh a b L T∧Ar encE 5 h' id tok rest T∧h'.g h.n=some (.rows true 1 0 0 [[.int .u64 v]])∧Fm (fun j=>j=id) h h'∧
  lk l 0 = .v (.c (.sl id tok 0 L.length cap))∧lk l 1 = .v (.c (.int .i64 a))∧lk l 8 = .v (.c (.int .i64 ((b-a:Nat):Int)))∧lk l 9 = .v (.c (.ptr h.n 0 0 0))∧lk l 10 = .v (.c (.int .u64 M))∧lk l 11 = .v (.c (.int .i64 i))
theorem brk_okt {a b:Nat} (hF:4≤F) (hA:Ar encE 5 h id tok rest L) (hab:a+13≤b) (hb:b≤L.length) (hn:L.length≤255)
 (hP:∀ h' T,Sh a b L T→Ar encE 5 h' id tok rest T→Fm (fun j=>j=id) h h'→P (.tup []) h') :
 callW N F 160 [.c (.sl id tok 0 L.length cap),.c (.int .i64 a),.c (.int .i64 b),.c (.fn g [])] h P:=by
 obtain ⟨k,rfl⟩:∃ k,F=k+4:=⟨F-4,by omega⟩
 have henc:∀ x,(encE x).length=5:=fun _=>rfl
 have htk:∀ x,(encE x).take 5=encE x:=fun _=>rfl
 obtain ⟨q,hq⟩:∃ q,q=(b-a) / 4:=⟨_,rfl⟩
 have w0:IntKind.wrap .i64 ((b:Int)-a)=((b-a:Nat):Int):=by rw [wrap_i64 (by omega)];omega
 have wu:=wrap_u64 (n:=((b-a:Nat):Int)) (by omega)
 have w1:IntKind.wrap .i64 (((b-a:Nat):Int).tdiv 4)=(q:Int):=by
  rw [Int.tdiv_eq_ediv_of_nonneg (by omega),wrap_i64 (by omega)];omega
 have m2:IntKind.wrap .i64 ((q:Int) * 2)=((q * 2:Nat):Int):=by rw [wrap_i64 (by omega)];omega
 have p2:IntKind.wrap .i64 ((a:Int)+((q * 2:Nat):Int))=((a+q * 2:Nat):Int):=by rw [wrap_i64 (by omega)];omega
 have p3:IntKind.wrap .i64 (((a+q * 2:Nat):Int)-1)=((a+q * 2-1:Nat):Int):=by rw [wrap_i64 (by omega)];omega
 have p4:IntKind.wrap .i64 (((a+q * 2:Nat):Int)+1)=((a+q * 2+1:Nat):Int):=by rw [wrap_i64 (by omega)];omega
 have z4:¬((4:Int)=0):=by decide
 have c8:(8:Int)≤((b-a:Nat):Int):=by omega
 obtain ⟨h0,hh0⟩:∃ h0,h0=h.push (.rows true 1 0 0 [[.int .u64 0]]):=⟨_,rfl⟩
 have hs0:h0.g h.n=some (.rows true 1 0 0 [[.int .u64 0]]):=by rw [hh0,g_push_eq]
 obtain ⟨h1,hh1⟩:∃ h1,h1=h0.put h.n (.rows true 1 0 0 [[.int .u64 ((b-a:Nat):Int)]]):=⟨_,rfl⟩
 have hs1:h1.g h.n=some (.rows true 1 0 0 [[.int .u64 ((b-a:Nat):Int)]]):=by rw [hh1,g_put_eq,hs0];rfl
 have f0:Fn h h0:=by rw [hh0];exact Fm.push _ _ _
 have f1:Fn h h1:=by rw [hh1];exact f0.putNew _ (Nat.le_refl _)
 have A1:=hA.mono f1 (fun e=>e)
 have hid:id≠h.n:=by have:=hA.lt;omega
 have e0:=hh0.symm
 have e1:=hh1.symm
 refine call_intro rfl (by simp only [List.length_cons,List.length_nil];omega) ?_
 simp -implicitDefEqProofs only [KK,eq_self,↓reduceIte,reduceLT,reduceEqDiff,reduceAdd,reduceCtorEq,w0,c8,wu,e0,hs0,e1]
 refine npow_ok (k:=k) (n:=b-a) (by omega) (by omega) fun M hM1 hM2=>?_
 simp -implicitDefEqProofs only [KK,eq_self,↓reduceIte,reduceLT,reduceEqDiff,reduceCtorEq,w1,m2,p2,p3,z4]
 clear e0 e1
 refine loop_rd (callW_mono N _) (BrkIt h id tok rest cap L a b q M) (n:=a+q * 2+2-(a+q * 2-1)) ⟨a+q * 2-1,_,L,h1,_,_,rfl,by omega,by omega,rfl,Sh.refl _ _ _,A1,hs1,f1.mono (fun _ _ e=>e.elim),rfl,rfl,rfl,rfl,rfl,rfl⟩ ?_
 rintro m s ⟨i,v,T,h2,l,lc,rfl,hi1,hi2,hm,hS,A2,hs2,f2,e0,e1,e8,e9,e10,e11⟩
 have hlen:=hS.len
 by_cases hle:(i:Int)≤((a+q * 2+1:Nat):Int)
 ·simp -implicitDefEqProofs only [KK,eq_self,↓reduceIte,reduceLT,reduceEqDiff,reduceCtorEq,e0,e1,e8,e9,e10,e11,hle,w1,m2,p2,p4,z4]
  refine next_ok (k:=k+2) hs2 fun h3 v3 hv3 hs3 f3=>?_
  have A3:=A2.mono f3 hid
  have wM:IntKind.wrap .u64 ((M:Int)-1)=((M-1:Nat):Int):=by rw [wrap_u64 (by omega)];omega
  obtain ⟨o,ho⟩:∃ o:Nat,o=(BitVec.ofInt IntKind.u64.bits v3 &&& BitVec.ofInt IntKind.u64.bits ((M-1:Nat):Int)).toNat:=⟨_,rfl⟩
  have ho2:o≤M-1:=by
   rw [ho,BitVec.toNat_and]
   refine Nat.le_trans Nat.and_le_right ?_
   simp [IntKind.bits]
   omega
  have wo:IntKind.wrap .u64 (o:Int)=(o:Int):=wrap_u64 (by omega)
  have wo2:IntKind.wrap .i64 (o:Int)=(o:Int):=wrap_i64 (by omega)
  have ho':=ho.symm
  have wi:IntKind.wrap .i64 ((i:Int)+1)=((i+1:Nat):Int):=by rw [wrap_i64 (by omega)];omega
  have put:∀ (o':Nat),o'<b-a→∃ h4 h5 x y,T[i]? = some x∧T[a+o']? = some y∧(∀ lc,storeO (h3.g id) h3 lc 5 id tok i 0 (encE y)=some ⟨.un,lc,h4⟩)∧(∀ lc,storeO (h4.g id) h4 lc 5 id tok (a+o') 0 (encE x)=some ⟨.un,lc,h5⟩)∧
   iaddrT h4 5 (.v (.c (.sl id tok 0 L.length cap))) ((a+o':Nat):Int)=some (.v (.c (.ptr id tok (a+o') 0)))∧Ar encE 5 h5 id tok rest (sw T i (a+o'))∧h5.g h.n=some (.rows true 1 0 0 [[.int .u64 v3]])∧Fm (fun j=>j=id) h h5:=by
   intro o' ho'
   obtain ⟨x,hx⟩:=some_at (L:=T) (i:=i) (by omega)
   obtain ⟨y,hy⟩:=some_at (L:=T) (i:=a+o') (by omega)
   obtain ⟨h4,h5,s1,s2,i3,A5,f5,_⟩:=A3.swap henc hx hy
   exact ⟨h4,h5,x,y,hx,hy,s1,s2,i3 _ _ _ (by omega),A5,f5.some hs3 (fun e=>hid e.symm),(f2.comp f3 (fun j h1 h2=>by omega)).trans f5⟩
  by_cases hge:((b-a:Nat):Int)≤(o:Int)
  ·have hs':(o:Int)-((b-a:Nat):Int)=((o-(b-a):Nat):Int):=by omega
   have ws:IntKind.wrap .i64 ((o:Int)-((b-a:Nat):Int))=((o-(b-a):Nat):Int):=by rw [wrap_i64 (by omega)];omega
   have wa:IntKind.wrap .i64 ((a:Int)+((o-(b-a):Nat):Int))=((a+(o-(b-a)):Nat):Int):=by rw [wrap_i64 (by omega)];omega
   obtain ⟨h4,h5,x,y,hx,hy,s1,s2,i4,A5,hs5,f5⟩:=put (o-(b-a)) (by omega)
   have i1:=A3.adr (n:=L.length) (m:=i) (by omega) cap
   have i2:=A3.adr (n:=L.length) (m:=a+(o-(b-a))) (by omega) cap
   have r1:=A3.row hx
   have r2:=A3.row hy
   skip
   simp -implicitDefEqProofs only [KK,eq_self,↓reduceIte,reduceLT,reduceEqDiff,reduceCtorEq,wM,wo,ho',wo2,hge,ws,wa,i1,i2,r1,r2,s1,s2,i4,wi,henc,htk,rd_n]
   exact ⟨m-1,by omega,i+1,v3,_,h5,_,_,rfl,by omega,by omega,by omega,hS.trans (Sh.sw (by omega) (by omega) (by omega)),A5,hs5,f5,rfl,rfl,rfl,rfl,rfl,rfl⟩
  ·have wa:IntKind.wrap .i64 ((a:Int)+(o:Int))=((a+o:Nat):Int):=by rw [wrap_i64 (by omega)];omega
   obtain ⟨h4,h5,x,y,hx,hy,s1,s2,i4,A5,hs5,f5⟩:=put o (by omega)
   have i1:=A3.adr (n:=L.length) (m:=i) (by omega) cap
   have i2:=A3.adr (n:=L.length) (m:=a+o) (by omega) cap
   have r1:=A3.row hx
   have r2:=A3.row hy
   skip
   simp -implicitDefEqProofs only [KK,eq_self,↓reduceIte,reduceLT,reduceEqDiff,reduceCtorEq,wM,wo,ho',wo2,hge,wa,i1,i2,r1,r2,s1,s2,i4,wi,henc,htk,rd_n]
   exact ⟨m-1,by omega,i+1,v3,_,h5,_,_,rfl,by omega,by omega,by omega,hS.trans (Sh.sw (by omega) (by omega) (by omega)),A5,hs5,f5,rfl,rfl,rfl,rfl,rfl,rfl⟩
 ·simp -implicitDefEqProofs only [KK,eq_self,↓reduceIte,reduceLT,reduceEqDiff,reduceCtorEq,e0,e1,e8,e9,e10,e11,hle,w1,m2,p2,p4,z4]
  exact hP h2 T hS A2 f2
def Butt (lt:Cel→Cel→Prop) (T:List Cel) (a n j:Nat):Prop:=∀ p q,a≤p→p<q→q<n→q≠j→lex lt T p q
theorem Butt.step (o:SWO lt) {T:List Cel} {a n j:Nat} (h:Butt lt T a n j) (hj:a<j∧j<n) (hn:n≤T.length) {x y:Cel} (hx:T[j]? = some x) (hy:T[j-1]? = some y) (hl:lt x y):Butt lt (sw T j (j-1)) a n (j-1):=by
 have hsw:=fun k=>sw_get (L:=T) (i:=j) (j:=j-1) (by omega) (by omega) k
 intro p q h1 h2 h3 h4
 by_cases e1:q=j
 ·by_cases e2:p=j-1
  ·intro u w hu hw
   rw [hsw,if_neg (by omega),if_pos e2,hx] at hu
   rw [hsw,if_pos e1,hy] at hw
   obtain rfl:=Option.some.inj hu
   obtain rfl:=Option.some.inj hw
   exact o.asym hl
  ·exact (h p (j-1) h1 (by omega) (by omega) (by omega)).eq (by rw [hsw,if_neg (by omega),if_neg e2]) (by rw [hsw,if_pos e1])
 ·by_cases e2:p=j-1
  ·exact (h j q (by omega) (by omega) h3 (by omega)).eq (by rw [hsw,if_neg (by omega),if_pos e2]) (by rw [hsw,if_neg e1,if_neg h4])
  ·by_cases e3:p=j
   ·exact (h (j-1) q (by omega) (by omega) h3 e1).eq (by rw [hsw,if_pos e3]) (by rw [hsw,if_neg e1,if_neg h4])
   ·exact (h p q h1 h2 h3 e1).eq (by rw [hsw,if_neg e3,if_neg e2]) (by rw [hsw,if_neg e1,if_neg h4])
theorem Butt.done (o:SWO lt) {T:List Cel} {a n j:Nat} (h:Butt lt T a n j) (hn:n≤T.length) (hj:j<n) (hl:j≤a∨lex lt T (j-1) j):Srt lt T a n a a:=by
 intro p q h1 h2 h3
 right
 by_cases e:q=j
 ·subst e
  rcases hl with hl|hl
  ·omega
  ·by_cases e2:p=q-1
   ·rw [e2];exact hl
   ·exact (h p (q-1) h1 (by omega) (by omega) (by omega)).trans o hl (by omega)
 ·exact h p q h1 h2 h3 e
theorem Srt.butt {T:List Cel} {a n:Nat} (h:Srt lt T a n a a):Butt lt T a (n+1) n:=fun p q h1 h2 h3 h4=>(h p q h1 h2 (by omega)).resolve_left (by omega)
end
end
section
set_option maxHeartbeats 4000000
section
variable {lt:Cel→Cel→Prop} {g:Nat} {d F id tok:Nat} {rest:List (List CV)} {L:List Cel} {cap:Option Nat} {h:Hp} {P:AV→Hp→Prop}
def InPt (lt:Cel→Cel→Prop) (g:Nat) (h:Hp) (id tok:Nat) (rest:List (List CV)) (cap:Option Nat) (L:List Cel) (a b:Nat) (m:Nat) (s:St):Prop:=
 ∃ (i:Nat) (T:List Cel) (h':Hp) (l:List (Nat × TV)) (lc:List (List CV)),s=ST 53 l lc h'∧a+1≤i∧(i≤b∨i=a+1)∧m=b-i∧Sh a b L T∧Srt lt T a i a a∧Ar encE 5 h' id tok rest T∧Fm (fun j=>j=id) h h'∧
  lk l 0 = .v (.c (.sl id tok 0 L.length cap))∧lk l 1 = .v (.c (.int .i64 a))∧lk l 2 = .v (.c (.int .i64 b))∧lk l 3 = .v (.c (.fn g []))∧lk l 8 = .v (.c (.int .i64 i))
def InQt (lt:Cel→Cel→Prop) (g:Nat) (h:Hp) (id tok:Nat) (rest:List (List CV)) (cap:Option Nat) (L:List Cel) (a b i:Nat) (m:Nat) (s:St):Prop:=
 ∃ (j:Nat) (T:List Cel) (h':Hp) (l:List (Nat × TV)) (lc:List (List CV)),s=ST 53 l lc h'∧a≤j∧j≤i∧m=j∧Sh a b L T∧Butt lt T a (i+1) j∧Ar encE 5 h' id tok rest T∧Fm (fun j=>j=id) h h'∧
  lk l 0 = .v (.c (.sl id tok 0 L.length cap))∧lk l 1 = .v (.c (.int .i64 a))∧lk l 2 = .v (.c (.int .i64 b))∧lk l 3 = .v (.c (.fn g []))∧lk l 8 = .v (.c (.int .i64 i))∧lk l 9 = .v (.c (.int .i64 j))
def InOt (lt:Cel→Cel→Prop) (g:Nat) (h:Hp) (id tok:Nat) (rest:List (List CV)) (cap:Option Nat) (L:List Cel) (a b i:Nat) (s:St):Prop:=
 ∃ (T:List Cel) (h':Hp) (l:List (Nat × TV)) (lc:List (List CV)),s=ST 53 l lc h'∧Sh a b L T∧Srt lt T a (i+1) a a∧Ar encE 5 h' id tok rest T∧Fm (fun j=>j=id) h h'∧
  lk l 0 = .v (.c (.sl id tok 0 L.length cap))∧lk l 1 = .v (.c (.int .i64 a))∧lk l 2 = .v (.c (.int .i64 b))∧lk l 3 = .v (.c (.fn g []))∧lk l 8 = .v (.c (.int .i64 i))
theorem ins_okt {a b:Nat} (o:SWO lt) (hc:CmpOkt lt g d) (hF:d+1≤F) (hA:Ar encE 5 h id tok rest L) (hab:a≤b) (hb:b≤L.length) (hn:L.length≤255)
 (hP:∀ h' T,Sh a b L T→Srt lt T a b a a→Ar encE 5 h' id tok rest T→Fm (fun j=>j=id) h h'→P (.tup []) h') :
 callW N F 158 [.c (.sl id tok 0 L.length cap),.c (.int .i64 a),.c (.int .i64 b),.c (.fn g [])] h P:=by
 obtain ⟨k,rfl⟩:∃ k,F=k+1:=⟨F-1,by omega⟩
 have henc:∀ x,(encE x).length=5:=fun _=>rfl
 have htk:∀ x,(encE x).take 5=encE x:=fun _=>rfl
 have w0:IntKind.wrap .i64 ((a:Int)+1)=((a+1:Nat):Int):=by rw [wrap_i64 (by omega)];omega
 refine call_intro rfl (by simp only [List.length_cons,List.length_nil];omega) ?_
 simp -implicitDefEqProofs only [KK,eq_self,↓reduceIte,reduceLT,reduceEqDiff,reduceAdd,reduceCtorEq,w0]
 refine loop_rd (callW_mono N _) (InPt lt g h id tok rest cap L a b) (n:=b-(a+1)) ⟨a+1,L,h,_,_,rfl,by omega,by omega,rfl,Sh.refl _ _ _,fun i j h1 h2 h3=>by omega,hA,Fm.refl _ _,rfl,rfl,rfl,rfl,rfl⟩ ?_
 rintro m s ⟨i,T,h1,l,lc,rfl,hi1,hi2,hm,hS,hO,hA1,f1,e0,e1,e2,e3,e8⟩
 by_cases hlt:(i:Int)<(b:Int)
 rotate_left
 ·simp -implicitDefEqProofs only [KK,eq_self,↓reduceIte,reduceLT,reduceEqDiff,reduceCtorEq,e0,e1,e2,e3,e8,hlt]
  refine hP h1 T hS ?_ hA1 f1
  intro p q h1 h2 h3
  exact hO p q h1 h2 (by omega)
 have wi:IntKind.wrap .i64 ((i:Int)+1)=((i+1:Nat):Int):=by rw [wrap_i64 (by omega)];omega
 simp -implicitDefEqProofs only [KK,eq_self,↓reduceIte,reduceLT,reduceEqDiff,reduceCtorEq,e0,e1,e2,e3,e8,hlt]
 refine loop_out (callW_mono N _) (InQt lt g h id tok rest cap L a b i) (InOt lt g h id tok rest cap L a b i) 2 (n:=i) ⟨i,T,h1,_,_,rfl,by omega,by omega,rfl,hS,hO.butt,hA1,f1,rfl,rfl,rfl,rfl,rfl,rfl⟩ ?_ ?_
 ·clear e0 e1 e2 e3 e8 hO hA1 f1 hS
  rintro m2 s ⟨j,T,h1,l,lc,rfl,hj1,hj2,hm2,hS,hO,hA1,f1,e0,e1,e2,e3,e8,e9⟩
  have hlen:=hS.len
  by_cases hja:(a:Int)<(j:Int)
  ·obtain ⟨x,hx⟩:=some_at (L:=T) (i:=j) (by omega)
   obtain ⟨y,hy⟩:=some_at (L:=T) (i:=j-1) (by omega)
   have wj:IntKind.wrap .i64 ((j:Int)-1)=((j-1:Nat):Int):=by rw [wrap_i64 (by omega)];omega
   have i1:=hA1.adr (n:=L.length) (m:=j) (by omega) cap
   have i2:=hA1.adr (n:=L.length) (m:=j-1) (by omega) cap
   have r1:=hA1.row hx
   have r2:=hA1.row hy
   obtain ⟨h2,h3,s1,s2,i3,A3,f3,_⟩:=hA1.swap henc hx hy
   have i4:=i3 L.length (j-1) cap (by omega)
   skip
   simp -implicitDefEqProofs only [KK,eq_self,↓reduceIte,reduceLT,reduceEqDiff,reduceCtorEq,e0,e1,e2,e3,e8,e9,hja,wj,i1,i2,r1,r2,henc,htk]
   refine hc k x y _ _ (by omega) fun v hv=>?_
   by_cases c:lt x y
   ·have cv:=hv.mpr c
    simp -implicitDefEqProofs only [KK,eq_self,↓reduceIte,reduceLT,reduceEqDiff,reduceCtorEq,cv,wj,i1,i2,r1,r2,s1,s2,i4,henc,htk,rdo_n]
    exact ⟨m2-1,by omega,j-1,_,h3,_,_,rfl,by omega,by omega,by omega,hS.trans (Sh.sw (by omega) (by omega) (by omega)),hO.step o (by omega) (by omega) hx hy c,A3,f1.trans f3,rfl,rfl,rfl,rfl,rfl,rfl⟩
   ·have cv:¬v<0:=fun e=>c (hv.mp e)
    simp -implicitDefEqProofs only [KK,eq_self,↓reduceIte,reduceLT,reduceEqDiff,reduceCtorEq,cv,rdo_e]
    exact ⟨T,h1,_,_,rfl,hS,hO.done o (by omega) (by omega) (.inr fun u w hu hw=>by rw [hy] at hu;rw [hx] at hw;obtain rfl:=Option.some.inj hu;obtain rfl:=Option.some.inj hw;exact c),hA1,f1,rfl,rfl,rfl,rfl,rfl⟩
  ·simp -implicitDefEqProofs only [KK,eq_self,↓reduceIte,reduceLT,reduceEqDiff,reduceCtorEq,e0,e1,e2,e3,e8,e9,hja,rdo_e]
   exact ⟨T,h1,_,_,rfl,hS,hO.done o (by omega) (by omega) (.inl (by omega)),hA1,f1,rfl,rfl,rfl,rfl,rfl⟩
 ·clear e0 e1 e2 e3 e8 hO hA1 f1 hS
  rintro s ⟨T,h1,l,lc,rfl,hS,hO,hA1,f1,e0,e1,e2,e3,e8⟩
  simp -implicitDefEqProofs only [KK,eq_self,↓reduceIte,reduceLT,reduceEqDiff,reduceCtorEq,e0,e1,e2,e3,e8,wi,rd_n]
  exact ⟨m-1,by omega,i+1,T,h1,_,_,rfl,by omega,by omega,by omega,hS,hO,hA1,f1,rfl,rfl,rfl,rfl,rfl⟩
def Heat (lt:Cel→Cel→Prop) (T:List Cel) (f lo hi:Nat):Prop:=∀ i c,lo≤i→(c=2 * i+1∨c=2 * i+2)→c<hi→lex lt T (f+c) (f+i)
structure Hea1t (lt:Cel→Cel→Prop) (T:List Cel) (f lo hi r:Nat):Prop where
 but:∀ i c,lo≤i→i≠r→(c=2 * i+1∨c=2 * i+2)→c<hi→lex lt T (f+c) (f+i)
 gr:∀ p c,lo≤p→(r=2 * p+1∨r=2 * p+2)→(c=2 * r+1∨c=2 * r+2)→c<hi→lex lt T (f+c) (f+p)
theorem Hea1t.step (o:SWO lt) {T:List Cel} {f lo hi r c:Nat} (h:Hea1t lt T f lo hi r) (hr:lo≤r) (hc:c=2 * r+1∨c=2 * r+2) (hch:c<hi) (hn:f+hi≤T.length) {x y:Cel} (hx:T[f+r]? = some x) (hy:T[f+c]? = some y) (hl:lt x y)
 (hm:∀ q,(q=2 * r+1∨q=2 * r+2)→q<hi→lex lt T (f+q) (f+c)):Hea1t lt (sw T (f+r) (f+c)) f lo hi c:=by
 have hsw:=fun k=>sw_get (L:=T) (i:=f+r) (j:=f+c) (by omega) (by omega) k
 constructor
 ·intro i q h1 h2 h3 h4
  by_cases e1:i=r
  ·subst e1
   by_cases e2:q=c
   ·subst e2
    intro u w hu hw
    rw [hsw,if_neg (by omega),if_pos rfl,hx] at hu
    rw [hsw,if_pos rfl,hy] at hw
    obtain rfl:=Option.some.inj hu
    obtain rfl:=Option.some.inj hw
    exact o.asym hl
   ·exact (hm q h3 h4).eq (by rw [hsw,if_neg (by omega),if_neg (by omega)]) (by rw [hsw,if_pos rfl])
  ·by_cases e2:q=r
   ·subst e2
    exact (h.gr i c h1 h3 hc hch).eq (by rw [hsw,if_pos rfl]) (by rw [hsw,if_neg (by omega),if_neg (by omega)])
   ·exact (h.but i q h1 e1 h3 h4).eq (by rw [hsw,if_neg (by omega),if_neg (by omega)]) (by rw [hsw,if_neg (by omega),if_neg (by omega)])
 ·intro p q h1 h2 h3 h4
  have hp:p=r:=by omega
  subst hp
  exact (h.but c q (by omega) (by omega) h3 h4).eq (by rw [hsw,if_neg (by omega),if_neg (by omega)]) (by rw [hsw,if_pos rfl])
theorem Hea1t.done (o:SWO lt) {T:List Cel} {f lo hi r:Nat} (h:Hea1t lt T f lo hi r) (hm:∀ q,(q=2 * r+1∨q=2 * r+2)→q<hi→lex lt T (f+q) (f+r)):Heat lt T f lo hi:=by
 intro i c h1 h2 h3
 by_cases e:i=r
 ·subst e;exact hm c h2 h3
 ·exact h.but i c h1 e h2 h3
theorem Heat.max (o:SWO lt) {T:List Cel} {f hi:Nat} (h:Heat lt T f 0 hi) (hn:f+hi≤T.length):∀ c,c<hi→lex lt T (f+c) (f+0):=by
 intro c
 induction c using Nat.strongRecOn with
 | ind c ih=>
  intro hc
  by_cases e:c=0
  ·subst e;exact lex.refl o _ _
  ·have h1:=h ((c-1) / 2) c (by omega) (by omega) hc
   exact h1.trans o (ih ((c-1) / 2) (by omega) (by omega)) (by omega)
def SiftIt (lt:Cel→Cel→Prop) (g:Nat) (h:Hp) (id tok:Nat) (rest:List (List CV)) (cap:Option Nat) (L:List Cel) (lo hi f:Nat) (m:Nat) (s:St):Prop:=
 ∃ (r:Nat) (T:List Cel) (h':Hp) (l:List (Nat × TV)) (lc:List (List CV)),s=ST 82 l lc h'∧lo≤r∧r≤255∧m=256-r∧Sh f (f+hi) L T∧Hea1t lt T f lo hi r∧Ar encE 5 h' id tok rest T∧Fm (fun j=>j=id) h h'∧
  lk l 0 = .v (.c (.sl id tok 0 L.length cap))∧lk l 2 = .v (.c (.int .i64 hi))∧lk l 3 = .v (.c (.int .i64 f))∧lk l 4 = .v (.c (.fn g []))∧lk l 10 = .v (.c (.int .i64 r))
theorem sift_okt {lo hi f:Nat} (o:SWO lt) (hc:CmpOkt lt g d) (hF:d+1≤F) (hA:Ar encE 5 h id tok rest L) (hlo:lo≤255) (hb:f+hi≤L.length) (hn:L.length≤255)
 (hH:∀ i c,lo<i→(c=2 * i+1∨c=2 * i+2)→c<hi→lex lt L (f+c) (f+i))
 (hP:∀ h' T,Sh f (f+hi) L T→Heat lt T f lo hi→Ar encE 5 h' id tok rest T→Fm (fun j=>j=id) h h'→P (.tup []) h') :
 callW N F 166 [.c (.sl id tok 0 L.length cap),.c (.int .i64 lo),.c (.int .i64 hi),.c (.int .i64 f),.c (.fn g [])] h P:=by
 obtain ⟨k,rfl⟩:∃ k,F=k+1:=⟨F-1,by omega⟩
 have henc:∀ x,(encE x).length=5:=fun _=>rfl
 have htk:∀ x,(encE x).take 5=encE x:=fun _=>rfl
 refine call_intro rfl (by simp only [List.length_cons,List.length_nil];omega) ?_
 simp -implicitDefEqProofs only [KK,eq_self,↓reduceIte,reduceLT,reduceEqDiff,reduceAdd,reduceCtorEq]
 refine loop_rd (callW_mono N _) (SiftIt lt g h id tok rest cap L lo hi f) (n:=256-lo) ⟨lo,L,h,_,_,rfl,by omega,by omega,rfl,Sh.refl _ _ _,⟨fun i c h1 h2=>hH i c (by omega),fun p c h1 h2=>by omega⟩,hA,Fm.refl _ _,rfl,rfl,rfl,rfl,rfl⟩ ?_
 rintro m s ⟨r,T,h1,l,lc,rfl,hr,hr2,hm,hS,hO,hA1,f1,e0,e2,e3,e4,e10⟩
 have hlen:=hS.len
 have w1:IntKind.wrap .i64 (2 * (r:Int))=((2 * r:Nat):Int):=by rw [wrap_i64 (by omega)];omega
 have w2:IntKind.wrap .i64 (((2 * r:Nat):Int)+1)=((2 * r+1:Nat):Int):=by rw [wrap_i64 (by omega)];omega
 by_cases hlt:(hi:Int)≤((2 * r+1:Nat):Int)
 ·simp -implicitDefEqProofs only [KK,eq_self,↓reduceIte,reduceLT,reduceEqDiff,reduceCtorEq,e0,e2,e3,e4,e10,w1,w2,hlt]
  exact hP h1 T hS (hO.done o fun q h1 h2=>by omega) hA1 f1
 have w3:IntKind.wrap .i64 (((2 * r+1:Nat):Int)+1)=((2 * r+2:Nat):Int):=by rw [wrap_i64 (by omega)];omega
 have w4:IntKind.wrap .i64 ((f:Int)+((2 * r+1:Nat):Int))=((f+(2 * r+1):Nat):Int):=by rw [wrap_i64 (by omega)];omega
 have w5:IntKind.wrap .i64 (((f+(2 * r+1):Nat):Int)+1)=((f+(2 * r+2):Nat):Int):=by rw [wrap_i64 (by omega)];omega
 have w6:IntKind.wrap .i64 ((f:Int)+((2 * r+2:Nat):Int))=((f+(2 * r+2):Nat):Int):=by rw [wrap_i64 (by omega)];omega
 have w7:IntKind.wrap .i64 ((f:Int)+(r:Int))=((f+r:Nat):Int):=by rw [wrap_i64 (by omega)];omega
 obtain ⟨x,hx⟩:=some_at (L:=T) (i:=f+r) (by omega)
 obtain ⟨y,hy⟩:=some_at (L:=T) (i:=f+(2 * r+1)) (by omega)
 have ix:=hA1.adr (n:=L.length) (m:=f+r) (by omega) cap
 have iy:=hA1.adr (n:=L.length) (m:=f+(2 * r+1)) (by omega) cap
 have rx:=hA1.row hx
 have ry:=hA1.row hy
 skip
 have fact:∃ (ch:Nat) (z:Cel),(ch=2 * r+1∨ch=2 * r+2)→True:=⟨0,x,fun _=>trivial⟩
 by_cases c1:((2 * r+2:Nat):Int)<(hi:Int)
 case' neg=>
  obtain ⟨ch,hch⟩:∃ ch,ch=2 * r+1:=⟨_,rfl⟩
  have hch':=hch.symm
  have hmx:∀ q,(q=2 * r+1∨q=2 * r+2)→q<hi→lex lt T (f+q) (f+ch):=fun q h1 h2=>by
   have:q=ch:=by omega
   subst this
   exact lex.refl o _ _
  have hin:(ch=2 * r+1∨ch=2 * r+2)∧ch<hi:=by omega
  obtain ⟨z,hz⟩:=some_at (L:=T) (i:=f+ch) (by omega)
  have iz:=hA1.adr (n:=L.length) (m:=f+ch) (by omega) cap
  have rz:=hA1.row hz
  have wz:IntKind.wrap .i64 ((f:Int)+(ch:Int))=((f+ch:Nat):Int):=by rw [wrap_i64 (by omega)];omega
  skip
  have hlt':=hlt
  have w3':=w3
  rw [hch'] at hlt' w3'
  simp -implicitDefEqProofs only [KK,eq_self,↓reduceIte,reduceLT,reduceEqDiff,reduceCtorEq,e0,e2,e3,e4,e10,w1,w2,w3',hlt',c1,hch',wz,w7,ix,iz,rx,rz,henc,htk]
 case' pos=>
  obtain ⟨y2,hy2⟩:=some_at (L:=T) (i:=f+(2 * r+2)) (by omega)
  have iy2:=hA1.adr (n:=L.length) (m:=f+(2 * r+2)) (by omega) cap
  have ry2:=hA1.row hy2
  skip
  simp -implicitDefEqProofs only [KK,eq_self,↓reduceIte,reduceLT,reduceEqDiff,reduceCtorEq,e0,e2,e3,e4,e10,w1,w2,w3,hlt,c1,w4,w5,iy,iy2,ry,ry2,henc,htk]
  refine hc k y y2 _ _ (by omega) fun v hv=>?_
  by_cases c:lt y y2
  case' pos=>
   have cv:=hv.mpr c
   obtain ⟨ch,hch⟩:∃ ch,ch=2 * r+2:=⟨_,rfl⟩
   have hmx:∀ q,(q=2 * r+1∨q=2 * r+2)→q<hi→lex lt T (f+q) (f+ch):=fun q h1 h2=>by
    subst hch
    rcases h1 with rfl|rfl
    ·intro u w hu hw
     rw [hy] at hu
     rw [hy2] at hw
     obtain rfl:=Option.some.inj hu
     obtain rfl:=Option.some.inj hw
     exact o.asym c
    ·exact lex.refl o _ _
  case' neg=>
   have cv:¬v<0:=fun e=>c (hv.mp e)
   obtain ⟨ch,hch⟩:∃ ch,ch=2 * r+1:=⟨_,rfl⟩
   have hmx:∀ q,(q=2 * r+1∨q=2 * r+2)→q<hi→lex lt T (f+q) (f+ch):=fun q h1 h2=>by
    subst hch
    rcases h1 with rfl|rfl
    ·exact lex.refl o _ _
    ·intro u w hu hw
     rw [hy2] at hu
     rw [hy] at hw
     obtain rfl:=Option.some.inj hu
     obtain rfl:=Option.some.inj hw
     exact c
  all_goals
   have hch':=hch.symm
   have hin:(ch=2 * r+1∨ch=2 * r+2)∧ch<hi:=by omega
   obtain ⟨z,hz⟩:=some_at (L:=T) (i:=f+ch) (by omega)
   have iz:=hA1.adr (n:=L.length) (m:=f+ch) (by omega) cap
   have rz:=hA1.row hz
   have wz:IntKind.wrap .i64 ((f:Int)+(ch:Int))=((f+ch:Nat):Int):=by rw [wrap_i64 (by omega)];omega
   skip
   clear c hv
   simp -implicitDefEqProofs only [KK,eq_self,↓reduceIte,reduceLT,reduceEqDiff,reduceCtorEq,cv,w3,hch',wz,w7,ix,iz,rx,rz,henc,htk]
   clear cv v
 all_goals
  obtain ⟨h2,h3,s1,s2,i3,A3,f3,_⟩:=hA1.swap henc hx hz
  have i4:=i3 L.length (f+ch) cap (by omega)
  skip
  refine hc k x z _ _ (by omega) fun v hv=>?_
  by_cases c:lt x z
  ·have cv:=hv.mpr c
   simp -implicitDefEqProofs only [KK,eq_self,↓reduceIte,reduceLT,reduceEqDiff,reduceCtorEq,cv,wz,w7,ix,iz,rx,rz,s1,s2,i4,henc,htk,rd_n]
   exact ⟨256-ch,by omega,ch,_,h3,_,_,rfl,by omega,by omega,rfl,hS.trans (Sh.sw (by omega) (by omega) (by omega)),hO.step o hr hin.1 hin.2 (by omega) hx hz c hmx,A3,f1.trans f3,rfl,rfl,rfl,rfl,rfl⟩
  ·have cv:¬v<0:=fun e=>c (hv.mp e)
   simp -implicitDefEqProofs only [KK,eq_self,↓reduceIte,reduceLT,reduceEqDiff,reduceCtorEq,cv]
   refine hP h1 T hS (hO.done o fun q h1 h2=>(hmx q h1 h2).trans o ?_ (by omega)) hA1 f1
   intro u w hu hw
   rw [hz] at hu
   rw [hx] at hw
   obtain rfl:=Option.some.inj hu
   obtain rfl:=Option.some.inj hw
   exact c
def HeaIt (lt:Cel→Cel→Prop) (g:Nat) (h:Hp) (id tok:Nat) (rest:List (List CV)) (cap:Option Nat) (L:List Cel) (a n:Nat) (m:Nat) (s:St):Prop:=
 ∃ (i:Nat) (T:List Cel) (h':Hp) (l:List (Nat × TV)) (lc:List (List CV)),s=ST 60 l lc h'∧i≤n∧m=i∧Sh a (a+n) L T∧Heat lt T a i n∧Ar encE 5 h' id tok rest T∧Fm (fun j=>j=id) h h'∧
  lk l 0 = .v (.c (.sl id tok 0 L.length cap))∧lk l 3 = .v (.c (.fn g []))∧lk l 8 = .v (.c (.int .i64 a))∧lk l 9 = .v (.c (.int .i64 0))∧lk l 10 = .v (.c (.int .i64 n))∧lk l 11 = .v (.c (.int .i64 ((i:Int)-1)))
def HeaOt (lt:Cel→Cel→Prop) (g:Nat) (h:Hp) (id tok:Nat) (rest:List (List CV)) (cap:Option Nat) (L:List Cel) (a n:Nat) (m:Nat) (s:St):Prop:=
 ∃ (i:Nat) (T:List Cel) (h':Hp) (l:List (Nat × TV)) (lc:List (List CV)),s=ST 60 l lc h'∧i≤n∧m=i∧Sh a (a+n) L T∧Heat lt T a 0 i∧(∀ p q,p<q→i≤q→q<n→lex lt T (a+p) (a+q))∧Ar encE 5 h' id tok rest T∧Fm (fun j=>j=id) h h'∧
  lk l 0 = .v (.c (.sl id tok 0 L.length cap))∧lk l 3 = .v (.c (.fn g []))∧lk l 8 = .v (.c (.int .i64 a))∧lk l 9 = .v (.c (.int .i64 0))∧lk l 12 = .v (.c (.int .i64 ((i:Int)-1)))
theorem heap_okt {a b:Nat} (o:SWO lt) (hc:CmpOkt lt g d) (hF:d+2≤F) (hA:Ar encE 5 h id tok rest L) (hab:a+13≤b) (hb:b≤L.length) (hn:L.length≤255)
 (hP:∀ h' T,Sh a b L T→Srt lt T a b a a→Ar encE 5 h' id tok rest T→Fm (fun j=>j=id) h h'→P (.tup []) h') :
 callW N F 159 [.c (.sl id tok 0 L.length cap),.c (.int .i64 a),.c (.int .i64 b),.c (.fn g [])] h P:=by
 obtain ⟨k,rfl⟩:∃ k,F=k+1:=⟨F-1,by omega⟩
 have henc:∀ x,(encE x).length=5:=fun _=>rfl
 have htk:∀ x,(encE x).take 5=encE x:=fun _=>rfl
 obtain ⟨n,rfl⟩:∃ n,b=a+n:=⟨b-a,by omega⟩
 have z2:¬((2:Int)=0):=by decide
 have w0:IntKind.wrap .i64 (((a+n:Nat):Int)-a)=(n:Int):=by rw [wrap_i64 (by omega)];omega
 have w1:IntKind.wrap .i64 ((n:Int)-1)=((n-1:Nat):Int):=by rw [wrap_i64 (by omega)];omega
 have w2:IntKind.wrap .i64 (((n-1:Nat):Int).tdiv 2)=(((n-1) / 2+1:Nat):Int)-1:=by
  rw [Int.tdiv_eq_ediv_of_nonneg (by omega),wrap_i64 (by omega)];omega
 refine call_intro rfl (by simp only [List.length_cons,List.length_nil];omega) ?_
 simp -implicitDefEqProofs only [KK,eq_self,↓reduceIte,reduceLT,reduceEqDiff,reduceAdd,reduceCtorEq,w0,w1,w2,z2]
 refine loop_rd (callW_mono N _) (HeaIt lt g h id tok rest cap L a n) (n:=(n-1) / 2+1) ⟨(n-1) / 2+1,L,h,_,_,rfl,by omega,rfl,Sh.refl _ _ _,fun i c h1 h2 h3=>by omega,hA,Fm.refl _ _,rfl,rfl,rfl,rfl,rfl,rfl⟩ ?_
 rintro m s ⟨i,T,h1,l,lc,rfl,hi,hm,hS,hO,hA1,f1,e0,e3,e8,e9,e10,e11⟩
 have hlen:=hS.len
 by_cases hlt:(0:Int)≤(i:Int)-1
 ·have ei:(i:Int)-1=((i-1:Nat):Int):=by omega
  rw [ei] at e11 hlt
  have wi:IntKind.wrap .i64 (((i-1:Nat):Int)-1)=((i-1:Nat):Int)-1:=wrap_i64 (by omega)
  simp -implicitDefEqProofs only [KK,eq_self,↓reduceIte,reduceLT,reduceEqDiff,reduceCtorEq,e0,e3,e8,e9,e10,e11,hlt]
  rw [←hlen]
  refine sift_okt (lo:=i-1) (hi:=n) (f:=a) o hc (by omega) hA1 (by omega) (by omega) (by omega) (fun i' c g1 g2 g3=>hO i' c (by omega) g2 g3) fun h2 T2 S2 H2 A2 f2=>?_
  rw [hlen]
  simp -implicitDefEqProofs only [KK,eq_self,↓reduceIte,reduceLT,reduceEqDiff,reduceCtorEq,wi,rd_n]
  exact ⟨i-1,by omega,i-1,T2,h2,_,_,rfl,by omega,rfl,hS.trans S2,H2,A2,f1.trans f2,rfl,rfl,rfl,rfl,rfl,rfl⟩
 have hi0:i=0:=by omega
 subst hi0
 have en:((n-1:Nat):Int)=(n:Int)-1:=by omega
 simp -implicitDefEqProofs only [KK,eq_self,↓reduceIte,reduceLT,reduceEqDiff,reduceCtorEq,e0,e3,e8,e9,e10,e11,hlt,w1]
 rw [en]
 clear e0 e3 e8 e9 e10 e11
 refine loop_rd (callW_mono N _) (HeaOt lt g h id tok rest cap L a n) (n:=n) ⟨n,T,h1,_,_,rfl,by omega,rfl,hS,hO,fun p q h1 h2 h3=>by omega,hA1,f1,rfl,rfl,rfl,rfl,rfl⟩ ?_
 clear hO hS hA1 f1 hlen
 rintro m s ⟨i,T,h1,l,lc,rfl,hi,hm,hS,hO,hT,hA1,f1,e0,e3,e8,e9,e12⟩
 have hlen:=hS.len
 by_cases hlt2:(0:Int)≤(i:Int)-1
 ·have ei:(i:Int)-1=((i-1:Nat):Int):=by omega
  rw [ei] at e12 hlt2
  obtain ⟨x,hx⟩:=some_at (L:=T) (i:=a) (by omega)
  obtain ⟨y,hy⟩:=some_at (L:=T) (i:=a+(i-1)) (by omega)
  have wi:IntKind.wrap .i64 (((i-1:Nat):Int)-1)=((i-1:Nat):Int)-1:=wrap_i64 (by omega)
  have wa:IntKind.wrap .i64 ((a:Int)+((i-1:Nat):Int))=((a+(i-1):Nat):Int):=by rw [wrap_i64 (by omega)];omega
  have i1:=hA1.adr (n:=L.length) (m:=a) (by omega) cap
  have i2:=hA1.adr (n:=L.length) (m:=a+(i-1)) (by omega) cap
  have r1:=hA1.row hx
  have r2:=hA1.row hy
  obtain ⟨h2,h3,s1,s2,i3,A3,f3,_⟩:=hA1.swap henc hx hy
  have i4:=i3 L.length (a+(i-1)) cap (by omega)
  skip
  have hsw:=fun k=>sw_get (L:=T) (i:=a) (j:=a+(i-1)) (by omega) (by omega) k
  have hS1:Sh a (a+i) T (sw T a (a+(i-1))):=Sh.sw (by omega) (by omega) (by omega)
  have hl1:=sw_len T a (a+(i-1))
  simp -implicitDefEqProofs only [KK,eq_self,↓reduceIte,reduceLT,reduceEqDiff,reduceCtorEq,e0,e3,e8,e9,e12,hlt2,wa,i1,i2,r1,r2,s1,s2,i4,henc,htk]
  rw [←hlen,←hl1]
  refine sift_okt (lo:=0) (hi:=i-1) (f:=a) o hc (by omega) A3 (by omega) (by omega) (by omega) (fun i' c g1 g2 g3=>(hO i' c (by omega) g2 (by omega)).eq (by rw [hsw,if_neg (by omega),if_neg (by omega)]) (by rw [hsw,if_neg (by omega),if_neg (by omega)])) fun h4 T4 S4 H4 A4 f4=>?_
  rw [hl1,hlen]
  simp -implicitDefEqProofs only [KK,eq_self,↓reduceIte,reduceLT,reduceEqDiff,reduceCtorEq,wi,rd_n]
  refine ⟨i-1,by omega,i-1,T4,h4,_,_,rfl,by omega,rfl,hS.trans ((hS1.trans (S4.mono (Nat.le_refl _) (by omega))).mono (Nat.le_refl _) (by omega)),H4,?_,A4,(f1.trans f3).trans f4,rfl,rfl,rfl,rfl,rfl⟩
  intro p q g1 g2 g3 u w hu hw
  rw [S4.out (a+q) (by omega),hsw] at hw
  by_cases eq1:q=i-1
  ·subst eq1
   have hw':T[a]? = some w:=by
    by_cases e:a+(i-1)=a
    ·rw [if_pos e,e] at hw;exact hw
    ·rw [if_neg e,if_pos rfl] at hw;exact hw
   obtain ⟨p',g4,g5,hu'⟩:=S4.mem (i:=a+p) (by omega) (by omega) hu
   obtain ⟨p2,g6,g7,hu2⟩:=hS1.mem (by omega) (by omega) hu'
   have:=hO.max o (by omega) (p2-a) (by omega)
   rw [show a+(p2-a)=p2 by omega] at this
   exact this u w hu2 hw'
  ·rw [if_neg (by omega),if_neg (by omega)] at hw
   by_cases ep:p<i
   ·have:∃ p2,a≤p2∧p2<a+i∧T[p2]? = some u:=by
     by_cases e:p<i-1
     ·obtain ⟨p',g4,g5,hu'⟩:=S4.mem (i:=a+p) (by omega) (by omega) hu
      exact hS1.mem (by omega) (by omega) hu'
     ·rw [S4.out (a+p) (by omega)] at hu
      exact hS1.mem (by omega) (by omega) hu
    obtain ⟨p2,g6,g7,hu2⟩:=this
    have:=hT (p2-a) q (by omega) (by omega) g3
    rw [show a+(p2-a)=p2 by omega] at this
    exact this u w hu2 hw
   ·rw [S4.out (a+p) (by omega),hsw,if_neg (by omega),if_neg (by omega)] at hu
    exact hT p q g1 (by omega) g3 u w hu hw
 ·have hi0:i=0:=by omega
  subst hi0
  simp -implicitDefEqProofs only [KK,eq_self,↓reduceIte,reduceLT,reduceEqDiff,reduceCtorEq,e0,e3,e8,e9,e12,hlt2]
  refine hP h1 T hS ?_ hA1 f1
  intro p q g1 g2 g3
  have:=hT (p-a) (q-a) (by omega) (by omega) (by omega)
  rw [show a+(p-a)=p by omega,show a+(q-a)=q by omega] at this
  exact .inr this
end
end
section
set_option maxHeartbeats 4000000
structure Prtt (T:List Cel) (a b i j:Nat) (p:Cel) (A:Cel→Prop):Prop where
 at_:T[a]? = some p
 h1:a+1≤i
 h2:i≤j
 h3:j≤b
 l:∀ k x,a+1≤k→k<i→T[k]? = some x→A x
 r:∀ k x,j≤k→k<b→T[k]? = some x→¬A x
section
variable {T:List Cel} {a b i j:Nat} {p:Cel} {A:Cel→Prop}
theorem Prtt.incI (k:Prtt T a b i j p A) {x:Cel} (hij:i<j) (hx:T[i]? = some x) (h:A x):Prtt T a b (i+1) j p A:=
 ⟨k.at_,by have:=k.h1;omega,by omega,k.h3,fun q y h1 h2 hy=>by
  by_cases e:q=i
  ·subst e
   rw [hx] at hy
   obtain rfl:=Option.some.inj hy
   exact h
  ·exact k.l q y h1 (by omega) hy,k.r⟩
theorem Prtt.decJ (k:Prtt T a b i j p A) {x:Cel} (hij:i<j) (hx:T[j-1]? = some x) (h:¬A x):Prtt T a b i (j-1) p A:=
 ⟨k.at_,k.h1,by omega,by have:=k.h3;omega,k.l,fun q y h1 h2 hy=>by
  by_cases e:q=j-1
  ·subst e
   rw [hx] at hy
   obtain rfl:=Option.some.inj hy
   exact h
  ·exact k.r q y (by omega) h2 hy⟩
theorem Prtt.swap (k:Prtt T a b i j p A) (hb:b≤T.length) {x y:Cel} (hij:i<j) (hx:T[i]? = some x) (hy:T[j-1]? = some y) (h1:¬A x) (h2:A y):i+1≤j-1∧Prtt (sw T i (j-1)) a b (i+1) (j-1) p A:=by
 have q1:=k.h1
 have q3:=k.h3
 have hne:i≠j-1:=by
  intro e
  rw [←e,hx] at hy
  obtain rfl:=Option.some.inj hy
  exact h1 h2
 have hsw:=fun k=>sw_get (L:=T) (i:=i) (j:=j-1) (by omega) (by omega) k
 refine ⟨by omega,⟨by rw [hsw,if_neg (by omega),if_neg (by omega)];exact k.at_,by omega,by omega,by omega,fun q z g1 g2 hz=>?_,fun q z g1 g2 hz=>?_⟩⟩
 ·rw [hsw] at hz
  by_cases e:q=i
  ·rw [if_pos e,hy] at hz
   obtain rfl:=Option.some.inj hz
   exact h2
  ·rw [if_neg e,if_neg (by omega)] at hz
   exact k.l q z g1 (by omega) hz
 ·rw [hsw] at hz
  by_cases e:q=j-1
  ·rw [if_neg (by omega),if_pos e,hx] at hz
   obtain rfl:=Option.some.inj hz
   exact h1
  ·rw [if_neg (by omega),if_neg e] at hz
   exact k.r q z (by omega) g2 hz
end
section
variable (nt ti tj g id tok:Nat) (cap:Option Nat) (L:List Cel) (a b:Nat) (T:List Cel) (h1:Hp) (p:Cel) (A:Cel→Prop)
def PaLt (i j:Nat) (l:List (Nat × TV)):Prop:=
 lk l 0 = .v (.c (.sl id tok 0 L.length cap))∧lk l 1 = .v (.c (.int .i64 a))∧lk l 4 = .v (.c (.fn g []))∧lk l ti = .v (.c (.int .i64 i))∧lk l tj = .v (.c (.int .i64 ((j:Int)-1)))
def PaI1t (ii j:Nat) (m:Nat) (s:St):Prop:=∃ (i:Nat) (l:List (Nat × TV)) (lc:List (List CV)),s=ST nt l lc h1∧ii≤i∧m=j-i∧Prtt T a b i j p A∧PaLt ti tj g id tok cap L a i j l
def PaO1t (ii j:Nat) (s:St):Prop:=∃ (i:Nat) (l:List (Nat × TV)) (lc:List (List CV)),s=ST nt l lc h1∧ii≤i∧Prtt T a b i j p A∧(i=j∨∃ x,T[i]? = some x∧¬A x)∧PaLt ti tj g id tok cap L a i j l
def PaI2t (jj i:Nat) (m:Nat) (s:St):Prop:=∃ (j:Nat) (l:List (Nat × TV)) (lc:List (List CV)),s=ST nt l lc h1∧j≤jj∧m=j-i∧Prtt T a b i j p A∧(i=j∨∃ x,T[i]? = some x∧¬A x)∧PaLt ti tj g id tok cap L a i j l
def PaO2t (jj i:Nat) (s:St):Prop:=∃ (j:Nat) (l:List (Nat × TV)) (lc:List (List CV)),s=ST nt l lc h1∧j≤jj∧Prtt T a b i j p A∧(i=j∨(i<j∧∃ y,T[j-1]? = some y∧A y∧∃ x,T[i]? = some x∧¬A x))∧PaLt ti tj g id tok cap L a i j l
def PaRt (lo hi:Nat) (rest:List (List CV)) (h:Hp) (E:Cel→List CV) (m:Nat) (s:St):Prop:=∃ (i j:Nat) (T:List Cel) (h1:Hp) (l:List (Nat × TV)) (lc:List (List CV)),s=ST nt l lc h1∧m=j-i∧Prtt T a b i j p A∧Sh lo hi L T∧Ar E 5 h1 id tok rest T∧Fm (fun j=>j=id) h h1∧PaLt ti tj g id tok cap L a i j l
end
section
variable {lt:Cel→Cel→Prop} {g:Nat} {d F id tok:Nat} {rest:List (List CV)} {L:List Cel} {cap:Option Nat} {h:Hp} {P:AV→Hp→Prop}
theorem peq_okt {a b pv:Nat} (o:SWO lt) (hc:CmpOkt lt g d) (hF:d+1≤F) (hA:Ar encE 5 h id tok rest L) (hab:a≤pv∧pv<b) (hb:b≤L.length) (hn:L.length≤255)
 (hP:∀ h' T p (m:Nat),Sh a b L T→L[pv]? = some p→a<m→m≤b→(∀ k x,a≤k→k<m→T[k]? = some x→¬lt p x)→(∀ k x,m≤k→k<b→T[k]? = some x→lt p x)→Ar encE 5 h' id tok rest T→Fm (fun j=>j=id) h h'→P (.c (.int .i64 m)) h') :
 callW N F 164 [.c (.sl id tok 0 L.length cap),.c (.int .i64 a),.c (.int .i64 b),.c (.int .i64 pv),.c (.fn g [])] h P:=by
 obtain ⟨k,rfl⟩:∃ k,F=k+1:=⟨F-1,by omega⟩
 have henc:∀ x,(encE x).length=5:=fun _=>rfl
 have htk:∀ x,(encE x).take 5=encE x:=fun _=>rfl
 obtain ⟨p0,hp0⟩:=some_at (L:=L) (i:=a) (by omega)
 obtain ⟨p,hp⟩:=some_at (L:=L) (i:=pv) (by omega)
 have i1:=hA.adr (n:=L.length) (m:=a) (by omega) cap
 have i2:=hA.adr (n:=L.length) (m:=pv) (by omega) cap
 have r1:=hA.row hp0
 have r2:=hA.row hp
 obtain ⟨h2,h3,s1,s2,i3,A3,f3,_⟩:=hA.swap henc hp0 hp
 have i4:=i3 L.length pv cap (by omega)
 skip
 have w1:IntKind.wrap .i64 ((a:Int)+1)=((a+1:Nat):Int):=by rw [wrap_i64 (by omega)];omega
 have w2:=wrap_i64 (n:=(b:Int)-1) (by omega)
 have hsw:=fun k=>sw_get (L:=L) (i:=a) (j:=pv) (by omega) (by omega) k
 have hS0:Sh a b L (sw L a pv):=Sh.sw (by omega) (by omega) hb
 refine call_intro rfl (by simp only [List.length_cons,List.length_nil];omega) ?_
 simp -implicitDefEqProofs only [KK,eq_self,↓reduceIte,reduceLT,reduceEqDiff,reduceAdd,reduceCtorEq,i1,i2,r1,r2,s1,s2,i4,w1,w2,henc,htk]
 refine loop_rd (callW_mono N _) (PaRt 90 11 12 g id tok cap L a b p (fun x=>¬lt p x) a b rest h encE) (n:=b-(a+1)) ⟨a+1,b,sw L a pv,h3,_,_,rfl,rfl,⟨by rw [hsw,if_pos rfl];exact hp,by omega,by omega,by omega,fun k x h1 h2=>by omega,fun k x h1 h2=>by omega⟩,hS0,A3,f3,rfl,rfl,rfl,rfl,rfl⟩ ?_
 clear i1 i2 r1 r2 s1 s2 i3 i4 A3 f3 hS0 hsw
 rintro m s ⟨i,j,T,h1,l,lc,rfl,hm,hPr,hS,hA1,f1,e0,e1,e4,ei,ej⟩
 have hlen:=hS.len
 simp -implicitDefEqProofs only [KK,eq_self,↓reduceIte,reduceLT,e0,e1,e4,ei,ej]
 obtain ⟨ii,hii⟩:∃ ii,ii=i:=⟨i,rfl⟩
 obtain ⟨jj,hjj⟩:∃ jj,jj=j:=⟨j,rfl⟩
 rw [←hii,←hjj] at hm
 refine loop_out (callW_mono N _) (PaI1t 90 11 12 g id tok cap L a b T h1 p (fun x=>¬lt p x) ii j) (PaO1t 90 11 12 g id tok cap L a b T h1 p (fun x=>¬lt p x) ii j) 2 (n:=j-i) ⟨i,_,_,rfl,by omega,rfl,hPr,rfl,rfl,rfl,rfl,rfl⟩ ?_ ?_
 ·clear e0 e1 e4 ei ej hPr
  rintro m2 s ⟨i,l,lc,rfl,hmn,hm2,hPr,e0,e1,e4,ei,ej⟩
  have q1:=hPr.h1
  have q2:=hPr.h2
  have q3:=hPr.h3
  by_cases c1:(i:Int)≤(j:Int)-1
  ·obtain ⟨x,hx⟩:=some_at (L:=T) (i:=i) (by omega)
   have ej':(j:Int)-1=((j-1:Nat):Int):=by omega
   rw [ej'] at ej c1
   have ix:=hA1.adr (n:=L.length) (m:=i) (by omega) cap
   have ia:=hA1.adr (n:=L.length) (m:=a) (by omega) cap
   have rx:=hA1.row hx
   have ra:=hA1.row hPr.at_
   skip
   have wi:IntKind.wrap .i64 ((i:Int)+1)=((i+1:Nat):Int):=by rw [wrap_i64 (by omega)];omega
   simp -implicitDefEqProofs only [KK,eq_self,↓reduceIte,reduceLT,reduceEqDiff,reduceCtorEq,e0,e1,e4,ei,ej,c1,ix,ia,rx,ra,henc,htk]
   refine hc k p x _ _ (by omega) fun v hv=>?_
   by_cases c:lt p x
   ·have cv:=hv.mpr c
    simp -implicitDefEqProofs only [KK,eq_self,↓reduceIte,reduceLT,reduceEqDiff,reduceCtorEq,cv,rdo_e]
    exact ⟨i,_,_,rfl,hmn,hPr,.inr ⟨x,hx,fun e=>e c⟩,rfl,rfl,rfl,rfl,by rw [ej'];rfl⟩
   ·have cv:¬v<0:=fun e=>c (hv.mp e)
    simp -implicitDefEqProofs only [KK,eq_self,↓reduceIte,reduceLT,reduceEqDiff,reduceCtorEq,cv,wi,rdo_n]
    exact ⟨m2-1,by omega,i+1,_,_,rfl,by omega,by omega,hPr.incI (by omega) hx c,rfl,rfl,rfl,rfl,by rw [ej'];rfl⟩
  ·simp -implicitDefEqProofs only [KK,eq_self,↓reduceIte,reduceLT,reduceEqDiff,reduceCtorEq,e0,e1,e4,ei,ej,c1,rdo_e]
   exact ⟨i,_,_,rfl,hmn,hPr,.inl (by omega),rfl,rfl,rfl,rfl,rfl⟩
 clear e0 e1 e4 ei ej hPr
 rintro s ⟨i,l,lc,rfl,hmn1,hPr,hst1,e0,e1,e4,ei,ej⟩
 have q1:=hPr.h1
 have q2:=hPr.h2
 have q3:=hPr.h3
 simp -implicitDefEqProofs only [KK,eq_self,↓reduceIte,reduceLT,e0,e1,e4,ei,ej]
 refine loop_out (callW_mono N _) (PaI2t 90 11 12 g id tok cap L a b T h1 p (fun x=>¬lt p x) jj i) (PaO2t 90 11 12 g id tok cap L a b T h1 p (fun x=>¬lt p x) jj i) 4 (n:=j-i) ⟨j,_,_,rfl,by omega,rfl,hPr,hst1,rfl,rfl,rfl,rfl,rfl⟩ ?_ ?_
 ·clear e0 e1 e4 ei ej hPr hst1
  rintro m2 s ⟨j,l,lc,rfl,hmn,hm2,hPr,hst1,e0,e1,e4,ei,ej⟩
  have q1:=hPr.h1
  have q2:=hPr.h2
  have q3:=hPr.h3
  by_cases c1:(i:Int)≤(j:Int)-1
  ·obtain ⟨x,hx⟩:=some_at (L:=T) (i:=j-1) (by omega)
   have ej':(j:Int)-1=((j-1:Nat):Int):=by omega
   rw [ej'] at ej c1
   have ix:=hA1.adr (n:=L.length) (m:=j-1) (by omega) cap
   have ia:=hA1.adr (n:=L.length) (m:=a) (by omega) cap
   have rx:=hA1.row hx
   have ra:=hA1.row hPr.at_
   skip
   have wj:IntKind.wrap .i64 (((j-1:Nat):Int)-1)=((j-1:Nat):Int)-1:=wrap_i64 (by omega)
   simp -implicitDefEqProofs only [KK,eq_self,↓reduceIte,reduceLT,reduceEqDiff,reduceCtorEq,e0,e1,e4,ei,ej,c1,ix,ia,rx,ra,henc,htk]
   refine hc k p x _ _ (by omega) fun v hv=>?_
   by_cases c:lt p x
   ·have cv:=hv.mpr c
    simp -implicitDefEqProofs only [KK,eq_self,↓reduceIte,reduceLT,reduceEqDiff,reduceCtorEq,cv,wj,rdo_n]
    exact ⟨m2-1,by omega,j-1,_,_,rfl,by omega,by omega,hPr.decJ (by omega) hx (fun e=>e c),hst1.imp (fun e=>by omega) (fun e=>e),rfl,rfl,rfl,rfl,rfl⟩
   ·have cv:¬v<0:=fun e=>c (hv.mp e)
    simp -implicitDefEqProofs only [KK,eq_self,↓reduceIte,reduceLT,reduceEqDiff,reduceCtorEq,cv,rdo_e]
    exact ⟨j,_,_,rfl,hmn,hPr,.inr ⟨by omega,x,hx,c,hst1.resolve_left (by omega)⟩,rfl,rfl,rfl,rfl,by rw [ej'];rfl⟩
  ·simp -implicitDefEqProofs only [KK,eq_self,↓reduceIte,reduceLT,reduceEqDiff,reduceCtorEq,e0,e1,e4,ei,ej,c1,rdo_e]
   exact ⟨j,_,_,rfl,hmn,hPr,.inl (by omega),rfl,rfl,rfl,rfl,rfl⟩
 clear e0 e1 e4 ei ej hPr hst1
 rintro s ⟨j,l,lc,rfl,hmn2,hPr,hst2,e0,e1,e4,ei,ej⟩
 have q1:=hPr.h1
 have q2:=hPr.h2
 have q3:=hPr.h3
 simp -implicitDefEqProofs only [KK,eq_self,↓reduceIte,reduceLT,reduceEqDiff,reduceCtorEq,e0,e1,e4,ei,ej]
 by_cases c2:(j:Int)-1<(i:Int)
 ·simp -implicitDefEqProofs only [KK,eq_self,↓reduceIte,reduceLT,reduceEqDiff,reduceCtorEq,c2]
  have hij:i=j:=by omega
  subst hij
  refine hP h1 T p i hS hp (by omega) q3 (fun k x g1 g2 hx=>?_) (fun k x g1 g2 hx=>Classical.byContradiction fun e=>hPr.r k x g1 g2 hx e) hA1 f1
  by_cases e:k=a
  ·subst e
   rw [hPr.at_] at hx
   obtain rfl:=Option.some.inj hx
   exact o.irr _
  ·exact hPr.l k x (by omega) g2 hx
 ·have hij:i<j:=by omega
  obtain ⟨_,y,hy,hAy,x,hx,hAx⟩:=hst2.resolve_left (by omega)
  have ej':(j:Int)-1=((j-1:Nat):Int):=by omega
  rw [ej'] at c2
  have i1:=hA1.adr (n:=L.length) (m:=i) (by omega) cap
  have i2:=hA1.adr (n:=L.length) (m:=j-1) (by omega) cap
  have r1:=hA1.row hx
  have r2:=hA1.row hy
  obtain ⟨h2,h3,s1,s2,i3,A3,f3,_⟩:=hA1.swap henc hx hy
  have i4:=i3 L.length (j-1) cap (by omega)
  skip
  have w1:IntKind.wrap .i64 ((i:Int)+1)=((i+1:Nat):Int):=by rw [wrap_i64 (by omega)];omega
  have w2:IntKind.wrap .i64 (((j-1:Nat):Int)-1)=((j-1:Nat):Int)-1:=wrap_i64 (by omega)
  obtain ⟨hlt,hPr'⟩:=hPr.swap (by omega) hij hx hy hAx hAy
  simp -implicitDefEqProofs only [KK,eq_self,↓reduceIte,reduceLT,reduceEqDiff,reduceCtorEq,ej',c2,i1,i2,r1,r2,s1,s2,i4,w1,w2,henc,htk,rd_n]
  exact ⟨(j-1)-(i+1),by omega,i+1,j-1,_,h3,_,_,rfl,rfl,hPr',hS.trans (Sh.sw (by omega) (by omega) (by omega)),A3,f1.trans f3,rfl,rfl,rfl,rfl,rfl⟩
end
end
section
set_option maxHeartbeats 4000000
structure Pft (lt:Cel→Cel→Prop) (T:List Cel) (mid a b:Nat) (p:Cel):Prop where
 at_:T[mid]? = some p
 l:∀ k x,a≤k→k<mid→T[k]? = some x→lt x p
 r:∀ k x,mid<k→k<b→T[k]? = some x→¬lt x p
theorem Prtt.fin {lt:Cel→Cel→Prop} {T:List Cel} {a b i:Nat} {p:Cel} (k:Prtt T a b i i p (fun x=>lt x p)) (hb:b≤T.length):Pft lt (sw T (i-1) a) (i-1) a b p:=by
 have q1:=k.h1
 have q3:=k.h3
 have hsw:=fun q=>sw_get (L:=T) (i:=i-1) (j:=a) (by omega) (lt_at k.at_) q
 refine ⟨by rw [hsw,if_pos rfl];exact k.at_,fun q x g1 g2 hx=>?_,fun q x g1 g2 hx=>?_⟩
 ·rw [hsw,if_neg (by omega)] at hx
  by_cases e:q=a
  ·rw [if_pos e] at hx
   exact k.l (i-1) x (by omega) (by omega) hx
  ·rw [if_neg e] at hx
   exact k.l q x (by omega) (by omega) hx
 ·rw [hsw,if_neg (by omega),if_neg (by omega)] at hx
  exact k.r q x (by omega) g2 hx
section
variable {lt:Cel→Cel→Prop} {g:Nat} {d F id tok:Nat} {rest:List (List CV)} {L:List Cel} {cap:Option Nat} {h:Hp} {P:AV→Hp→Prop}
theorem prtn_okt {a b pv:Nat} (hc:CmpOkt lt g d) (hF:d+1≤F) (hA:Ar encE 5 h id tok rest L) (hab:a≤pv∧pv<b) (hb:b≤L.length) (hn:L.length≤255)
 (hP:∀ h' T p (m:Nat) al,Sh a b L T→a≤m→m<b→Pft lt T m a b p→Ar encE 5 h' id tok rest T→Fm (fun j=>j=id) h h'→P (.tup [.c (.int .i64 m),.c (.bool al)]) h') :
 callW N F 165 [.c (.sl id tok 0 L.length cap),.c (.int .i64 a),.c (.int .i64 b),.c (.int .i64 pv),.c (.fn g [])] h P:=by
 obtain ⟨k,rfl⟩:∃ k,F=k+1:=⟨F-1,by omega⟩
 have henc:∀ x,(encE x).length=5:=fun _=>rfl
 have htk:∀ x,(encE x).take 5=encE x:=fun _=>rfl
 obtain ⟨p0,hp0⟩:=some_at (L:=L) (i:=a) (by omega)
 obtain ⟨p,hp⟩:=some_at (L:=L) (i:=pv) (by omega)
 have i1:=hA.adr (n:=L.length) (m:=a) (by omega) cap
 have i2:=hA.adr (n:=L.length) (m:=pv) (by omega) cap
 have r1:=hA.row hp0
 have r2:=hA.row hp
 obtain ⟨h2,h1,s1,s2,i3,hA1,f1,_⟩:=hA.swap henc hp0 hp
 have i4:=i3 L.length pv cap (by omega)
 skip
 have hsw:=fun k=>sw_get (L:=L) (i:=a) (j:=pv) (by omega) (by omega) k
 have hS:Sh a b L (sw L a pv):=Sh.sw (by omega) (by omega) hb
 obtain ⟨i,hi⟩:∃ i,i=a+1:=⟨_,rfl⟩
 obtain ⟨j,hj⟩:∃ j,j=b:=⟨_,rfl⟩
 have hPr:Prtt (sw L a pv) a b i j p (fun x=>lt x p):=⟨by rw [hsw,if_pos rfl];exact hp,by omega,by omega,by omega,fun k x h1 h2=>by omega,fun k x h1 h2=>by omega⟩
 have hlen:=hS.len
 generalize sw L a pv=T at hA1 hS hPr hlen
 have w1:IntKind.wrap .i64 ((a:Int)+1)=(i:Int):=by rw [wrap_i64 (by omega)];omega
 have w2:IntKind.wrap .i64 ((b:Int)-1)=(j:Int)-1:=by rw [wrap_i64 (by omega)];omega
 refine call_intro rfl (by simp only [List.length_cons,List.length_nil];omega) ?_
 simp -implicitDefEqProofs only [KK,eq_self,↓reduceIte,reduceLT,reduceEqDiff,reduceAdd,reduceCtorEq,i1,i2,r1,r2,s1,s2,i4,w1,w2,henc,htk]
 clear i1 i2 r1 r2 s1 s2 i3 i4 hsw w1 w2 hi hj
 obtain ⟨ii,hii⟩:∃ ii,ii=i:=⟨i,rfl⟩
 obtain ⟨jj,hjj⟩:∃ jj,jj=j:=⟨j,rfl⟩
 have e0:True:=trivial
 have e1:True:=trivial
 have e4:True:=trivial
 have ei:True:=trivial
 have ej:True:=trivial
 refine loop_out (callW_mono N _) (PaI1t 178 12 13 g id tok cap L a b T h1 p (fun x=>lt x p) ii j) (PaO1t 178 12 13 g id tok cap L a b T h1 p (fun x=>lt x p) ii j) 0 (n:=j-i) ⟨i,_,_,rfl,by omega,rfl,hPr,rfl,rfl,rfl,rfl,rfl⟩ ?_ ?_
 ·clear e0 e1 e4 ei ej hPr
  rintro m2 s ⟨i,l,lc,rfl,hmn,hm2,hPr,e0,e1,e4,ei,ej⟩
  have q1:=hPr.h1
  have q2:=hPr.h2
  have q3:=hPr.h3
  by_cases c1:(i:Int)≤(j:Int)-1
  ·obtain ⟨x,hx⟩:=some_at (L:=T) (i:=i) (by omega)
   have ej':(j:Int)-1=((j-1:Nat):Int):=by omega
   rw [ej'] at ej c1
   have ix:=hA1.adr (n:=L.length) (m:=i) (by omega) cap
   have ia:=hA1.adr (n:=L.length) (m:=a) (by omega) cap
   have rx:=hA1.row hx
   have ra:=hA1.row hPr.at_
   skip
   have wi:IntKind.wrap .i64 ((i:Int)+1)=((i+1:Nat):Int):=by rw [wrap_i64 (by omega)];omega
   simp -implicitDefEqProofs only [KK,eq_self,↓reduceIte,reduceLT,reduceEqDiff,reduceCtorEq,e0,e1,e4,ei,ej,c1,ix,ia,rx,ra,henc,htk]
   refine hc k x p _ _ (by omega) fun v hv=>?_
   by_cases c:lt x p
   ·have cv:=hv.mpr c
    simp -implicitDefEqProofs only [KK,eq_self,↓reduceIte,reduceLT,reduceEqDiff,reduceCtorEq,cv,wi,rdo_n]
    exact ⟨m2-1,by omega,i+1,_,_,rfl,by omega,by omega,hPr.incI (by omega) hx c,rfl,rfl,rfl,rfl,by rw [ej'];rfl⟩
   ·have cv:¬v<0:=fun e=>c (hv.mp e)
    simp -implicitDefEqProofs only [KK,eq_self,↓reduceIte,reduceLT,reduceEqDiff,reduceCtorEq,cv,rdo_e]
    exact ⟨i,_,_,rfl,hmn,hPr,.inr ⟨x,hx,c⟩,rfl,rfl,rfl,rfl,by rw [ej'];rfl⟩
  ·simp -implicitDefEqProofs only [KK,eq_self,↓reduceIte,reduceLT,reduceEqDiff,reduceCtorEq,e0,e1,e4,ei,ej,c1,rdo_e]
   exact ⟨i,_,_,rfl,hmn,hPr,.inl (by omega),rfl,rfl,rfl,rfl,rfl⟩
 clear e0 e1 e4 ei ej hPr
 rintro s ⟨i,l,lc,rfl,hmn1,hPr,hst1,e0,e1,e4,ei,ej⟩
 have q1:=hPr.h1
 have q2:=hPr.h2
 have q3:=hPr.h3
 simp -implicitDefEqProofs only [KK,eq_self,↓reduceIte,reduceLT,e0,e1,e4,ei,ej]
 refine loop_out (callW_mono N _) (PaI2t 178 12 13 g id tok cap L a b T h1 p (fun x=>lt x p) jj i) (PaO2t 178 12 13 g id tok cap L a b T h1 p (fun x=>lt x p) jj i) 2 (n:=j-i) ⟨j,_,_,rfl,by omega,rfl,hPr,hst1,rfl,rfl,rfl,rfl,rfl⟩ ?_ ?_
 ·clear e0 e1 e4 ei ej hPr hst1
  rintro m2 s ⟨j,l,lc,rfl,hmn,hm2,hPr,hst1,e0,e1,e4,ei,ej⟩
  have q1:=hPr.h1
  have q2:=hPr.h2
  have q3:=hPr.h3
  by_cases c1:(i:Int)≤(j:Int)-1
  ·obtain ⟨x,hx⟩:=some_at (L:=T) (i:=j-1) (by omega)
   have ej':(j:Int)-1=((j-1:Nat):Int):=by omega
   rw [ej'] at ej c1
   have ix:=hA1.adr (n:=L.length) (m:=j-1) (by omega) cap
   have ia:=hA1.adr (n:=L.length) (m:=a) (by omega) cap
   have rx:=hA1.row hx
   have ra:=hA1.row hPr.at_
   skip
   have wj:IntKind.wrap .i64 (((j-1:Nat):Int)-1)=((j-1:Nat):Int)-1:=wrap_i64 (by omega)
   simp -implicitDefEqProofs only [KK,eq_self,↓reduceIte,reduceLT,reduceEqDiff,reduceCtorEq,e0,e1,e4,ei,ej,c1,ix,ia,rx,ra,henc,htk]
   refine hc k x p _ _ (by omega) fun v hv=>?_
   by_cases c:lt x p
   ·have cv:=hv.mpr c
    simp -implicitDefEqProofs only [KK,eq_self,↓reduceIte,reduceLT,reduceEqDiff,reduceCtorEq,cv,rdo_e]
    exact ⟨j,_,_,rfl,hmn,hPr,.inr ⟨by omega,x,hx,c,hst1.resolve_left (by omega)⟩,rfl,rfl,rfl,rfl,by rw [ej'];rfl⟩
   ·have cv:¬v<0:=fun e=>c (hv.mp e)
    simp -implicitDefEqProofs only [KK,eq_self,↓reduceIte,reduceLT,reduceEqDiff,reduceCtorEq,cv,wj,rdo_n]
    exact ⟨m2-1,by omega,j-1,_,_,rfl,by omega,by omega,hPr.decJ (by omega) hx c,hst1.imp (fun e=>by omega) (fun e=>e),rfl,rfl,rfl,rfl,rfl⟩
  ·simp -implicitDefEqProofs only [KK,eq_self,↓reduceIte,reduceLT,reduceEqDiff,reduceCtorEq,e0,e1,e4,ei,ej,c1,rdo_e]
   exact ⟨j,_,_,rfl,hmn,hPr,.inl (by omega),rfl,rfl,rfl,rfl,rfl⟩
 clear e0 e1 e4 ei ej hPr hst1
 rintro s ⟨j,l,lc,rfl,hmn2,hPr,hst2,e0,e1,e4,ei,ej⟩
 have q1:=hPr.h1
 have q2:=hPr.h2
 have q3:=hPr.h3
 simp -implicitDefEqProofs only [KK,eq_self,↓reduceIte,reduceLT,reduceEqDiff,reduceCtorEq,e0,e1,e4,ei,ej]
 have fin:∀ al,i=j→∃ h2 h3 x,T[i-1]? = some x∧rowO (h1.g id) tok (i-1)=some (encE x)∧(∀ lc,storeO (h1.g id) h1 lc 5 id tok (i-1) 0 (encE p)=some ⟨.un,lc,h2⟩)∧(∀ lc,storeO (h2.g id) h2 lc 5 id tok a 0 (encE x)=some ⟨.un,lc,h3⟩)∧iaddrT h2 5 (.v (.c (.sl id tok 0 L.length cap))) (a:Int)=some (.v (.c (.ptr id tok a 0)))∧iaddrT h1 5 (.v (.c (.sl id tok 0 L.length cap))) ((i-1:Nat):Int)=some (.v (.c (.ptr id tok (i-1) 0)))∧P (.tup [.c (.int .i64 ((i-1:Nat):Int)),.c (.bool al)]) h3:=by
  intro al e
  obtain ⟨x,hx⟩:=some_at (L:=T) (i:=i-1) (by omega)
  obtain ⟨h2,h3,s1,s2,i3,A3,f3,_⟩:=hA1.swap henc hx hPr.at_
  subst e
  exact ⟨h2,h3,x,hx,hA1.row hx,s1,s2,i3 _ _ _ (by omega),hA1.adr (by omega) cap,hP h3 _ p (i-1) al (hS.trans (Sh.sw (by omega) (by omega) (by omega))) (by omega) (by omega) (hPr.fin (by omega)) A3 (f1.trans f3)⟩
 have i1:=hA1.adr (n:=L.length) (m:=a) (by omega) cap
 have r1:=hA1.row hPr.at_
 by_cases c2:(j:Int)-1<(i:Int)
 ·have c2':((i-1:Nat):Int)<(i:Int):=by omega
  obtain ⟨h2,h3,x,hx,r2,s1,s2,i3,i2,hq⟩:=fin true (by omega)
  have ej':(j:Int)-1=((i-1:Nat):Int):=by omega
  skip
  simp -implicitDefEqProofs only [KK,eq_self,↓reduceIte,reduceLT,reduceEqDiff,reduceCtorEq,ej',c2',i1,i2,i3,r1,r2,s1,s2,henc,htk]
  exact hq
 have hij:i<j:=by omega
 obtain ⟨_,y,hy,hAy,x,hx,hAx⟩:=hst2.resolve_left (by omega)
 have ej':(j:Int)-1=((j-1:Nat):Int):=by omega
 rw [ej'] at c2
 have i2:=hA1.adr (n:=L.length) (m:=i) (by omega) cap
 have i3:=hA1.adr (n:=L.length) (m:=j-1) (by omega) cap
 have r2:=hA1.row hx
 have r3:=hA1.row hy
 obtain ⟨h2,h3,s1,s2,i4,A3,f3,_⟩:=hA1.swap henc hx hy
 have i5:=i4 L.length (j-1) cap (by omega)
 skip
 have w1:IntKind.wrap .i64 ((i:Int)+1)=((i+1:Nat):Int):=by rw [wrap_i64 (by omega)];omega
 have w2:IntKind.wrap .i64 (((j-1:Nat):Int)-1)=((j-1:Nat):Int)-1:=wrap_i64 (by omega)
 obtain ⟨hlt,hPr'⟩:=hPr.swap (by omega) hij hx hy hAx hAy
 have hS':=hS.trans (Sh.sw (L:=T) (i:=i) (j:=j-1) (by omega) (by omega) (by omega))
 have f1':=f1.trans f3
 simp -implicitDefEqProofs only [KK,eq_self,↓reduceIte,reduceLT,reduceEqDiff,reduceCtorEq,ej',c2,i2,i3,r2,r3,s1,s2,i5,w1,w2,henc,htk]
 refine loop_rd (callW_mono N _) (PaRt 178 12 13 g id tok cap L a b p (fun x=>lt x p) a b rest h encE) (n:=(j-1)-(i+1)) ⟨i+1,j-1,_,h3,_,_,rfl,rfl,hPr',hS',A3,f1',rfl,rfl,rfl,rfl,rfl⟩ ?_
 clear fin i1 r1 i2 i3 r2 r3 s1 s2 i4 i5 A3 f3 f1' hS' hPr' hPr hst2 hx hy hS hA1 f1 hlen e0 e1 e4 ei ej hmn1 hmn2 hii hjj q1 q2 q3 c2 hij ej' w1 w2 hlt
 rintro m s ⟨i,j,T,h1,l,lc,rfl,hm,hPr,hS,hA1,f1,e0,e1,e4,ei,ej⟩
 have hlen:=hS.len
 have q1:=hPr.h1
 have q2:=hPr.h2
 have q3:=hPr.h3
 simp -implicitDefEqProofs only [KK,eq_self,↓reduceIte,reduceLT,e0,e1,e4,ei,ej]
 obtain ⟨ii,hii⟩:∃ ii,ii=i:=⟨i,rfl⟩
 obtain ⟨jj,hjj⟩:∃ jj,jj=j:=⟨j,rfl⟩
 rw [←hii,←hjj] at hm
 refine loop_out (callW_mono N _) (PaI1t 178 12 13 g id tok cap L a b T h1 p (fun x=>lt x p) ii j) (PaO1t 178 12 13 g id tok cap L a b T h1 p (fun x=>lt x p) ii j) 6 (n:=j-i) ⟨i,_,_,rfl,by omega,rfl,hPr,rfl,rfl,rfl,rfl,rfl⟩ ?_ ?_
 ·clear e0 e1 e4 ei ej hPr
  rintro m2 s ⟨i,l,lc,rfl,hmn,hm2,hPr,e0,e1,e4,ei,ej⟩
  have q1:=hPr.h1
  have q2:=hPr.h2
  have q3:=hPr.h3
  by_cases c1:(i:Int)≤(j:Int)-1
  ·obtain ⟨x,hx⟩:=some_at (L:=T) (i:=i) (by omega)
   have ej':(j:Int)-1=((j-1:Nat):Int):=by omega
   rw [ej'] at ej c1
   have ix:=hA1.adr (n:=L.length) (m:=i) (by omega) cap
   have ia:=hA1.adr (n:=L.length) (m:=a) (by omega) cap
   have rx:=hA1.row hx
   have ra:=hA1.row hPr.at_
   skip
   have wi:IntKind.wrap .i64 ((i:Int)+1)=((i+1:Nat):Int):=by rw [wrap_i64 (by omega)];omega
   simp -implicitDefEqProofs only [KK,eq_self,↓reduceIte,reduceLT,reduceEqDiff,reduceCtorEq,e0,e1,e4,ei,ej,c1,ix,ia,rx,ra,henc,htk]
   refine hc k x p _ _ (by omega) fun v hv=>?_
   by_cases c:lt x p
   ·have cv:=hv.mpr c
    simp -implicitDefEqProofs only [KK,eq_self,↓reduceIte,reduceLT,reduceEqDiff,reduceCtorEq,cv,wi,rdo_n]
    exact ⟨m2-1,by omega,i+1,_,_,rfl,by omega,by omega,hPr.incI (by omega) hx c,rfl,rfl,rfl,rfl,by rw [ej'];rfl⟩
   ·have cv:¬v<0:=fun e=>c (hv.mp e)
    simp -implicitDefEqProofs only [KK,eq_self,↓reduceIte,reduceLT,reduceEqDiff,reduceCtorEq,cv,rdo_e]
    exact ⟨i,_,_,rfl,hmn,hPr,.inr ⟨x,hx,c⟩,rfl,rfl,rfl,rfl,by rw [ej'];rfl⟩
  ·simp -implicitDefEqProofs only [KK,eq_self,↓reduceIte,reduceLT,reduceEqDiff,reduceCtorEq,e0,e1,e4,ei,ej,c1,rdo_e]
   exact ⟨i,_,_,rfl,hmn,hPr,.inl (by omega),rfl,rfl,rfl,rfl,rfl⟩
 clear e0 e1 e4 ei ej hPr
 rintro s ⟨i,l,lc,rfl,hmn1,hPr,hst1,e0,e1,e4,ei,ej⟩
 have q1:=hPr.h1
 have q2:=hPr.h2
 have q3:=hPr.h3
 simp -implicitDefEqProofs only [KK,eq_self,↓reduceIte,reduceLT,e0,e1,e4,ei,ej]
 refine loop_out (callW_mono N _) (PaI2t 178 12 13 g id tok cap L a b T h1 p (fun x=>lt x p) jj i) (PaO2t 178 12 13 g id tok cap L a b T h1 p (fun x=>lt x p) jj i) 8 (n:=j-i) ⟨j,_,_,rfl,by omega,rfl,hPr,hst1,rfl,rfl,rfl,rfl,rfl⟩ ?_ ?_
 ·clear e0 e1 e4 ei ej hPr hst1
  rintro m2 s ⟨j,l,lc,rfl,hmn,hm2,hPr,hst1,e0,e1,e4,ei,ej⟩
  have q1:=hPr.h1
  have q2:=hPr.h2
  have q3:=hPr.h3
  by_cases c1:(i:Int)≤(j:Int)-1
  ·obtain ⟨x,hx⟩:=some_at (L:=T) (i:=j-1) (by omega)
   have ej':(j:Int)-1=((j-1:Nat):Int):=by omega
   rw [ej'] at ej c1
   have ix:=hA1.adr (n:=L.length) (m:=j-1) (by omega) cap
   have ia:=hA1.adr (n:=L.length) (m:=a) (by omega) cap
   have rx:=hA1.row hx
   have ra:=hA1.row hPr.at_
   skip
   have wj:IntKind.wrap .i64 (((j-1:Nat):Int)-1)=((j-1:Nat):Int)-1:=wrap_i64 (by omega)
   simp -implicitDefEqProofs only [KK,eq_self,↓reduceIte,reduceLT,reduceEqDiff,reduceCtorEq,e0,e1,e4,ei,ej,c1,ix,ia,rx,ra,henc,htk]
   refine hc k x p _ _ (by omega) fun v hv=>?_
   by_cases c:lt x p
   ·have cv:=hv.mpr c
    simp -implicitDefEqProofs only [KK,eq_self,↓reduceIte,reduceLT,reduceEqDiff,reduceCtorEq,cv,rdo_e]
    exact ⟨j,_,_,rfl,hmn,hPr,.inr ⟨by omega,x,hx,c,hst1.resolve_left (by omega)⟩,rfl,rfl,rfl,rfl,by rw [ej'];rfl⟩
   ·have cv:¬v<0:=fun e=>c (hv.mp e)
    simp -implicitDefEqProofs only [KK,eq_self,↓reduceIte,reduceLT,reduceEqDiff,reduceCtorEq,cv,wj,rdo_n]
    exact ⟨m2-1,by omega,j-1,_,_,rfl,by omega,by omega,hPr.decJ (by omega) hx c,hst1.imp (fun e=>by omega) (fun e=>e),rfl,rfl,rfl,rfl,rfl⟩
  ·simp -implicitDefEqProofs only [KK,eq_self,↓reduceIte,reduceLT,reduceEqDiff,reduceCtorEq,e0,e1,e4,ei,ej,c1,rdo_e]
   exact ⟨j,_,_,rfl,hmn,hPr,.inl (by omega),rfl,rfl,rfl,rfl,rfl⟩
 clear e0 e1 e4 ei ej hPr hst1
 rintro s ⟨j,l,lc,rfl,hmn2,hPr,hst2,e0,e1,e4,ei,ej⟩
 have q1:=hPr.h1
 have q2:=hPr.h2
 have q3:=hPr.h3
 simp -implicitDefEqProofs only [KK,eq_self,↓reduceIte,reduceLT,reduceEqDiff,reduceCtorEq,e0,e1,e4,ei,ej]
 have fin:∀ al,i=j→∃ h2 h3 x,T[i-1]? = some x∧rowO (h1.g id) tok (i-1)=some (encE x)∧(∀ lc,storeO (h1.g id) h1 lc 5 id tok (i-1) 0 (encE p)=some ⟨.un,lc,h2⟩)∧(∀ lc,storeO (h2.g id) h2 lc 5 id tok a 0 (encE x)=some ⟨.un,lc,h3⟩)∧iaddrT h2 5 (.v (.c (.sl id tok 0 L.length cap))) (a:Int)=some (.v (.c (.ptr id tok a 0)))∧iaddrT h1 5 (.v (.c (.sl id tok 0 L.length cap))) ((i-1:Nat):Int)=some (.v (.c (.ptr id tok (i-1) 0)))∧P (.tup [.c (.int .i64 ((i-1:Nat):Int)),.c (.bool al)]) h3:=by
  intro al e
  obtain ⟨x,hx⟩:=some_at (L:=T) (i:=i-1) (by omega)
  obtain ⟨h2,h3,s1,s2,i3,A3,f3,_⟩:=hA1.swap henc hx hPr.at_
  subst e
  exact ⟨h2,h3,x,hx,hA1.row hx,s1,s2,i3 _ _ _ (by omega),hA1.adr (by omega) cap,hP h3 _ p (i-1) al (hS.trans (Sh.sw (by omega) (by omega) (by omega))) (by omega) (by omega) (hPr.fin (by omega)) A3 (f1.trans f3)⟩
 have i1:=hA1.adr (n:=L.length) (m:=a) (by omega) cap
 have r1:=hA1.row hPr.at_
 by_cases c2:(j:Int)-1<(i:Int)
 ·have c2':((i-1:Nat):Int)<(i:Int):=by omega
  obtain ⟨h2,h3,x,hx,r2,s1,s2,i3,i2,hq⟩:=fin false (by omega)
  have ej':(j:Int)-1=((i-1:Nat):Int):=by omega
  skip
  simp -implicitDefEqProofs only [KK,eq_self,↓reduceIte,reduceLT,reduceEqDiff,reduceCtorEq,ej',c2',i1,i2,i3,r1,r2,s1,s2,henc,htk]
  exact hq
 ·have hij:i<j:=by omega
  obtain ⟨_,y,hy,hAy,x,hx,hAx⟩:=hst2.resolve_left (by omega)
  have ej':(j:Int)-1=((j-1:Nat):Int):=by omega
  rw [ej'] at c2
  have i2:=hA1.adr (n:=L.length) (m:=i) (by omega) cap
  have i3:=hA1.adr (n:=L.length) (m:=j-1) (by omega) cap
  have r2:=hA1.row hx
  have r3:=hA1.row hy
  obtain ⟨h2,h3,s1,s2,i4,A3,f3,_⟩:=hA1.swap henc hx hy
  have i5:=i4 L.length (j-1) cap (by omega)
  skip
  have w1:IntKind.wrap .i64 ((i:Int)+1)=((i+1:Nat):Int):=by rw [wrap_i64 (by omega)];omega
  have w2:IntKind.wrap .i64 (((j-1:Nat):Int)-1)=((j-1:Nat):Int)-1:=wrap_i64 (by omega)
  obtain ⟨hlt,hPr'⟩:=hPr.swap (by omega) hij hx hy hAx hAy
  simp -implicitDefEqProofs only [KK,eq_self,↓reduceIte,reduceLT,reduceEqDiff,reduceCtorEq,ej',c2,i2,i3,r2,r3,s1,s2,i5,w1,w2,henc,htk,rd_n]
  exact ⟨(j-1)-(i+1),by omega,i+1,j-1,_,h3,_,_,rfl,rfl,hPr',hS.trans (Sh.sw (by omega) (by omega) (by omega)),A3,f1.trans f3,rfl,rfl,rfl,rfl,rfl⟩
end
end
section
set_option maxHeartbeats 4000000
theorem Srt.snoct {lt:Cel→Cel→Prop} (o:SWO lt) {T:List Cel} {a i:Nat} (h:Srt lt T a i a a) (hi:a<i) (hn:i<T.length) (hl:lex lt T (i-1) i):Srt lt T a (i+1) a a:=by
 intro p q h1 h2 h3
 right
 by_cases e:q=i
 ·subst e
  by_cases e2:p=q-1
  ·rw [e2];exact hl
  ·exact ((h p (q-1) h1 (by omega) (by omega)).resolve_left (by omega)).trans o hl (by omega)
 ·exact (h p q h1 h2 (by omega)).resolve_left (by omega)
theorem Srt.lowt {lt:Cel→Cel→Prop} {T U:List Cel} {a i b:Nat} (h:Srt lt T a i a a) (k:Sh i b T U):Srt lt U a i a a:=by
 intro p q h1 h2 h3
 exact .inr (((h p q h1 h2 h3).resolve_left (by omega)).eq (k.out p (by omega)) (k.out q (by omega)))
section
variable {lt:Cel→Cel→Prop} {g:Nat} {d F id tok:Nat} {rest:List (List CV)} {L:List Cel} {cap:Option Nat} {h:Hp} {P:AV→Hp→Prop}
section
variable (lt:Cel→Cel→Prop) (g:Nat) (h:Hp) (id tok:Nat) (rest:List (List CV)) (cap:Option Nat) (L:List Cel) (a b:Nat)
def PnLt (i t:Nat) (l:List (Nat × TV)):Prop:=
 lk l 0 = .v (.c (.sl id tok 0 L.length cap))∧lk l 1 = .v (.c (.int .i64 a))∧lk l 2 = .v (.c (.int .i64 b))∧lk l 3 = .v (.c (.fn g []))∧lk l 9 = .v (.c (.int .i64 i))∧lk l 10 = .v (.c (.int .i64 t))
def PnIt (m:Nat) (s:St):Prop:=
 ∃ (t i:Nat) (T:List Cel) (h':Hp) (l:List (Nat × TV)) (lc:List (List CV)),s=ST 141 l lc h'∧t≤5∧m=5-t∧a+1≤i∧i≤b∧Sh a b L T∧Srt lt T a i a a∧Ar encE 5 h' id tok rest T∧Fm (fun j=>j=id) h h'∧PnLt g id tok cap L a b i t l
def PnWt (T:List Cel) (h1:Hp) (t:Nat) (m:Nat) (s:St):Prop:=
 ∃ (i:Nat) (l:List (Nat × TV)) (lc:List (List CV)),s=ST 141 l lc h1∧m=b-i∧a+1≤i∧i≤b∧Srt lt T a i a a∧PnLt g id tok cap L a b i t l
def PnVt (T:List Cel) (h1:Hp) (t:Nat) (s:St):Prop:=
 ∃ (i:Nat) (l:List (Nat × TV)) (lc:List (List CV)),s=ST 141 l lc h1∧a+1≤i∧i≤b∧Srt lt T a i a a∧PnLt g id tok cap L a b i t l
def PnJt (i t:Nat) (m:Nat) (s:St):Prop:=
 ∃ (j:Nat) (T:List Cel) (h':Hp) (l:List (Nat × TV)) (lc:List (List CV)),s=ST 141 l lc h'∧m=j∧a≤j∧j≤i-1∧Sh a b L T∧Butt lt T a i j∧Ar encE 5 h' id tok rest T∧Fm (fun j=>j=id) h h'∧PnLt g id tok cap L a b i t l∧lk l 11 = .v (.c (.int .i64 j))
def PnKt (i t:Nat) (m:Nat) (s:St):Prop:=
 ∃ (j:Nat) (T:List Cel) (h':Hp) (l:List (Nat × TV)) (lc:List (List CV)),s=ST 141 l lc h'∧m=b-j∧i+1≤j∧j≤b∧Sh a b L T∧Srt lt T a i a a∧Ar encE 5 h' id tok rest T∧Fm (fun j=>j=id) h h'∧PnLt g id tok cap L a b i t l∧lk l 12 = .v (.c (.int .i64 j))
def PnOt (i t:Nat) (s:St):Prop:=
 ∃ (T:List Cel) (h':Hp) (l:List (Nat × TV)) (lc:List (List CV)),s=ST 141 l lc h'∧Sh a b L T∧Srt lt T a i a a∧Ar encE 5 h' id tok rest T∧Fm (fun j=>j=id) h h'∧PnLt g id tok cap L a b i t l
end
theorem pins_okt {a b:Nat} (o:SWO lt) (hc:CmpOkt lt g d) (hF:d+1≤F) (hA:Ar encE 5 h id tok rest L) (hab:a+13≤b) (hb:b≤L.length) (hn:L.length≤255)
 (hpre:1≤a→∀ q,a≤q→q<b→lex lt L (a-1) q)
 (hP:∀ h' T r,Sh a b L T→(r=true→Srt lt T a b a a)→Ar encE 5 h' id tok rest T→Fm (fun j=>j=id) h h'→P (.c (.bool r)) h') :
 callW N F 163 [.c (.sl id tok 0 L.length cap),.c (.int .i64 a),.c (.int .i64 b),.c (.fn g [])] h P:=by
 obtain ⟨k,rfl⟩:∃ k,F=k+1:=⟨F-1,by omega⟩
 have henc:∀ x,(encE x).length=5:=fun _=>rfl
 have htk:∀ x,(encE x).take 5=encE x:=fun _=>rfl
 have w1:IntKind.wrap .i64 ((a:Int)+1)=((a+1:Nat):Int):=by rw [wrap_i64 (by omega)];omega
 refine call_intro rfl (by simp only [List.length_cons,List.length_nil];omega) ?_
 simp -implicitDefEqProofs only [KK,eq_self,↓reduceIte,reduceLT,reduceEqDiff,reduceAdd,reduceCtorEq,w1]
 refine loop_rd (callW_mono N _) (PnIt lt g h id tok rest cap L a b) (n:=5) ⟨0,a+1,L,h,_,_,rfl,by omega,rfl,by omega,by omega,Sh.refl _ _ _,fun i j h1 h2 h3=>by omega,hA,Fm.refl _ _,rfl,rfl,rfl,rfl,rfl,rfl⟩ ?_
 rintro m s ⟨t,i,T,h1,l,lc,rfl,ht,hm,hi1,hi2,hS,hO,hA1,f1,e0,e1,e2,e3,e9,e10⟩
 have hlen:=hS.len
 by_cases hlt:(t:Int)<5
 rotate_left
 ·simp -implicitDefEqProofs only [KK,eq_self,↓reduceIte,reduceLT,reduceEqDiff,reduceCtorEq,e0,e1,e2,e3,e9,e10,hlt]
  exact hP h1 T false hS (fun e=>by cases e) hA1 f1
 have wt:IntKind.wrap .i64 ((t:Int)+1)=((t+1:Nat):Int):=by rw [wrap_i64 (by omega)];omega
 simp -implicitDefEqProofs only [KK,eq_self,↓reduceIte,reduceLT,reduceEqDiff,reduceCtorEq,e0,e1,e2,e3,e9,e10,hlt]
 refine loop_out (callW_mono N _) (PnWt lt g id tok cap L a b T h1 t) (PnVt lt g id tok cap L a b T h1 t) 2 (n:=b-i) ⟨i,_,_,rfl,rfl,hi1,hi2,hO,rfl,rfl,rfl,rfl,rfl,rfl⟩ ?_ ?_
 ·clear e0 e1 e2 e3 e9 e10 hO hi1 hi2
  rintro m2 s ⟨i,l,lc,rfl,hm2,hi1,hi2,hO,e0,e1,e2,e3,e9,e10⟩
  by_cases c1:(i:Int)<(b:Int)
  ·obtain ⟨x,hx⟩:=some_at (L:=T) (i:=i) (by omega)
   obtain ⟨y,hy⟩:=some_at (L:=T) (i:=i-1) (by omega)
   have ix:=hA1.adr (n:=L.length) (m:=i) (by omega) cap
   have iy:=hA1.adr (n:=L.length) (m:=i-1) (by omega) cap
   have rx:=hA1.row hx
   have ry:=hA1.row hy
   have wd:IntKind.wrap .i64 ((i:Int)-1)=((i-1:Nat):Int):=by rw [wrap_i64 (by omega)];omega
   have wi:IntKind.wrap .i64 ((i:Int)+1)=((i+1:Nat):Int):=by rw [wrap_i64 (by omega)];omega
   skip
   simp -implicitDefEqProofs only [KK,eq_self,↓reduceIte,reduceLT,reduceEqDiff,reduceCtorEq,e0,e1,e2,e3,e9,e10,c1,wd,ix,iy,rx,ry,henc,htk]
   refine hc k x y _ _ (by omega) fun v hv=>?_
   by_cases c:lt x y
   ·have cv:=hv.mpr c
    simp -implicitDefEqProofs only [KK,eq_self,↓reduceIte,reduceLT,reduceEqDiff,reduceCtorEq,cv,rdo_e]
    exact ⟨i,_,_,rfl,hi1,hi2,hO,rfl,rfl,rfl,rfl,rfl,rfl⟩
   ·have cv:¬v<0:=fun e=>c (hv.mp e)
    simp -implicitDefEqProofs only [KK,eq_self,↓reduceIte,reduceLT,reduceEqDiff,reduceCtorEq,cv,wi,rdo_n]
    exact ⟨m2-1,by omega,i+1,_,_,rfl,by omega,by omega,by omega,hO.snoct o (by omega) (by omega) (fun u w hu hw=>by rw [hy] at hu;rw [hx] at hw;obtain rfl:=Option.some.inj hu;obtain rfl:=Option.some.inj hw;exact c),rfl,rfl,rfl,rfl,rfl,rfl⟩
  ·simp -implicitDefEqProofs only [KK,eq_self,↓reduceIte,reduceLT,reduceEqDiff,reduceCtorEq,e0,e1,e2,e3,e9,e10,c1,rdo_e]
   exact ⟨i,_,_,rfl,hi1,hi2,hO,rfl,rfl,rfl,rfl,rfl,rfl⟩
 clear e0 e1 e2 e3 e9 e10 hO hi1 hi2
 rintro s ⟨i,l,lc,rfl,hi1,hi2,hO,e0,e1,e2,e3,e9,e10⟩
 by_cases c2:(i:Int)=(b:Int)
 ·have c2':decide ((i:Int)=(b:Int))=true:=decide_eq_true c2
  simp -implicitDefEqProofs only [KK,eq_self,↓reduceIte,reduceLT,reduceEqDiff,reduceCtorEq,e0,e1,e2,e3,e9,e10,c2']
  have:i=b:=by omega
  subst this
  exact hP h1 T true hS (fun _=>hO) hA1 f1
 have wl:IntKind.wrap .i64 ((b:Int)-(a:Int))=((b-a:Nat):Int):=by rw [wrap_i64 (by omega)];omega
 by_cases c3:((b-a:Nat):Int)<50
 ·simp -implicitDefEqProofs only [KK,eq_self,↓reduceIte,reduceLT,reduceEqDiff,reduceCtorEq,e0,e1,e2,e3,e9,e10,c2,wl,c3]
  exact hP h1 T false hS (fun e=>by cases e) hA1 f1
 obtain ⟨x,hx⟩:=some_at (L:=T) (i:=i) (by omega)
 obtain ⟨y,hy⟩:=some_at (L:=T) (i:=i-1) (by omega)
 have ix:=hA1.adr (n:=L.length) (m:=i) (by omega) cap
 have iy:=hA1.adr (n:=L.length) (m:=i-1) (by omega) cap
 have rx:=hA1.row hx
 have ry:=hA1.row hy
 obtain ⟨h2,h3,s1,s2,i3,A3,f3,_⟩:=hA1.swap henc hx hy
 have i4:=i3 L.length (i-1) cap (by omega)
 have wd:IntKind.wrap .i64 ((i:Int)-1)=((i-1:Nat):Int):=by rw [wrap_i64 (by omega)];omega
 have wa:IntKind.wrap .i64 ((i:Int)-(a:Int))=((i-a:Nat):Int):=by rw [wrap_i64 (by omega)];omega
 have wb:IntKind.wrap .i64 ((b:Int)-(i:Int))=((b-i:Nat):Int):=by rw [wrap_i64 (by omega)];omega
 have wi:IntKind.wrap .i64 ((i:Int)+1)=((i+1:Nat):Int):=by rw [wrap_i64 (by omega)];omega
 have hsw:=fun k=>sw_get (L:=T) (i:=i) (j:=i-1) (by omega) (by omega) k
 have hS3:Sh a b L (sw T i (i-1)):=hS.trans (Sh.sw (by omega) (by omega) (by omega))
 have hB3:Butt lt (sw T i (i-1)) a i (i-1):=fun p q g1 g2 g3 g4=>((hO p q g1 g2 g3).resolve_left (by omega)).eq (by rw [hsw,if_neg (by omega),if_neg (by omega)]) (by rw [hsw,if_neg (by omega),if_neg (by omega)])
 have f13:=f1.trans f3
 generalize sw T i (i-1)=T3 at A3 hS3 hB3
 skip
 by_cases c4:(2:Int)≤((i-a:Nat):Int)
 case' neg=>
  simp -implicitDefEqProofs only [KK,eq_self,↓reduceIte,reduceLT,reduceEqDiff,reduceCtorEq,e0,e1,e2,e3,e9,e10,c2,wl,c3,wd,ix,iy,rx,ry,s1,s2,i4,wa,c4,wb,henc,htk]
  have hO3:Srt lt T3 a i a a:=fun p q g1 g2 g3=>by omega
  obtain ⟨T5,hT5⟩:∃ T5,T5=T3:=⟨_,rfl⟩
  rw [←hT5] at A3 hS3 hO3
  clear hT5 hB3 hsw
  clear e0 e1 e2 e3 e9 e10 hA1 f1 hS hO
  have hA1:=A3
  have hS:=hS3
  have f1:=f13
  have hO:=hO3
  obtain ⟨h1,hh1⟩:∃ h1,h1=h3:=⟨_,rfl⟩
  rw [←hh1] at hA1 f1 ⊢
 case' pos=>
  simp -implicitDefEqProofs only [KK,eq_self,↓reduceIte,reduceLT,reduceEqDiff,reduceCtorEq,e0,e1,e2,e3,e9,e10,c2,wl,c3,wd,ix,iy,rx,ry,s1,s2,i4,wa,c4,henc,htk]
  refine loop_out (callW_mono N _) (PnJt lt g h id tok rest cap L a b i t) (PnOt lt g h id tok rest cap L a b i t) 4 (n:=i-1) ⟨i-1,T3,h3,_,_,rfl,rfl,by omega,by omega,hS3,hB3,A3,f13,⟨rfl,rfl,rfl,rfl,rfl,rfl⟩,rfl⟩ ?_ ?_
  ·clear e0 e1 e2 e3 e9 e10 hO hS hA1 f1 hx hy ix iy rx ry s1 s2 i3 i4 A3 f3 f13 hS3 hB3 hsw wd
   rintro m2 s ⟨j,T,h1,l,lc,rfl,hm2,hj1,hj2,hS,hB,hA1,f1,⟨e0,e1,e2,e3,e9,e10⟩,e11⟩
   have hlen:=hS.len
   by_cases c5:(1:Int)≤(j:Int)
   ·obtain ⟨x,hx⟩:=some_at (L:=T) (i:=j) (by omega)
    obtain ⟨y,hy⟩:=some_at (L:=T) (i:=j-1) (by omega)
    have ix:=hA1.adr (n:=L.length) (m:=j) (by omega) cap
    have iy:=hA1.adr (n:=L.length) (m:=j-1) (by omega) cap
    have rx:=hA1.row hx
    have ry:=hA1.row hy
    obtain ⟨h2,h3,s1,s2,i3,A3,f3,_⟩:=hA1.swap henc hx hy
    have i4:=i3 L.length (j-1) cap (by omega)
    have wd:IntKind.wrap .i64 ((j:Int)-1)=((j-1:Nat):Int):=by rw [wrap_i64 (by omega)];omega
    skip
    simp -implicitDefEqProofs only [KK,eq_self,↓reduceIte,reduceLT,reduceEqDiff,reduceCtorEq,e0,e1,e2,e3,e9,e10,e11,c5,wd,ix,iy,rx,ry,henc,htk]
    refine hc k x y _ _ (by omega) fun v hv=>?_
    by_cases c:lt x y
    ·have cv:=hv.mpr c
     have hja:a<j:=by
      rcases Nat.lt_or_ge a j with q|q
      ·exact q
      ·exfalso
       have hja:j=a:=by omega
       subst hja
       obtain ⟨q,g1,g2,hq⟩:=hS.mem (i:=j) (by omega) (by omega) hx
       rw [hS.out (j-1) (by omega)] at hy
       exact hpre (by omega) q g1 g2 y x hy hq c
     simp -implicitDefEqProofs only [KK,eq_self,↓reduceIte,reduceLT,reduceEqDiff,reduceCtorEq,cv,wd,ix,iy,rx,ry,s1,s2,i4,henc,htk,rdo_n]
     exact ⟨m2-1,by omega,j-1,_,h3,_,_,rfl,by omega,by omega,by omega,hS.trans (Sh.sw (by omega) (by omega) (by omega)),hB.step o (by omega) (by omega) hx hy c,A3,f1.trans f3,⟨rfl,rfl,rfl,rfl,rfl,rfl⟩,rfl⟩
    ·have cv:¬v<0:=fun e=>c (hv.mp e)
     simp -implicitDefEqProofs only [KK,eq_self,↓reduceIte,reduceLT,reduceEqDiff,reduceCtorEq,cv,rdo_e]
     exact ⟨T,h1,_,_,rfl,hS,hB.done o (by omega) (by omega) (.inr fun u w hu hw=>by rw [hy] at hu;rw [hx] at hw;obtain rfl:=Option.some.inj hu;obtain rfl:=Option.some.inj hw;exact c),hA1,f1,rfl,rfl,rfl,rfl,rfl,rfl⟩
   ·simp -implicitDefEqProofs only [KK,eq_self,↓reduceIte,reduceLT,reduceEqDiff,reduceCtorEq,e0,e1,e2,e3,e9,e10,e11,c5,rdo_e]
    exact ⟨T,h1,_,_,rfl,hS,hB.done o (by omega) (by omega) (.inl (by omega)),hA1,f1,rfl,rfl,rfl,rfl,rfl,rfl⟩
  clear e0 e1 e2 e3 e9 e10 hO hS hA1 f1 hx hy ix iy rx ry s1 s2 i3 i4 A3 f3 f13 hS3 hB3 hsw wd
  rintro s ⟨T,h1,l,lc,rfl,hS,hO,hA1,f1,e0,e1,e2,e3,e9,e10⟩
  simp -implicitDefEqProofs only [KK,eq_self,↓reduceIte,reduceLT,reduceEqDiff,reduceCtorEq,e0,e1,e2,e3,e9,e10,wb]
 all_goals
  by_cases c6:(2:Int)≤((b-i:Nat):Int)
  rotate_left
  ·simp -implicitDefEqProofs only [KK,eq_self,↓reduceIte,reduceLT,reduceEqDiff,reduceCtorEq,c6,wt,rd_n]
   exact ⟨m-1,by omega,t+1,i,_,h1,_,_,rfl,by omega,by omega,by omega,by omega,hS,hO,hA1,f1,rfl,rfl,rfl,rfl,rfl,rfl⟩
  simp -implicitDefEqProofs only [KK,eq_self,↓reduceIte,reduceLT,reduceEqDiff,reduceCtorEq,c6,wi]
  refine loop_out (callW_mono N _) (PnKt lt g h id tok rest cap L a b i t) (PnOt lt g h id tok rest cap L a b i t) 6 (n:=b-(i+1)) ⟨i+1,_,h1,_,_,rfl,rfl,by omega,by omega,hS,hO,hA1,f1,⟨rfl,rfl,rfl,rfl,rfl,rfl⟩,rfl⟩ ?_ ?_
  ·clear hO hS hA1 f1
   rintro m2 s ⟨j,T,h1,l,lc,rfl,hm2,hj1,hj2,hS,hO,hA1,f1,⟨e0,e1,e2,e3,e9,e10⟩,e12⟩
   have hlen:=hS.len
   by_cases c5:(j:Int)<(b:Int)
   ·obtain ⟨x,hx⟩:=some_at (L:=T) (i:=j) (by omega)
    obtain ⟨y,hy⟩:=some_at (L:=T) (i:=j-1) (by omega)
    have ix:=hA1.adr (n:=L.length) (m:=j) (by omega) cap
    have iy:=hA1.adr (n:=L.length) (m:=j-1) (by omega) cap
    have rx:=hA1.row hx
    have ry:=hA1.row hy
    obtain ⟨h2,h3,s1,s2,i3,A3,f3,_⟩:=hA1.swap henc hx hy
    have i4:=i3 L.length (j-1) cap (by omega)
    have wd:IntKind.wrap .i64 ((j:Int)-1)=((j-1:Nat):Int):=by rw [wrap_i64 (by omega)];omega
    have wj:IntKind.wrap .i64 ((j:Int)+1)=((j+1:Nat):Int):=by rw [wrap_i64 (by omega)];omega
    skip
    simp -implicitDefEqProofs only [KK,eq_self,↓reduceIte,reduceLT,reduceEqDiff,reduceCtorEq,e0,e1,e2,e3,e9,e10,e12,c5,wd,ix,iy,rx,ry,henc,htk]
    refine hc k x y _ _ (by omega) fun v hv=>?_
    by_cases c:lt x y
    ·have cv:=hv.mpr c
     simp -implicitDefEqProofs only [KK,eq_self,↓reduceIte,reduceLT,reduceEqDiff,reduceCtorEq,cv,wd,wj,ix,iy,rx,ry,s1,s2,i4,henc,htk,rdo_n]
     exact ⟨m2-1,by omega,j+1,_,h3,_,_,rfl,by omega,by omega,by omega,hS.trans (Sh.sw (by omega) (by omega) (by omega)),hO.lowt (b:=b) (Sh.sw (by omega) (by omega) (by omega)),A3,f1.trans f3,⟨rfl,rfl,rfl,rfl,rfl,rfl⟩,rfl⟩
    ·have cv:¬v<0:=fun e=>c (hv.mp e)
     simp -implicitDefEqProofs only [KK,eq_self,↓reduceIte,reduceLT,reduceEqDiff,reduceCtorEq,cv,rdo_e]
     exact ⟨T,h1,_,_,rfl,hS,hO,hA1,f1,rfl,rfl,rfl,rfl,rfl,rfl⟩
   ·simp -implicitDefEqProofs only [KK,eq_self,↓reduceIte,reduceLT,reduceEqDiff,reduceCtorEq,e0,e1,e2,e3,e9,e10,e12,c5,rdo_e]
    exact ⟨T,h1,_,_,rfl,hS,hO,hA1,f1,rfl,rfl,rfl,rfl,rfl,rfl⟩
  ·clear hO hS hA1 f1
   rintro s ⟨T,h1,l,lc,rfl,hS,hO,hA1,f1,e0,e1,e2,e3,e9,e10⟩
   simp -implicitDefEqProofs only [KK,eq_self,↓reduceIte,reduceLT,reduceEqDiff,reduceCtorEq,e0,e1,e2,e3,e9,e10,wt,rd_n]
   exact ⟨m-1,by omega,t+1,i,T,h1,_,_,rfl,by omega,by omega,by omega,by omega,hS,hO,hA1,f1,rfl,rfl,rfl,rfl,rfl,rfl⟩
end
end
section
set_option maxHeartbeats 8000000
structure PdSt (lt:Cel→Cel→Prop) (L T:List Cel) (a b c d:Nat):Prop where
 l1:a≤c
 l2:c≤d
 l3:d≤b
 sh:Sh a b L T
 srt:Srt lt T a b c d
 pre:1≤c→∀ q,c≤q→q<d→lex lt T (c-1) q
section
variable {lt:Cel→Cel→Prop} {L T U:List Cel} {a b c d mid:Nat} {p:Cel}
theorem PdSt.stir (k:PdSt lt L T a b c d) (s:Sh c d T U):PdSt lt L U a b c d:=
 ⟨k.l1,k.l2,k.l3,k.sh.trans (s.mono k.l1 k.l3),k.srt.sh s ⟨k.l1,k.l3⟩,fun h1 q h2 h3 x y hx hy=>by
  obtain ⟨q',g1,g2,hy'⟩:=s.mem h2 h3 hy
  rw [s.out (c-1) (by omega)] at hx
  exact k.pre h1 q' g1 g2 x y hx hy'⟩
theorem PdSt.whole (k:PdSt lt L T a b c d) (s:Sh c d T U) (h:Srt lt U c d c c):Sh a b L U∧Srt lt U a b a a:=⟨(k.stir s).sh,(k.stir s).srt.fill h⟩
theorem Pft.left (k:Pft lt T mid c d p) (s:Sh c mid T U):Pft lt U mid c d p:=
 ⟨by rw [s.out mid (by omega)];exact k.at_,fun q x h1 h2 hx=>by
  obtain ⟨q',g1,g2,hx'⟩:=s.mem h1 h2 hx
  exact k.l q' x g1 g2 hx',fun q x h1 h2 hx=>by
  rw [s.out q (by omega)] at hx
  exact k.r q x h1 h2 hx⟩
theorem Pft.right (k:Pft lt T mid c d p) (s:Sh (mid+1) d T U):Pft lt U mid c d p:=
 ⟨by rw [s.out mid (by omega)];exact k.at_,fun q x h1 h2 hx=>by
  rw [s.out q (by omega)] at hx
  exact k.l q x h1 h2 hx,fun q x h1 h2 hx=>by
  obtain ⟨q',g1,g2,hx'⟩:=s.mem (by omega) h2 hx
  exact k.r q' x (by omega) g2 hx'⟩
theorem Pft.cross (o:SWO lt) (k:Pft lt T mid c d p) {i j:Nat} (h1:c≤i) (h2:i<j) (h3:j<d) (h:i≤mid∧mid≤j):lex lt T i j:=by
 intro x y hx hy
 by_cases e1:i=mid
 ·subst e1
  rw [k.at_] at hx
  obtain rfl:=Option.some.inj hx
  exact k.r j y (by omega) h3 hy
 ·have hxp:=k.l i x h1 (by omega) hx
  by_cases e2:j=mid
  ·subst e2
   rw [k.at_] at hy
   obtain rfl:=Option.some.inj hy
   exact o.asym hxp
  ·exact o.le (o.asym hxp) (k.r j y (by omega) h3 hy)
theorem PdSt.toL (o:SWO lt) (k:PdSt lt L T a b c d) (f:Pft lt T mid c d p) (hm:c≤mid∧mid<d) (h:Srt lt T c mid c c):PdSt lt L T a b (mid+1) d:=by
 have:=k.l1
 refine ⟨by omega,by omega,k.l3,k.sh,fun i j h1 h2 h3=>?_,fun _ q h1 h2=>f.cross o (by omega) (by omega) h2 (by omega)⟩
 rcases k.srt i j h1 h2 h3 with e|e
 ·by_cases e1:i≤mid
  ·by_cases e2:mid≤j
   ·exact .inr (f.cross o e.1 h2 e.2 ⟨e1,e2⟩)
   ·exact .inr ((h i j e.1 h2 (by omega)).resolve_left (by omega))
  ·exact .inl ⟨by omega,e.2⟩
 ·exact .inr e
theorem PdSt.toR (o:SWO lt) (k:PdSt lt L T a b c d) (f:Pft lt T mid c d p) (hm:c≤mid∧mid<d) (h:Srt lt T (mid+1) d (mid+1) (mid+1)):PdSt lt L T a b c mid:=by
 have:=k.l3
 refine ⟨k.l1,by omega,by omega,k.sh,fun i j h1 h2 h3=>?_,fun h0 q h1 h2=>k.pre h0 q h1 (by omega)⟩
 rcases k.srt i j h1 h2 h3 with e|e
 ·by_cases e1:mid≤j
  ·by_cases e2:i≤mid
   ·exact .inr (f.cross o e.1 h2 e.2 ⟨e2,e1⟩)
   ·exact .inr ((h i j (by omega) h2 e.2).resolve_left (by omega))
  ·exact .inl ⟨e.1,by omega⟩
 ·exact .inr e
theorem PdSt.eq (o:SWO lt) (k:PdSt lt L T a b c d) (s:Sh c d T U) {u:Cel} (hc:1≤c) (hu:T[c-1]? = some u) (hup:¬lt u p) (hm:c<mid∧mid≤d) (h1:∀ q x,c≤q→q<mid→U[q]? = some x→¬lt p x) (h2:∀ q x,mid≤q→q<d→U[q]? = some x→lt p x):PdSt lt L U a b mid d:=by
 have k2:=k.stir s
 have hu2:U[c-1]? = some u:=by rw [s.out (c-1) (by omega)];exact hu
 have hl1:=k.l1
 have low:∀ q x,c≤q→q<d→U[q]? = some x→¬lt x p:=fun q x g1 g2 hx=>o.le (x:=p) hup (k2.pre hc q g1 g2 u x hu2 hx)
 have key:∀ i j,c≤i→i<mid→i<j→j<d→lex lt U i j:=by
  intro i j g1 g2 g3 g4 x y hx hy
  exact o.le (h1 i x g1 g2 hx) (low j y (by omega) g4 hy)
 refine ⟨by omega,hm.2,k.l3,k2.sh,fun i j g1 g2 g3=>?_,fun _ q g1 g2=>key _ _ (by omega) (by omega) (by omega) g2⟩
 rcases k2.srt i j g1 g2 g3 with e|e
 ·by_cases e1:i<mid
  ·exact .inr (key i j e.1 e1 g2 e.2)
  ·exact .inl ⟨by omega,e.2⟩
 ·exact .inr e
end
section
variable {lt:Cel→Cel→Prop} {g:Nat} {d id tok:Nat} {rest:List (List CV)} {cap:Option Nat}
def PdIt (lt:Cel→Cel→Prop) (g:Nat) (h:Hp) (id tok:Nat) (rest:List (List CV)) (cap:Option Nat) (L:List Cel) (a b:Nat) (m:Nat) (s:St):Prop:=
 ∃ (a' b' lim:Nat) (wb wp:Bool) (T:List Cel) (h':Hp) (l:List (Nat × TV)) (lc:List (List CV)),s=ST 148 l lc h'∧m=b'-a'∧PdSt lt L T a b a' b'∧lim≤64∧Ar encE 5 h' id tok rest T∧Fm (fun j=>j=id) h h'∧
  lk l 0 = .v (.c (.sl id tok 0 L.length cap))∧lk l 1 = .v (.c (.int .i64 a'))∧lk l 2 = .v (.c (.int .i64 b'))∧lk l 3 = .v (.c (.int .i64 lim))∧lk l 4 = .v (.c (.fn g []))∧lk l 10 = .v (.c (.bool wb))∧lk l 11 = .v (.c (.bool wp))
theorem pdq_okt (o:SWO lt) (hc:CmpOkt lt g d):∀ (n F a b lim:Nat) (L:List Cel) (h:Hp) (P:AV→Hp→Prop),d+6+n≤F→Ar encE 5 h id tok rest L→a≤b→b≤L.length→b-a≤n→L.length≤255→lim≤64→
 (1≤a→∀ q,a≤q→q<b→lex lt L (a-1) q)→(∀ h' T,Sh a b L T→Srt lt T a b a a→Ar encE 5 h' id tok rest T→Fm (fun j=>j=id) h h'→P (.tup []) h')→
 callW N F 155 [.c (.sl id tok 0 L.length cap),.c (.int .i64 a),.c (.int .i64 b),.c (.int .i64 lim),.c (.fn g [])] h P:=by
 intro n
 induction n using Nat.strongRecOn with
 | ind n ih=>
 intro F a b lim L h P hF hA hab hb hbn hn hlim hpre hP
 obtain ⟨k,rfl⟩:∃ k,F=k+1:=⟨F-1,by omega⟩
 have henc:∀ x,(encE x).length=5:=fun _=>rfl
 have htk:∀ x,(encE x).take 5=encE x:=fun _=>rfl
 refine call_intro rfl (by simp only [List.length_cons,List.length_nil];omega) ?_
 simp -implicitDefEqProofs only [KK,eq_self,↓reduceIte,reduceLT,reduceEqDiff,reduceAdd,reduceCtorEq]
 refine loop_rd (callW_mono N _) (PdIt lt g h id tok rest cap L a b) (n:=b-a) ⟨a,b,lim,true,true,L,h,_,_,rfl,rfl,⟨Nat.le_refl _,hab,Nat.le_refl _,Sh.refl _ _ _,fun i j h1 h2 h3=>.inl ⟨h1,h3⟩,hpre⟩,hlim,hA,Fm.refl _ _,rfl,rfl,rfl,rfl,rfl,rfl,rfl⟩ ?_
 clear hA hlim hpre
 rintro m s ⟨a',b',lim,wb,wp,T,h1,l,lc,rfl,hm,hD,hlim,hA1,f1,e0,e1,e2,e3,e4,e10,e11⟩
 have hlen:=hD.sh.len
 have d1:=hD.l1
 have d2:=hD.l2
 have d3:=hD.l3
 have w0:IntKind.wrap .i64 ((b':Int)-(a':Int))=((b'-a':Nat):Int):=by rw [wrap_i64 (by omega)];omega
 by_cases c12:((b'-a':Nat):Int)≤12
 ·simp -implicitDefEqProofs only [KK,eq_self,↓reduceIte,reduceLT,reduceEqDiff,reduceCtorEq,e0,e1,e2,e3,e4,e10,e11,w0,c12]
  rw [←hlen]
  refine ins_okt o hc (by omega) hA1 d2 (by omega) (by omega) fun h2 T2 S2 O2 A2 f2=>?_
  rw [hlen]
  simp -implicitDefEqProofs only [KK]
  obtain ⟨k1,k2⟩:=hD.whole S2 O2
  exact hP h2 T2 k1 k2 A2 (f1.trans f2)
 by_cases cl:(lim:Int)=0
 ·have cl':decide ((lim:Int)=0)=true:=decide_eq_true cl
  simp -implicitDefEqProofs only [KK,eq_self,↓reduceIte,reduceLT,reduceEqDiff,reduceCtorEq,e0,e1,e2,e3,e4,e10,e11,w0,c12,cl']
  rw [←hlen]
  refine heap_okt o hc (by omega) hA1 (by omega) (by omega) (by omega) fun h2 T2 S2 O2 A2 f2=>?_
  rw [hlen]
  simp -implicitDefEqProofs only [KK]
  obtain ⟨k1,k2⟩:=hD.whole S2 O2
  exact hP h2 T2 k1 k2 A2 (f1.trans f2)
 obtain ⟨lim0,hl0⟩:∃ lim0,lim0=lim:=⟨_,rfl⟩
 cases wb
 case' false=>
  have wl:IntKind.wrap .i64 ((lim:Int)-1)=((lim-1:Nat):Int):=by rw [wrap_i64 (by omega)];omega
  simp -implicitDefEqProofs only [KK,eq_self,↓reduceIte,reduceLT,reduceEqDiff,reduceCtorEq,e0,e1,e2,e3,e4,e10,e11,w0,c12,cl]
  rw [←hlen]
  refine brk_okt (by omega) hA1 (by omega) (by omega) (by omega) fun h2 T S2 A2 f2=>?_
  rw [hlen]
  simp -implicitDefEqProofs only [KK,eq_self,↓reduceIte,reduceLT,reduceEqDiff,reduceCtorEq,wl]
  replace hD:=hD.stir S2
  replace hA1:=A2
  replace f1:=f1.trans f2
  replace hlen:=hD.sh.len
  clear wl S2 A2 f2
  replace hlim:lim-1≤64:=by omega
  clear hl0 cl lim0
  generalize lim-1=lim at hlim ⊢
  have lim0:Nat:=0
 case' true=>
  simp -implicitDefEqProofs only [KK,eq_self,↓reduceIte,reduceLT,reduceEqDiff,reduceCtorEq,e0,e1,e2,e3,e4,e10,e11,w0,c12,cl]
  clear hl0 cl
  clear lim0
  have lim0:Nat:=0
 all_goals
  rw [←hlen]
  refine piv_okt hc (by omega) hA1 (by omega) (by omega) (by omega) fun h2 pv hint p1 p2 f2=>?_
  rw [hlen]
  replace hA1:=hA1.mono f2 (fun e=>e)
  replace f1:=f1.trans (f2.mono (fun _ _ e=>e.elim))
  clear f2
  by_cases ch:hint=2
  case' pos=>
   have ch':decide (hint=2)=true:=decide_eq_true ch
   have v1:IntKind.wrap .i64 ((b':Int)-1)=((b'-1:Nat):Int):=by rw [wrap_i64 (by omega)];omega
   have v2:IntKind.wrap .i64 ((pv:Int)-(a':Int))=((pv-a':Nat):Int):=by rw [wrap_i64 (by omega)];omega
   have v3:IntKind.wrap .i64 (((b'-1:Nat):Int)-((pv-a':Nat):Int))=((b'-1-(pv-a'):Nat):Int):=by rw [wrap_i64 (by omega)];omega
   simp -implicitDefEqProofs only [KK,eq_self,↓reduceIte,reduceLT,reduceEqDiff,reduceCtorEq,ch']
   rw [←hlen]
   refine rev_okt (by omega) hA1 (by omega) (by omega) (by omega) fun h3 T S3 A3 f3=>?_
   rw [hlen]
   replace hD:=hD.stir S3
   replace hA1:=A3
   replace f1:=f1.trans f3
   replace hlen:=hD.sh.len
   clear A3 f3 S3
   replace p1:a'≤b'-1-(pv-a'):=by omega
   have p2':b'-1-(pv-a')<b':=by omega
   cases wp
   case' false=>simp -implicitDefEqProofs only [KK,eq_self,↓reduceIte,reduceLT,reduceEqDiff,reduceCtorEq,v1,v2,v3]
   case' true=>simp -implicitDefEqProofs only [KK,eq_self,↓reduceIte,reduceLT,reduceEqDiff,reduceCtorEq,v1,v2,v3]
   all_goals
    clear v1 v2 v3 p2
    generalize b'-1-(pv-a')=pv at p1 p2' ⊢
    have p2:=p2'
    clear p2'
  case' neg=>
   by_cases ch1:hint=1
   case' pos=>
    have ch1':decide (hint=1)=true:=decide_eq_true ch1
    cases wp
    case' false=>simp -implicitDefEqProofs only [KK,eq_self,↓reduceIte,reduceLT,reduceEqDiff,reduceCtorEq,ch]
    case' true=>simp -implicitDefEqProofs only [KK,eq_self,↓reduceIte,reduceLT,reduceEqDiff,reduceCtorEq,ch,ch1']
   case' neg=>
    cases wp
    case' false=>simp -implicitDefEqProofs only [KK,eq_self,↓reduceIte,reduceLT,reduceEqDiff,reduceCtorEq,ch]
    case' true=>simp -implicitDefEqProofs only [KK,eq_self,↓reduceIte,reduceLT,reduceEqDiff,reduceCtorEq,ch,ch1]
 any_goals first
  | (rw [←hlen]
     refine pins_okt o hc (by omega) hA1 (by omega) (by omega) (by omega) hD.pre fun h2 T r S2 O2 A2 f2=>?_
     rw [hlen]
     replace f1:=f1.trans f2
     cases r
     case true=>
      obtain ⟨k1,k2⟩:=hD.whole S2 (O2 rfl)
      simp -implicitDefEqProofs only [KK,eq_self,↓reduceIte,reduceLT,reduceEqDiff,reduceCtorEq]
      exact hP _ T k1 k2 A2 f1
     case' false=>
      simp -implicitDefEqProofs only [KK,eq_self,↓reduceIte,reduceLT,reduceEqDiff,reduceCtorEq]
      replace hD:=hD.stir S2
      replace hA1:=A2
      replace hlen:=hD.sh.len
      clear A2 f2 S2 O2)
  | skip
 all_goals
  by_cases ca:(0:Int)<(a':Int)
  case' pos=>
   obtain ⟨u,hu⟩:=some_at (L:=T) (i:=a'-1) (by omega)
   obtain ⟨w,hw⟩:=some_at (L:=T) (i:=pv) (by omega)
   have wa:IntKind.wrap .i64 ((a':Int)-1)=((a'-1:Nat):Int):=by rw [wrap_i64 (by omega)];omega
   have i1:=hA1.adr (n:=L.length) (m:=a'-1) (by omega) cap
   have i2:=hA1.adr (n:=L.length) (m:=pv) (by omega) cap
   have r1:=hA1.row hu
   have r2:=hA1.row hw
   skip
   simp -implicitDefEqProofs only [KK,eq_self,↓reduceIte,reduceLT,reduceEqDiff,reduceCtorEq,ca,wa,i1,i2,r1,r2,henc,htk]
   refine hc k u w _ _ (by omega) fun v hv=>?_
   by_cases c:lt u w
   case' neg=>
    have cv:¬v<0:=fun e=>c (hv.mp e)
    simp -implicitDefEqProofs only [KK,eq_self,↓reduceIte,reduceLT,reduceEqDiff,reduceCtorEq,cv]
    rw [←hlen]
    refine peq_okt o hc (by omega) hA1 ⟨p1,p2⟩ (by omega) (by omega) fun h2 T2 p m' S2 hp q1 q2 g1 g2 A2 f2=>?_
    rw [hlen]
    simp -implicitDefEqProofs only [KK,eq_self,↓reduceIte,reduceLT,reduceEqDiff,reduceCtorEq,rd_n]
    rw [hw] at hp
    obtain rfl:=Option.some.inj hp
    exact ⟨b'-m',by omega,m',b',lim,_,_,T2,h2,_,_,rfl,rfl,hD.eq o S2 (by omega) hu c ⟨q1,q2⟩ g1 g2,hlim,A2,f1.trans f2,rfl,rfl,rfl,rfl,rfl,rfl,rfl⟩
   case' pos=>
    have cv:=hv.mpr c
    simp -implicitDefEqProofs only [KK,eq_self,↓reduceIte,reduceLT,reduceEqDiff,reduceCtorEq,cv]
  case' neg=>simp -implicitDefEqProofs only [KK,eq_self,↓reduceIte,reduceLT,reduceEqDiff,reduceCtorEq,ca]
 all_goals
  rw [←hlen]
  refine prtn_okt hc (by omega) hA1 ⟨p1,p2⟩ (by omega) (by omega) fun h2 T2 p mid al S2 m1 m2 hf A2 f2=>?_
  rw [hlen]
  have hD2:=hD.stir S2
  have hlen2:=hD2.sh.len
  have wl:IntKind.wrap .i64 ((mid:Int)-(a':Int))=((mid-a':Nat):Int):=by rw [wrap_i64 (by omega)];omega
  have wr:IntKind.wrap .i64 ((b':Int)-(mid:Int))=((b'-mid:Nat):Int):=by rw [wrap_i64 (by omega)];omega
  have z8:¬((8:Int)=0):=by decide
  have w8:IntKind.wrap .i64 (((b'-a':Nat):Int).tdiv 8)=(((b'-a') / 8:Nat):Int):=by
   rw [Int.tdiv_eq_ediv_of_nonneg (by omega),wrap_i64 (by omega)];omega
  have wm:IntKind.wrap .i64 ((mid:Int)+1)=((mid+1:Nat):Int):=by rw [wrap_i64 (by omega)];omega
  by_cases cm:((mid-a':Nat):Int)<((b'-mid:Nat):Int)
  ·simp -implicitDefEqProofs only [KK,eq_self,↓reduceIte,reduceLT,reduceEqDiff,reduceCtorEq,wl,wr,w8,z8,cm]
   rw [←hlen2]
   refine ih (mid-a') (by omega) k a' mid lim T2 h2 _ (by omega) A2 m1 (by omega) (by omega) (by omega) hlim (fun g1 q g2 g3=>hD2.pre g1 q g2 (by omega)) fun h3 T3 S3 O3 A3 f3=>?_
   rw [hlen2]
   simp -implicitDefEqProofs only [KK,eq_self,↓reduceIte,reduceLT,reduceEqDiff,reduceCtorEq,wm,rd_n]
   exact ⟨b'-(mid+1),by omega,mid+1,b',lim,_,_,T3,h3,_,_,rfl,rfl,(hD2.stir (S3.mono (Nat.le_refl _) (by omega))).toL o (hf.left S3) ⟨m1,m2⟩ O3,hlim,A3,(f1.trans f2).trans f3,rfl,rfl,rfl,rfl,rfl,rfl,rfl⟩
  ·simp -implicitDefEqProofs only [KK,eq_self,↓reduceIte,reduceLT,reduceEqDiff,reduceCtorEq,wl,wr,w8,z8,cm,wm]
   rw [←hlen2]
   refine ih (b'-(mid+1)) (by omega) k (mid+1) b' lim T2 h2 _ (by omega) A2 (by omega) (by omega) (by omega) (by omega) hlim (fun g1 q g2 g3=>hf.cross o (by omega) (by omega) g3 (by omega)) fun h3 T3 S3 O3 A3 f3=>?_
   rw [hlen2]
   simp -implicitDefEqProofs only [KK,eq_self,↓reduceIte,reduceLT,reduceEqDiff,reduceCtorEq,rd_n]
   exact ⟨mid-a',by omega,a',mid,lim,_,_,T3,h3,_,_,rfl,rfl,(hD2.stir (S3.mono (by omega) (Nat.le_refl _))).toR o (hf.right S3) ⟨m1,m2⟩ O3,hlim,A3,(f1.trans f2).trans f3,rfl,rfl,rfl,rfl,rfl,rfl,rfl⟩
theorem sort_okt {F:Nat} {L:List Cel} {h:Hp} {P:AV→Hp→Prop} (o:SWO lt) (hc:CmpOkt lt g d) (hF:d+8+L.length≤F) (hA:Ar encE 5 h id tok rest L) (hn:L.length≤255)
 (hP:∀ h' T,T.Perm L→T.Pairwise (fun x y=>¬lt y x)→Ar encE 5 h' id tok rest T→Fm (fun j=>j=id) h h'→P (.tup []) h') :
 callW N F 151 [.c (.sl id tok 0 L.length cap),.c (.fn g [])] h P:=by
 obtain ⟨k,rfl⟩:∃ k,F=k+3:=⟨F-3,by omega⟩
 have wu:=wrap_u64 (n:=(L.length:Int)) (by omega)
 have hlen:lenT h .sl (.v (.c (.sl id tok 0 L.length cap)))=some (L.length:Int):=rfl
 refine call_intro rfl (by simp only [List.length_cons,List.length_nil];omega) ?_
 simp -implicitDefEqProofs only [KK,eq_self,↓reduceIte,reduceLT,reduceEqDiff,reduceAdd,reduceCtorEq,hlen,wu]
 refine lenv_ok (k:=k) (by omega) fun r _ _ hr=>?_
 simp -implicitDefEqProofs only [KK,eq_self,↓reduceIte,reduceLT,reduceEqDiff,reduceCtorEq]
 refine pdq_okt o hc L.length (k+2) 0 L.length r L h _ (by omega) hA (Nat.zero_le _) (Nat.le_refl _) (by omega) hn (by omega) (fun h1=>by omega) fun h' T S O A f=>?_
 simp -implicitDefEqProofs only [KK]
 refine hP h' T S.perm ?_ A f
 have:=S.len
 rw [←this] at O
 exact O.list
end
end
end Camp
