/- Parents: numbers, the comparison, the sorts of few. Parents: the sorts of few. Parents: the set: New, First, RankOf, All, Rank, lets. Parents: Hear. Parents: Old; awake; the law of the set that there is not. Parents: what stays true of a set; awake; the laws of nil, of the old ones. -/
import Derived.Test.YtjcbeikfobfjmaaGreatLawB
import Derived.Test.YtjcbeikfobfjmaaGreatCode
import Derived.Test.YtjcbeikfobfjmaaGreatUseB
set_option linter.unnecessarySimpa false
set_option linter.unusedVariables false
set_option linter.unusedSimpArgs false
set_option linter.unusedSectionVars false
namespace Camp
open Go
open Nat (reduceLT reduceEqDiff reduceAdd reduceLeDiff reduceSub reduceMul)
section
set_option maxHeartbeats 4000000
section
variable {k:Nat} {h:Hp} {P:AV→Hp→Prop}
def cmp3 (x y:Int):Int:=if x<y then -1 else if y<x then 1 else 0
theorem in_ok {n a b:Int} (hP:P (.c (.bool (decide (a≤n∧n≤b)))) h):callW N (k+1) 73 [.c (.int .i64 n),.c (.int .i64 a),.c (.int .i64 b)] h P:=by
 refine ci rfl ?_
 by_cases h1:a≤n
 ·by_cases h2:n≤b
  ·rw [decide_eq_true ⟨h1,h2⟩] at hP
   simp only [KK,↓reduceIte,reduceLT,reduceEqDiff,reduceAdd,reduceCtorEq,h1,h2]
   exact hP
  ·rw [decide_eq_false (by omega)] at hP
   simp only [KK,↓reduceIte,reduceLT,reduceEqDiff,reduceAdd,reduceCtorEq,h1,h2]
   exact hP
 ·rw [decide_eq_false (by omega)] at hP
  simp only [KK,↓reduceIte,reduceLT,reduceEqDiff,reduceAdd,reduceCtorEq,h1]
  exact hP
theorem nan_ok {x:Int} (hP:P (.c (.bool false)) h):callW N (k+1) 47 [.c (.int .i64 x)] h P:=by
 refine ci rfl ?_
 simp only [KK,↓reduceIte,reduceLT,reduceCtorEq]
 exact hP
theorem compare_ok {x y:Int} (hP:P (.c (.int .i64 (cmp3 x y))) h):callW N (k+2) 46 [.c (.int .i64 x),.c (.int .i64 y)] h P:=by
 refine ci rfl ?_
 simp only [KK,↓reduceIte,reduceLT,reduceEqDiff,reduceAdd,reduceCtorEq]
 refine nan_ok ?_
 simp only [KK,↓reduceIte,reduceLT,reduceEqDiff,reduceCtorEq]
 refine nan_ok ?_
 unfold cmp3 at hP
 by_cases c1:x<y
 ·rw [if_pos c1] at hP
  simp only [KK,↓reduceIte,reduceLT,reduceEqDiff,reduceCtorEq,c1]
  exact hP
 ·rw [if_neg c1] at hP
  by_cases c2:y<x
  ·rw [if_pos c2] at hP
   simp only [KK,↓reduceIte,reduceLT,reduceEqDiff,reduceCtorEq,c1,c2]
   exact hP
  ·rw [if_neg c2] at hP
   simp only [KK,↓reduceIte,reduceLT,reduceEqDiff,reduceCtorEq,c1,c2]
   exact hP
theorem less_ok {x y:Int} (hP:P (.c (.bool (decide (x<y)))) h):callW N (k+2) 93 [.c (.int .i64 x),.c (.int .i64 y)] h P:=by
 refine ci rfl ?_
 simp only [KK,↓reduceIte,reduceLT,reduceEqDiff,reduceAdd,reduceCtorEq]
 refine nan_ok ?_
 simp only [KK,↓reduceIte,reduceLT,reduceEqDiff,reduceCtorEq]
 exact hP
def or2 (a b:Int):Int:=if a=0 then b else a
theorem or_ok {a b:Int} {id:Nat} (hg:h.g id=some (.rows true 1 0 0 [[.int .i64 a],[.int .i64 b]])) (hP:P (.c (.int .i64 (or2 a b))) h):callW N (k+1) 86 [.c (.sl id 0 0 2 (some 2))] h P:=by
 have hl:SL h 1 (.sl id 0 0 2 (some 2)) [[.int .i64 a],[.int .i64 b]]:=⟨true,0,0,_,hg,Nat.le_refl _,Nat.le_refl _,rfl⟩
 have hlen:∀ h':Hp,lenT h' .sl (.v (.c (.sl id 0 0 2 (some 2))))=some (2:Int):=fun h'=>hl.len h'
 obtain ⟨p1,p2,p3,a1,a2⟩:=hl.at (i:=0) (by omega) rfl
 obtain ⟨q1,q2,q3,b1,b2⟩:=hl.at (i:=1) (by omega) rfl
 refine ci rfl ?_
 simp only [KK,↓reduceIte,reduceLT,reduceEqDiff,reduceCtorEq,hlen]
 refine loop_rd (callW_mono N _) (fun n s=>∃ (i:Nat) (l:List (Nat × TV)) (lc:List (List CV)),s=ST 18 l lc h∧i≤2∧n=2-i∧(0<i→a=0)∧(1<i→b=0)∧lk l 3 = .v (.c (.int .i64 0))∧lk l 6 = .v (.c (.sl id 0 0 2 (some 2)))∧lk l 7 = .v (.c (.int .i64 2))∧lk l 8 = .v (.c (.int .i64 i))) (n:=2) ⟨0,_,_,rfl,by omega,by omega,by omega,by omega,rfl,rfl,rfl,rfl⟩ ?_
 rintro n s ⟨i,l,lc,rfl,hi,hn,ha,hb,e3,e6,e7,e8⟩
 have w1:=wrap_i64 (n:=(0:Int)+1) (by omega)
 have w2:=wrap_i64 (n:=(1:Int)+1) (by omega)
 unfold or2 at hP
 have ci:i=0∨i=1∨i=2:=by omega
 rcases ci with rfl|rfl|rfl
 ·have e8':lk l 8 = .v (.c (.int .i64 0)):=e8
  have z:(0:Int)<2:=by omega
  by_cases c:a=0
  ·have d:decide (a=0)=true:=decide_eq_true c
   simp only [KK,↓reduceIte,reduceLT,reduceEqDiff,e3,e6,e7,e8',z,a1,a2,d,w1,rd_n]
   exact ⟨n-1,by omega,1,_,_,rfl,by omega,by omega,fun _=>c,by omega,rfl,rfl,rfl,rfl⟩
  ·rw [if_neg c] at hP
   simp only [KK,↓reduceIte,reduceLT,reduceEqDiff,e3,e6,e7,e8',z,a1,a2,c]
   exact hP
 ·have e8':lk l 8 = .v (.c (.int .i64 1)):=e8
  have z:(1:Int)<2:=by omega
  rw [if_pos (ha (by omega))] at hP
  by_cases c:b=0
  ·have d:decide (b=0)=true:=decide_eq_true c
   simp only [KK,↓reduceIte,reduceLT,reduceEqDiff,e3,e6,e7,e8',z,b1,b2,d,w2,rd_n]
   exact ⟨n-1,by omega,2,_,_,rfl,by omega,by omega,fun _=>ha (by omega),fun _=>c,rfl,rfl,rfl,rfl⟩
  ·simp only [KK,↓reduceIte,reduceLT,reduceEqDiff,e3,e6,e7,e8',z,b1,b2,c]
   exact hP
 ·have e8':lk l 8 = .v (.c (.int .i64 2)):=e8
  have z:¬((2:Int)<2):=by omega
  rw [if_pos (ha (by omega)),hb (by omega)] at hP
  simp only [KK,↓reduceIte,reduceLT,reduceEqDiff,e3,e6,e7,e8',z]
  exact hP
structure Pr where
 r:Int
 n:Int
 h:Int
deriving DecidableEq
def encP (p:Pr):List CV:=[.int .i64 p.r,.int .i64 p.n,.int .i64 p.h]
def byP (a b:Pr):Int:=or2 (cmp3 a.r b.r) (cmp3 a.n b.n)
def ltP (a b:Pr):Prop:=a.r<b.r∨(a.r=b.r∧a.n<b.n)
theorem byP_lt (a b:Pr):byP a b<0↔ltP a b:=by
 unfold byP or2 cmp3 ltP
 repeat' split
 all_goals omega
theorem by_ok {x y:Pr} (hP:∀ h',Fn h h'→P (.c (.int .i64 (byP x y))) h'):callW N (k+3) 79 [.agg (encP x),.agg (encP y)] h P:=by
 refine ci rfl ?_
 simp only [KK,↓reduceIte,reduceLT,reduceEqDiff,reduceAdd,reduceCtorEq,encP]
 refine compare_ok ?_
 simp only [KK,↓reduceIte,reduceLT,reduceEqDiff]
 refine compare_ok ?_
 simp only [KK,↓reduceIte,reduceLT,reduceEqDiff,reduceAdd,reduceLeDiff]
 refine or_ok (k:=k+1) (by rw [g_put_eq,dead_one];rfl) ?_
 simp only [KK,↓reduceIte,reduceLT]
 exact hP _ ((Fm.reserve _ _ _).putNew _ (Nat.le_refl _))
end
end
section
set_option maxHeartbeats 4000000
theorem ob_strAt {l:List UInt8} {i:Int} {P:CV→Prop} (hi:0≤i∧i<l.length) (hP:∀ c:UInt8,P (.int .u8 c.toNat)):ob (strAt (.v (.c (.str (bs l)))) i) P:=by
 have hil:i.toNat<l.length:=by omega
 refine ⟨.int .u8 (l[i.toNat]).toNat,?_,hP _⟩
 unfold strAt
 simp only
 rw [if_pos hi.1]
 show (l[i.toNat]?).map _=_
 rw [List.getElem?_eq_getElem hil]
 rfl
section
variable {k:Nat} {h:Hp} {P:AV→Hp→Prop}
set_option maxRecDepth 100000 in
theorem len64_ok {n:Int} (hn:0≤n∧n<256) (hP:∀ r,P (.c (.int .i64 r)) h):callW N (k+1) 97 [.c (.int .u64 n)] h P:=by
 have w1:IntKind.wrap .u8 n=n:=wrap_u8 (by omega)
 have z1:¬(4294967296≤n):=by omega
 have z2:¬(65536≤n):=by omega
 have z3:¬(256≤n):=by omega
 refine ci rfl ?_
 simp only [KK,↓reduceIte,reduceLT,reduceEqDiff,reduceCtorEq,w1,z1,z2,z3]
 refine ob_strAt ⟨hn.1,by simp only [List.length_cons,List.length_nil];omega⟩ fun c=>?_
 simp only [KK,↓reduceIte,reduceLT,reduceEqDiff]
 exact hP _
theorem len_ok {n:Int} (hn:0≤n∧n<256) (hP:∀ r,P (.c (.int .i64 r)) h):callW N (k+2) 82 [.c (.int .u64 n)] h P:=by
 refine ci rfl ?_
 simp only [KK,↓reduceIte,reduceLT,reduceCtorEq]
 refine len64_ok (k:=k) hn fun r=>?_
 simp only [KK,↓reduceIte,reduceLT]
 exact hP _
theorem pdqC_ok {v:CV} {n:Nat} {r:Int} {g:Nat} (hn:n≤12) (h1:∀ Q:AV→Hp→Prop,(∀ h',P (.tup []) h'→Q (.tup []) h')→callW N (k+4) 99 [.c v,.c (.int .i64 0),.c (.int .i64 n),.c (.fn g [])] h Q) :
 callW N (k+5) 85 [.c v,.c (.int .i64 0),.c (.int .i64 n),.c (.int .i64 r),.c (.fn g [])] h P:=by
 have w:=wrap_i64 (n:=(n:Int)) (by omega)
 have w0:(n:Int)-0=n:=by omega
 have z:(n:Int)≤12:=by omega
 refine ci rfl ?_
 simp only [KK,↓reduceIte,reduceLT,reduceEqDiff,reduceAdd,reduceCtorEq]
 refine loop_rd (callW_mono N _) (fun m s=>∃ (l:List (Nat × TV)) (lc:List (List CV)),s=ST 148 l lc h∧lk l 0 = .v (.c v)∧lk l 1 = .v (.c (.int .i64 0))∧lk l 2 = .v (.c (.int .i64 n))∧lk l 3 = .v (.c (.int .i64 r))∧lk l 4 = .v (.c (.fn g []))∧lk l 10 = .v (.c (.bool true))∧lk l 11 = .v (.c (.bool true))) (n:=0) ⟨_,_,rfl,rfl,rfl,rfl,rfl,rfl,rfl,rfl⟩ ?_
 rintro m s ⟨l,lc,rfl,e0,e1,e2,e3,e4,e10,e11⟩
 simp only [KK,↓reduceIte,reduceLT,reduceEqDiff,reduceCtorEq,e0,e1,e2,e3,e4,e10,e11,w,w0,z]
 refine h1 _ fun h' hp=>?_
 simp only [KK]
 exact hp
theorem pdqO_ok {v:CV} {n:Nat} {r:Int} (hn:n≤12) (h1:∀ Q:AV→Hp→Prop,(∀ h',P (.tup []) h'→Q (.tup []) h')→callW N (k+4) 87 [.c v,.c (.int .i64 0),.c (.int .i64 n)] h Q) :
 callW N (k+5) 83 [.c v,.c (.int .i64 0),.c (.int .i64 n),.c (.int .i64 r)] h P:=by
 have w:=wrap_i64 (n:=(n:Int)) (by omega)
 have w0:(n:Int)-0=n:=by omega
 have z:(n:Int)≤12:=by omega
 refine ci rfl ?_
 simp only [KK,↓reduceIte,reduceLT,reduceEqDiff,reduceAdd,reduceCtorEq]
 refine loop_rd (callW_mono N _) (fun m s=>∃ (l:List (Nat × TV)) (lc:List (List CV)),s=ST 134 l lc h∧lk l 0 = .v (.c v)∧lk l 1 = .v (.c (.int .i64 0))∧lk l 2 = .v (.c (.int .i64 n))∧lk l 3 = .v (.c (.int .i64 r))∧lk l 8 = .v (.c (.bool true))∧lk l 9 = .v (.c (.bool true))) (n:=0) ⟨_,_,rfl,rfl,rfl,rfl,rfl,rfl,rfl⟩ ?_
 rintro m s ⟨l,lc,rfl,e0,e1,e2,e3,e8,e9⟩
 simp only [KK,↓reduceIte,reduceLT,reduceEqDiff,reduceCtorEq,e0,e1,e2,e3,e8,e9,w,w0,z]
 refine h1 _ fun h' hp=>?_
 simp only [KK]
 exact hp
theorem ltP_trans (x y z:Pr) (h1:ltP x y) (h2:ltP y z):ltP x z:=by unfold ltP at *;omega
theorem sortP_ok {v:CV} {L:List Pr} (ho:Ow h 3 v (L.map encP)) (hn:L.length≤12) (hd:(L.map (·.n)).Nodup)
 (hP:∀ h' (T:List Pr),Ow h' 3 v (T.map encP)→T.Perm L→T.Pairwise ltP→Fm (ownId v) h h'→P (.tup []) h') :
 callW N (k+6) 78 [.c v,.c (.fn 79 [])] h P:=by
 have hlen:=ho.sl.lm
 have w:=wrap_u64 (n:=(L.length:Int)) (by omega)
 refine ci rfl ?_
 simp only [KK,↓reduceIte,reduceLT,reduceEqDiff,reduceAdd,reduceCtorEq,hlen,w]
 refine len_ok (k:=k+3) (by omega) fun r=>?_
 simp only [KK,↓reduceIte,reduceLT,reduceEqDiff,reduceCtorEq]
 refine pdqC_ok (k:=k) hn fun Q hQ=>?_
 have hnod:L.Nodup:=by
  have:=List.Pairwise.of_map (fun x:Pr=>x.n) (S:=fun x y=>x≠y) (R:=fun x y=>x≠y) (fun a b h e=>h (by rw [e])) hd
  exact this
 have fin:∀ T,ISort (fun x y=>byP x y<0) L T→T.Perm L∧T.Pairwise ltP:=by
  intro T hT
  refine ⟨hT.perm,?_⟩
  have:=hT.sorted (fun x y z h1 h2=>(byP_lt _ _).mpr (ltP_trans x y z ((byP_lt _ _).mp h1) ((byP_lt _ _).mp h2))) (fun x hx y hy hne=>by
   simp only [byP_lt]
   unfold ltP
   have:x.n≠y.n:=by
    intro e
    have hp:=List.pairwise_map.mp hd
    obtain ⟨i,hi⟩:=List.getElem?_of_mem hx
    obtain ⟨j,hj⟩:=List.getElem?_of_mem hy
    obtain ⟨hi1,hi2⟩:=List.getElem?_eq_some_iff.mp hi
    obtain ⟨hj1,hj2⟩:=List.getElem?_eq_some_iff.mp hj
    rcases Nat.lt_trichotomy i j with hl|hl|hl
    ·have:=List.pairwise_iff_getElem.mp hp i j hi1 hj1 hl
     rw [hi2,hj2] at this
     exact this e
    ·subst hl;exact hne (by rw [←hi2,←hj2])
    ·have:=List.pairwise_iff_getElem.mp hp j i hj1 hi1 hl
     rw [hi2,hj2] at this
     exact this e.symm
   omega) hnod
  exact this.imp fun h=>(byP_lt _ _).mp h
 cases v <;> simp only [Ow] at ho
 case nils=>
  have hL:L=[]:=by cases L with|nil=>rfl|cons a L=>simp at ho
  subst hL
  have w0:=wrap_i64 (n:=0+1) (by omega)
  have z:¬((0:Int)+1<0):=by omega
  refine call_intro (nt:=53) rfl (by simp only [List.length_cons,List.length_nil];omega) ?_
  simp only [KK,↓reduceIte,reduceLT,reduceEqDiff,reduceAdd,reduceCtorEq,w0]
  refine loop_rd (callW_mono N _) (fun n s=>∃ (l:List (Nat × TV)) (lc:List (List CV)),s=ST 53 l lc h∧lk l 0 = .v (.c .nils)∧lk l 1 = .v (.c (.int .i64 0))∧lk l 2 = .v (.c (.int .i64 0))∧lk l 3 = .v (.c (.fn 79 []))∧lk l 8 = .v (.c (.int .i64 (0+1)))) (n:=0) ⟨_,_,rfl,rfl,rfl,rfl,rfl,rfl⟩ ?_
  rintro m s ⟨l,lc,rfl,e0,e1,e2,e3,e8⟩
  simp only [KK,↓reduceIte,reduceLT,reduceEqDiff,reduceCtorEq,e0,e1,e2,e3,e8,z]
  refine hQ _ ?_
  simp only [KK]
  exact hP _ [] rfl (List.Perm.refl _) List.Pairwise.nil (Fm.refl _ _)
 case sl id tok off len cap=>
  obtain ⟨rfl,rfl,lw,rs,hg,hlw,hle,hrs⟩:=ho
  have hlen0:L.length=len:=by
   have:=congrArg List.length hrs
   rw [List.length_map,List.length_take] at this
   omega
  subst hlen0
  have hg':h.g id=some (.rows true 3 tok lw (L.map encP++rs.drop L.length)):=by rw [hg,hrs,List.take_append_drop]
  refine insertC_ok (k:=k+3) (f:=99) (sz:=3) (enc:=encP) (cmp:=byP) rfl (fun x=>rfl) (fun x y h' Q _ hq=>by_ok (k:=k) hq) hg' hlw (by omega) fun h' lw' T k1 k2 k3 k4=>?_
  obtain ⟨f1,f2⟩:=fin T k3
  refine hQ _ ?_
  simp only [KK]
  refine hP _ T ⟨rfl,rfl,lw',_,k1,k2,?_,?_⟩ f1 f2 k4
  ·rw [List.length_append,List.length_map,f1.length_eq];omega
  ·have hl3:(T.map encP).length=L.length:=by rw [List.length_map,f1.length_eq]
   rw [←hl3,List.take_left']
   rfl
end
end
section
set_option maxHeartbeats 4000000
section
variable {k:Nat} {h:Hp} {P:AV→Hp→Prop}
theorem sortI_ok {v:CV} {L:List Int} (ho:Ow h 1 v (L.map encI)) (hn:L.length≤12)
 (hP:∀ h' (T:List Int),Ow h' 1 v (T.map encI)→T.Perm L→(L.Nodup→T.Pairwise (· < ·))→Fm (ownId v) h h'→P (.tup []) h') :
 callW N (k+6) 74 [.c v] h P:=by
 have hlen:=ho.sl.lm
 have w:=wrap_u64 (n:=(L.length:Int)) (by omega)
 refine ci rfl ?_
 simp only [KK,↓reduceIte,reduceLT,reduceEqDiff,reduceCtorEq,hlen,w]
 refine len_ok (k:=k+3) (by omega) fun r=>?_
 simp only [KK,↓reduceIte,reduceLT,reduceEqDiff]
 refine pdqO_ok (k:=k) hn fun Q hQ=>?_
 cases v <;> simp only [Ow] at ho
 case nils=>
  have hL:L=[]:=by cases L with|nil=>rfl|cons a L=>simp at ho
  subst hL
  have w0:=wrap_i64 (n:=0+1) (by omega)
  have z:¬((0:Int)+1<0):=by omega
  refine call_intro (nt:=49) rfl (by simp only [List.length_cons,List.length_nil];omega) ?_
  simp only [KK,↓reduceIte,reduceLT,reduceEqDiff,reduceAdd,reduceCtorEq,w0]
  refine loop_rd (callW_mono N _) (fun n s=>∃ (l:List (Nat × TV)) (lc:List (List CV)),s=ST 49 l lc h∧lk l 0 = .v (.c .nils)∧lk l 1 = .v (.c (.int .i64 0))∧lk l 2 = .v (.c (.int .i64 0))∧lk l 6 = .v (.c (.int .i64 (0+1)))) (n:=0) ⟨_,_,rfl,rfl,rfl,rfl,rfl⟩ ?_
  rintro m s ⟨l,lc,rfl,e0,e1,e2,e8⟩
  simp only [KK,↓reduceIte,reduceLT,reduceEqDiff,reduceCtorEq,e0,e1,e2,e8,z]
  refine hQ _ ?_
  simp only [KK]
  exact hP _ [] rfl (List.Perm.refl _) (fun _=>List.Pairwise.nil) (Fm.refl _ _)
 case sl id tok off len cap=>
  obtain ⟨rfl,rfl,lw,rs,hg,hlw,hle,hrs⟩:=ho
  have hlen0:L.length=len:=by
   have:=congrArg List.length hrs
   rw [List.length_map,List.length_take] at this
   omega
  subst hlen0
  have hg':h.g id=some (.rows true 1 tok lw (L.map encI++rs.drop L.length)):=by rw [hg,hrs,List.take_append_drop]
  refine insertO_ok (k:=k+3) (f:=87) (ls:=93) rfl (fun x y h' Q hq=>less_ok (k:=k+1) hq) hg' hlw (by omega) fun h' lw' T k1 k2 k3 k4=>?_
  have f1:=k3.perm
  refine hQ _ ?_
  simp only [KK]
  refine hP _ T ⟨rfl,rfl,lw',_,k1,k2,?_,?_⟩ f1 (fun hnd=>ISort.sorted (lt:=fun x y:Int=>x<y) (fun x y z h1 h2=>Int.lt_trans h1 h2) k3 (fun x _ y _ hne=>show x<y∨y<x by omega) hnd) k4
  ·rw [List.length_append,List.length_map,f1.length_eq];omega
  ·have hl3:(T.map encI).length=L.length:=by rw [List.length_map,f1.length_eq]
   rw [←hl3,List.take_left']
   rfl
def PS (h:Hp) (s:Nat) (me rank:Int) (v:CV) (L:List Pr):Prop:=h.g s=some (.rows true 3 0 0 [[.int .i64 me,.int .i64 rank,v]])∧Ow h 3 v (L.map encP)∧¬ownId v s
theorem PS.new {s:Nat} {me rank:Int} {v:CV} {L:List Pr} {h':Hp} (k:PS h s me rank v L) (f:Fn h h'):PS h' s me rank v L:=⟨f.some k.1 (fun h=>h),k.2.1.new f,k.2.2⟩
theorem pnew_ok {m r:Int} (h1:0≤m∧m≤15→0≤r∧r≤255→∀ h' s,PS h' s m r .nils []→Fn h h'→h.n≤s→P (.c (.ptr s 0 0 0)) h') (h0:¬((0≤m∧m≤15)∧(0≤r∧r≤255))→P (.c .nilp) h):callW N (k+2) 53 [.c (.int .i64 m),.c (.int .i64 r)] h P:=by
 refine ci rfl ?_
 simp only [KK,↓reduceIte,reduceLT,reduceEqDiff,reduceAdd,reduceCtorEq]
 refine in_ok ?_
 by_cases c1:0≤m∧m≤15
 ·simp only [KK,↓reduceIte,reduceLT,reduceEqDiff,reduceCtorEq,c1]
  refine in_ok ?_
  by_cases c2:0≤r∧r≤255
  ·simp only [KK,↓reduceIte,reduceLT,reduceEqDiff,reduceAdd,reduceLeDiff,reduceCtorEq,c2]
   exact h1 c1 c2 _ h.n ⟨by rw [g_push_eq],rfl,fun h=>h⟩ (Fm.push _ _ _) (Nat.le_refl _)
  ·simp only [KK,↓reduceIte,reduceLT,reduceEqDiff,reduceCtorEq,c2]
   exact h0 (fun h=>c2 h.2)
 ·simp only [KK,↓reduceIte,reduceLT,reduceEqDiff,reduceCtorEq,c1]
  exact h0 (fun h=>c1 h.1)
variable {s:Nat} {me rank:Int} {v:CV} {L:List Pr}
theorem first_ok (hs:PS h s me rank v L) (hP:P (.tup [.c (.int .i64 ((L.head?.map (·.n)).getD 0)),.c (.bool L.head?.isSome)]) h):callW N (k+1) 60 [.c (.ptr s 0 0 0)] h P:=by
 obtain ⟨hg,ho,_⟩:=hs
 have hlen:=ho.sl.lm
 refine ci rfl ?_
 cases L with
 | nil=>
  have hlen':∀ h':Hp,lenT h' .sl (.v (.c v))=some (0:Int):=hlen
  have d:decide ((0:Int)=0)=true:=rfl
  simp only [KK,↓reduceIte,reduceLT,reduceEqDiff,reduceCtorEq,hg,hlen']
  exact hP
 | cons x L=>
  have d:¬(((x::L).length:Int)=0):=by simp only [List.length_cons];omega
  obtain ⟨p1,p2,p3,a1,a2⟩:=ho.sl.at (i:=0) (r:=encP x) (by omega) rfl
  rw [show encP x=[.int .i64 x.r,.int .i64 x.n,.int .i64 x.h] from rfl] at a2
  generalize (((x::L).length:Int))=len at *
  simp only [KK,↓reduceIte,reduceLT,reduceEqDiff,reduceCtorEq,hg,hlen,d,a1,a2]
  exact hP
def rankOf (L:List Pr) (node:Int):Option Int:=(L.find? fun x=>x.n == node).map (·.r)
def RkI (h:Hp) (v:CV) (node:Int) (L:List Pr) (n:Nat) (s:St):Prop:=
 ∃ (i:Nat) (l:List (Nat × TV)) (lc:List (List CV)),s=ST 26 l lc h∧i≤L.length∧n=L.length-i∧(L.take i).find? (fun x=>x.n == node)=none∧
  lk l 1 = .v (.c (.int .i64 node))∧lk l 13 = .v (.c v)∧lk l 14 = .v (.c (.int .i64 L.length))∧lk l 15 = .v (.c (.int .i64 i))
theorem rankOf_ok {node:Int} (hs:PS h s me rank v L) (hn:L.length≤1000) (hP:P (.tup [.c (.int .i64 ((rankOf L node).getD 0)),.c (.bool (rankOf L node).isSome)]) h):callW N (k+1) 62 [.c (.ptr s 0 0 0),.c (.int .i64 node)] h P:=by
 obtain ⟨hg,ho,_⟩:=hs
 have hlen:=ho.sl.lm
 refine ci rfl ?_
 simp only [KK,↓reduceIte,reduceLT,reduceEqDiff,reduceAdd,reduceCtorEq,hg,hlen]
 refine loop_rd (callW_mono N _) (RkI h v node L) (n:=L.length) ⟨0,_,_,rfl,by omega,by omega,rfl,rfl,rfl,rfl,rfl⟩ ?_
 rintro n s ⟨i,l,lc,rfl,hi,hn,hno,e1,e13,e14,e15⟩
 by_cases hlt:(i:Int)<L.length
 ·have hil:i<L.length:=by omega
  obtain ⟨x,hx⟩:∃ x,L[i]? = some x:=⟨_,List.getElem?_eq_getElem hil⟩
  have hr:(L.map encP)[(i:Int).toNat]? = some (encP x):=by simp [hx]
  obtain ⟨p1,p2,p3,a1,a2⟩:=ho.sl.at (by omega) hr
  rw [show encP x=[.int .i64 x.r,.int .i64 x.n,.int .i64 x.h] from rfl] at a2
  have hw:=wrap_i64 (n:=(i:Int)+1) (by omega)
  by_cases c:x.n=node
  ·have d:decide (x.n=node)=true:=decide_eq_true c
   simp only [KK,↓reduceIte,reduceLT,reduceEqDiff,reduceAdd,e1,e13,e14,e15,hlt,a1,a2,d]
   have:rankOf L node=some x.r:=by
    unfold rankOf
    rw [←List.take_append_drop i L,List.find?_append,hno,List.drop_eq_getElem_cons hil]
    rw [List.getElem?_eq_getElem hil] at hx
    injection hx with hx
    simp [hx,c]
   rw [this] at hP
   exact hP
  ·simp only [KK,↓reduceIte,reduceLT,reduceEqDiff,reduceAdd,e1,e13,e14,e15,hlt,a1,a2,c,hw,rd_n]
   refine ⟨n-1,by omega,i+1,_,_,rfl,by omega,by omega,?_,rfl,rfl,rfl,rfl⟩
   rw [take_snoc hx,List.find?_append,hno]
   simp [c]
 ·simp only [KK,↓reduceIte,reduceLT,reduceEqDiff,e1,e13,e14,e15,hlt]
  rw [List.take_of_length_le (by omega)] at hno
  unfold rankOf at hP
  rw [hno] at hP
  exact hP
theorem lets_ok {p:Pr→Bool} {g:Nat} {caps:List CV} (hs:PS h s me rank v L) (hn:L.length≤1000)
 (hc:∀ x h' (Q:AV→Hp→Prop),Fm (ownId v) h h'→(∀ h'',Fn h' h''→Q (.c (.bool (p x))) h'')→callW N (k+1) g (.agg (encP x)::caps.map .c) h' Q)
 (hc2:∀ x h' (Q:AV→Hp→Prop),Fn h h'→(∀ h'',Fn h' h''→Q (.c (.bool (p x))) h'')→callW N k g (.agg (encP x)::caps.map .c) h' Q)
 (hP:∀ h' v',PS h' s me rank v' (L.filter fun x=>!p x)→Fm (fun j=>j=s∨ownId v j) h h'→(∀ j,ownId v' j→ownId v j)→P (.tup []) h') :
 callW N (k+3) 76 [.c (.ptr s 0 0 0),.c (.fn g caps)] h P:=by
 obtain ⟨hg,ho,hne⟩:=hs
 refine ci rfl ?_
 simp only [KK,↓reduceIte,reduceLT,reduceEqDiff,reduceAdd,reduceCtorEq,hg]
 refine deleteF_ok (k:=k) (f:=84) (ix:=98) (sz:=3) (zero:=[.int .i64 0,.int .i64 0,.int .i64 0]) rfl rfl (fun x=>rfl) (by omega) rfl hc hc2 ho (by omega) fun h2 v2 k1 k2 k3=>?_
 have hg2:h2.g s=_:=k2.some hg hne
 simp only [KK,↓reduceIte,reduceLT,reduceEqDiff,reduceAdd,hg2]
 have f:Fm (fun j=>j=s) h2 (h2.put s (.rows true 3 0 0 [[.int .i64 me,.int .i64 rank,v2]])):=Fm.put _ _ rfl
 refine hP _ v2 ⟨by rw [g_put_eq,hg2];rfl,k1.mono f (fun j hj e=>?_),fun e=>hne (k3 _ e)⟩ ((k2.mono (fun j _ h=>.inr h)).trans (f.mono (fun j _ h=>.inl h))) k3
 exact hne (e▸k3 j hj)
end
end
section
set_option maxHeartbeats 4000000
instance (a b:Pr):Decidable (ltP a b):=inferInstanceAs (Decidable (_∨_))
theorem ltP_asymm {x y:Pr} (h1:ltP x y) (h2:ltP y x):False:=by unfold ltP at *;omega
theorem ltP_eq:∀ {L M:List Pr},L.Pairwise ltP→M.Pairwise ltP→(∀ x,x∈L↔x∈M)→L=M
 | [],[],_,_,_=>rfl
 | [],y::M,_,_,h=>by have:=(h y).mpr (by simp);cases this
 | x::L,[],_,_,h=>by have:=(h x).mp (by simp);cases this
 | x::L,y::M,hL,hM,h=>by
  rw [List.pairwise_cons] at hL hM
  have hxy:x=y:=by
   have h1:=(h x).mp (by simp)
   have h2:=(h y).mpr (by simp)
   rcases List.mem_cons.mp h1 with h1|h1
   ·exact h1
   rcases List.mem_cons.mp h2 with h2|h2
   ·exact h2.symm
   exact (ltP_asymm (hL.1 y h2) (hM.1 x h1)).elim
  subst hxy
  congr 1
  refine ltP_eq hL.2 hM.2 fun z=>?_
  have h1:=h z
  simp only [List.mem_cons] at h1
  constructor
  ·intro hz
   rcases h1.mp (.inr hz) with e|e
   ·subst e;exact (ltP_asymm (hL.1 z hz) (hL.1 z hz)).elim
   ·exact e
  ·intro hz
   rcases h1.mpr (.inr hz) with e|e
   ·subst e;exact (ltP_asymm (hM.1 z hz) (hM.1 z hz)).elim
   ·exact e
def keepN (L:List Pr) (node:Int):List Pr:=L.filter fun x=>!decide (x.n=node)
def insP (x:Pr) (L:List Pr):List Pr:=(L.filter fun y=>decide (ltP y x))++x::L.filter fun y=>!decide (ltP y x)
def hearL (rank:Int) (L:List Pr) (x:Pr):List Pr:=((insP x (keepN L x.n)).filter fun y=>!decide (min rank (x.r+1)≤y.r)).take 3
def mayP (me node r now:Int):Prop:=(0≤node∧node≤15)∧¬node=me∧(0≤r∧r≤255)∧¬now<0
instance (me node r now:Int):Decidable (mayP me node r now):=inferInstanceAs (Decidable (_∧_∧_∧_))
def hearS (me rank:Int) (L:List Pr) (node r now:Int):Int × List Pr × Bool:=
 if mayP me node r now then
  if rank≤r then (rank,keepN L node,false) else (min rank (r+1),hearL rank L ⟨r,node,now⟩,(rankOf (hearL rank L ⟨r,node,now⟩) node).isSome)
 else (rank,L,false)
structure Ivt (me rank:Int) (L:List Pr):Prop where
 lt:L.Pairwise ltP
 nd:(L.map (·.n)).Nodup
 len:L.length≤3
 mem:∀ x∈L,(0≤x.n∧x.n≤15)∧¬x.n=me∧0≤x.r∧x.r<rank∧0≤x.h
theorem insP_perm (x:Pr) (L:List Pr):(insP x L).Perm (L++[x]):=by
 unfold insP
 have h1:((L.filter fun y=>decide (ltP y x))++L.filter fun y=>!decide (ltP y x)).Perm L:=List.filter_append_perm _ _
 have h2:((L.filter fun y=>decide (ltP y x))++x::L.filter fun y=>!decide (ltP y x)).Perm (((L.filter fun y=>decide (ltP y x))++L.filter fun y=>!decide (ltP y x))++[x]):=by
  rw [List.append_assoc]
  exact List.Perm.append_left _ (List.perm_append_comm (l₁:=[x]))
 exact h2.trans (List.Perm.append_right [x] h1)
theorem insP_lt {x:Pr} {L:List Pr} (hL:L.Pairwise ltP) (hx:∀ y∈L,¬y.n=x.n):(insP x L).Pairwise ltP:=by
 unfold insP
 rw [List.pairwise_append,List.pairwise_cons]
 refine ⟨hL.filter _,⟨?_,hL.filter _⟩,?_⟩
 ·intro y hy
  rw [List.mem_filter] at hy
  have h1:=hx y hy.1
  have h2:¬ltP y x:=by simpa using hy.2
  unfold ltP at *
  omega
 ·intro a ha b hb
  rw [List.mem_filter] at ha
  have ha2:ltP a x:=by simpa using ha.2
  rcases List.mem_cons.mp hb with rfl|hb
  ·exact ha2
  ·rw [List.mem_filter] at hb
   have h1:=hx b hb.1
   have h2:¬ltP b x:=by simpa using hb.2
   unfold ltP at *
   omega
theorem keepN_sub (L:List Pr) (node:Int):(keepN L node).Sublist L:=List.filter_sublist
theorem keepN_ne {L:List Pr} {node:Int}:∀ y∈keepN L node,¬y.n=node:=by
 intro y hy
 have:=(List.mem_filter.mp hy).2
 simpa using this
theorem keepN_nd {L:List Pr} {x:Pr} (h:(L.map (·.n)).Nodup):((keepN L x.n++[x]).map (·.n)).Nodup:=by
 rw [List.map_append,List.nodup_append]
 refine ⟨h.sublist ((keepN_sub L x.n).map _),by simp,?_⟩
 intro a ha b hb
 simp at hb
 subst hb
 obtain ⟨y,hy,rfl⟩:=List.mem_map.mp ha
 exact keepN_ne y hy
theorem PS.set {h:Hp} {s:Nat} {me rank:Int} {v:CV} {L:List Pr} {R:List (List CV)} (hg:h.g s=some (.rows true 3 0 0 R)) (ho:Ow h 3 v (L.map encP)) (hne:¬ownId v s) :
 PS (h.put s (.rows true 3 0 0 [[.int .i64 me,.int .i64 rank,v]])) s me rank v L:=
 ⟨by rw [g_put_eq,hg];rfl,ho.mono (S:=fun j=>j=s) (Fm.put _ _ rfl) (fun j hj e=>hne (e▸hj)),hne⟩
theorem PS.mono {h h':Hp} {s:Nat} {me rank:Int} {v:CV} {L:List Pr} {S:Nat→Prop} (k:PS h s me rank v L) (f:Fm S h h') (h1:¬S s) (h2:∀ j,ownId v j→¬S j):PS h' s me rank v L:=⟨f.some k.1 h1,k.2.1.mono f h2,k.2.2⟩
section
variable {k:Nat} {h:Hp} {P:AV→Hp→Prop}
theorem hear1_ok {x:Pr} {b:Nat} {node:Int} (hg:h.g b=some (.rows true 1 0 0 [[.int .i64 node]])) (hP:P (.c (.bool (decide (x.n=node)))) h):callW N (k+1) 77 [.agg (encP x),.c (.ptr b 0 0 0)] h P:=by
 refine ci rfl ?_
 simp only [KK,↓reduceIte,reduceLT,reduceEqDiff,reduceAdd,reduceCtorEq,encP,hg]
 exact hP
theorem hear2_ok {x:Pr} {b s:Nat} {me rank:Int} {v:CV} (hg:h.g b=some (.rows true 1 0 0 [[.ptr s 0 0 0]])) (hs:h.g s=some (.rows true 3 0 0 [[.int .i64 me,.int .i64 rank,v]])) (hP:P (.c (.bool (decide (rank≤x.r)))) h):callW N (k+1) 80 [.agg (encP x),.c (.ptr b 0 0 0)] h P:=by
 refine ci rfl ?_
 simp only [KK,↓reduceIte,reduceLT,reduceEqDiff,reduceAdd,reduceCtorEq,encP,hg,hs]
 exact hP
theorem old1_ok {x:Pr} {b:Nat} {last:Int} (hg:h.g b=some (.rows true 1 0 0 [[.int .i64 last]])) (hP:P (.c (.bool (decide (x.h≤last)))) h):callW N (k+1) 75 [.agg (encP x),.c (.ptr b 0 0 0)] h P:=by
 refine ci rfl ?_
 simp only [KK,↓reduceIte,reduceLT,reduceEqDiff,reduceAdd,reduceCtorEq,encP,hg]
 exact hP
variable {s:Nat} {me rank:Int} {v:CV} {L:List Pr}
theorem hear_ok {node r now:Int} (hs:PS h s me rank v L) (hi:Ivt me rank L) (hr:0≤rank∧rank≤255)
 (hP:∀ h' v',PS h' s me (hearS me rank L node r now).1 v' (hearS me rank L node r now).2.1→Fm (fun j=>j=s∨ownId v j) h h'→(∀ j,ownId v' j→ownId v j∨h.n≤j)→P (.c (.bool (hearS me rank L node r now).2.2)) h') :
 callW N (k+7) 58 [.c (.ptr s 0 0 0),.c (.int .i64 node),.c (.int .i64 r),.c (.int .i64 now)] h P:=by
 have hsn:=lt_of_g hs.1
 obtain ⟨h2,hh2⟩:∃ h2,h2=(h.push (.rows true 1 0 0 [[.ptr s 0 0 0]])).push (.rows true 1 0 0 [[.int .i64 node]]):=⟨_,rfl⟩
 have hb1:h2.g h.n=some (.rows true 1 0 0 [[.ptr s 0 0 0]]):=by rw [hh2,g_push_ne _ _ (by rw [n_push];omega),g_push_eq]
 have hb2:h2.g (h.n+1)=some (.rows true 1 0 0 [[.int .i64 node]]):=by rw [hh2,←n_push h (.rows true 1 0 0 [[.ptr s 0 0 0]]),g_push_eq]
 have hf2:Fn h h2:=by rw [hh2];exact (Fm.push _ _ _).trans (Fm.push _ _ _)
 have hn2:h2.n=h.n+2:=by rw [hh2,n_push,n_push]
 have hs2:=hs.new hf2
 have hsg2:=hs2.1
 have hfold:=hh2.symm
 refine ci rfl ?_
 simp only [KK,↓reduceIte,reduceLT,reduceEqDiff,reduceAdd,reduceCtorEq,hfold,hb1,hb2]
 refine in_ok ?_
 have no:¬mayP me node r now→∀ h',h'=h2→P (.c (.bool false)) h':=by
  rintro hm h' rfl
  unfold hearS at hP
  rw [if_neg hm] at hP
  exact hP _ v hs2 (hf2.mono (fun _ _ h=>h.elim)) (fun j hj=>.inl hj)
 by_cases c1:0≤node∧node≤15
 ·by_cases c2:node=me
  ·have d:decide (node=me)=true:=decide_eq_true c2
   simp only [KK,↓reduceIte,reduceLT,reduceEqDiff,c1,hb1,hb2,hsg2,d]
   exact no (fun h=>h.2.1 c2) _ rfl
  ·simp only [KK,↓reduceIte,reduceLT,reduceEqDiff,c1,c2,hb1,hb2,hsg2]
   refine in_ok ?_
   by_cases c3:0≤r∧r≤255
   ·by_cases c4:now<0
    ·simp only [KK,↓reduceIte,reduceLT,reduceEqDiff,c3,c4]
     exact no (fun h=>h.2.2.2 c4) _ rfl
    ·simp only [KK,↓reduceIte,reduceLT,reduceEqDiff,c3,c4,hb1]
     have hm:mayP me node r now:=⟨c1,c2,c3,c4⟩
     have hvb:∀ j,ownId v j→j<h.n:=fun j hj=>hs.2.1.lt hj
     have hlen3:=hi.len
     refine lets_ok (k:=k+3) (p:=fun x=>decide (x.n=node)) hs2 (by omega) (fun x h' Q hf hq=>hear1_ok (hf.some hb2 (fun hj=>by have:=hvb _ hj;omega)) (hq _ (Fm.refl _ _)))
      (fun x h' Q hf hq=>hear1_ok (hf.some hb2 (fun hj=>hj)) (hq _ (Fm.refl _ _))) fun h3 v3 hs3 hf3 hid3=>?_
     have hb13:=hf3.some hb1 (fun hj=>by rcases hj with e|e;· omega
                                         ·have:=hvb _ e;omega)
     have hb23:=hf3.some hb2 (fun hj=>by rcases hj with e|e;· omega
                                         ·have:=hvb _ e;omega)
     have hsg3:=hs3.1
     have hf03:Fm (fun j=>j=s∨ownId v j) h h3:=(hf2.mono (fun _ _ h=>h.elim)).trans hf3
     by_cases c5:rank≤r
     ·simp only [KK,↓reduceIte,reduceLT,reduceEqDiff,hb13,hsg3,c5]
      unfold hearS at hP
      rw [if_pos hm,if_pos c5] at hP
      exact hP _ v3 hs3 hf03 (fun j hj=>.inl (hid3 j hj))
     ·have hf4:=Fm.reserve (fun _=>False) h3 1
      have hb14:=hf4.some hb13 (fun h=>h)
      have hb24:=hf4.some hb23 (fun h=>h)
      have hsg4:=hf4.some hsg3 (fun h=>h)
      obtain ⟨h5,hh5⟩:∃ h5,h5=(h3.reserve 1).put h3.n (.rows true 3 0 0 [[.int .i64 r,.int .i64 node,.int .i64 now]]):=⟨_,rfl⟩
      have hf5:Fn h3 h5:=by rw [hh5];exact hf4.putNew _ (Nat.le_refl _)
      have hg5:h5.g h3.n=some (.rows true 3 0 0 [[.int .i64 r,.int .i64 node,.int .i64 now]]):=by rw [hh5,g_put_eq,dead_one];rfl
      have hs5:=hs3.new hf5
      have hb15:=hf5.some hb13 (fun h=>h)
      have hb25:=hf5.some hb23 (fun h=>h)
      have hsl5:SL h5 3 (.sl h3.n 0 0 1 (some 1)) [[.int .i64 r,.int .i64 node,.int .i64 now]]:=⟨true,0,0,_,hg5,Nat.le_refl _,Nat.le_refl _,rfl⟩
      have hl4:(keepN L node).length≤3:=Nat.le_trans (List.filter_sublist).length_le hi.len
      have hs5o:Ow h5 3 v3 ((keepN L node).map encP):=hs5.2.1
      obtain ⟨v6,h6,f1,f2,f3,f4⟩:=hs5o.app (lc:=[]) (hsl5.read (lc:=[])) (by simp) (bytes:=24) (by simp [room];omega)
      have hvb3:∀ j,ownId v3 j→j<h.n:=fun j hj=>hvb j (hid3 j hj)
      have hn3:h.n+2≤h3.n:=by have:=hf3.n;omega
      have hb16:=f3.some hb15 (fun e=>by have:=hvb3 _ e;omega)
      have hb26:=f3.some hb25 (fun e=>by have:=hvb3 _ e;omega)
      have hsg6:=f3.some hs5.1 hs3.2.2
      have hfold5:=hh5.symm
      have hv6:∀ j,ownId v6 j→ownId v j∨h.n+2≤j:=fun j hj=>(f4 j hj).elim (fun e=>.inl (hid3 j e)) (fun e=>.inr (by have:=hf5.n;omega))
      have hv6s:¬ownId v6 s:=fun e=>(hv6 s e).elim hs.2.2 (fun e=>by omega)
      obtain ⟨h7,hh7⟩:∃ h7,h7=h6.put s (.rows true 3 0 0 [[.int .i64 me,.int .i64 rank,v6]]):=⟨_,rfl⟩
      have hs7:PS h7 s me rank v6 (keepN L node++[⟨r,node,now⟩]):=by rw [hh7];exact PS.set hsg6 (by simpa [encP] using f2) hv6s
      have hf7:Fm (fun j=>j=s) h6 h7:=by rw [hh7];exact Fm.put _ _ rfl
      have hb17:=hf7.some hb16 (fun e=>by omega)
      have hb27:=hf7.some hb26 (fun e=>by omega)
      have hf07:Fm (fun j=>j=s∨ownId v j) h h7:=((hf03.comp hf5 (fun _ _ h=>h.elim)).comp f3 (fun j _ hj=>.inr (hid3 j hj))).comp hf7 (fun j _ hj=>.inl hj)
      have hfold7:=hh7.symm
      have hsg7:=hs7.1
      simp only [KK,↓reduceIte,reduceLT,reduceEqDiff,reduceAdd,reduceLeDiff,hb13,hb14,hb24,hsg3,hsg4,c5,hfold5,f1,hb16,hsg6,hfold7,hb17,hsg7]
      refine sortP_ok (k:=k) hs7.2.1 (by rw [List.length_append,List.length_singleton];omega) (keepN_nd (x:=⟨r,node,now⟩) hi.nd) fun h8 T o8 pT ltT f8=>?_
      have hT:T=insP ⟨r,node,now⟩ (keepN L node):=by
       refine ltP_eq ltT (insP_lt (hi.lt.sublist (keepN_sub L node)) keepN_ne) fun x=>?_
       rw [pT.mem_iff,(insP_perm _ _).mem_iff]
      subst hT
      have hsg8:=f8.some hsg7 hv6s
      have hb18:=f8.some hb17 (fun e=>(hv6 _ e).elim (fun e=>by have:=hvb _ e;omega) (fun e=>by omega))
      have hb28:=f8.some hb27 (fun e=>(hv6 _ e).elim (fun e=>by have:=hvb _ e;omega) (fun e=>by omega))
      obtain ⟨h9,hh9⟩:∃ h9,h9=h8.put s (.rows true 3 0 0 [[.int .i64 me,.int .i64 (min rank (r+1)),v6]]):=⟨_,rfl⟩
      have hs9:PS h9 s me (min rank (r+1)) v6 (insP ⟨r,node,now⟩ (keepN L node)):=by rw [hh9];exact PS.set hsg8 o8 hv6s
      have hf9:Fm (fun j=>j=s) h8 h9:=by rw [hh9];exact Fm.put _ _ rfl
      have hb19:=hf9.some hb18 (fun e=>by omega)
      have hb29:=hf9.some hb28 (fun e=>by omega)
      have hf09:Fm (fun j=>j=s∨ownId v j) h h9:=(hf07.comp f8 (fun j hj e=>(hv6 j e).elim .inr (fun e=>by omega))).comp hf9 (fun j _ hj=>.inl hj)
      have hfold9:=hh9.symm
      have hsg9:=hs9.1
      have hw:=wrap_i64 (n:=r+1) (by omega)
      simp only [KK,↓reduceIte,reduceLT,reduceEqDiff,reduceAdd,reduceLeDiff,hb18,hsg8,hw,hfold9,hb19]
      have hil:(insP ⟨r,node,now⟩ (keepN L node)).length≤4:=by rw [(insP_perm _ _).length_eq,List.length_append,List.length_singleton];omega
      refine lets_ok (k:=k+3) (p:=fun x=>decide (min rank (r+1)≤x.r)) hs9 (by omega)
       (fun x h' Q hf hq=>hear2_ok (hf.some hb19 (fun e=>(hv6 _ e).elim (fun e=>by have:=hvb _ e;omega) (fun e=>by omega))) (hf.some hsg9 hv6s) (hq _ (Fm.refl _ _)))
       (fun x h' Q hf hq=>hear2_ok (hf.some hb19 (fun h=>h)) (hf.some hsg9 (fun h=>h)) (hq _ (Fm.refl _ _))) fun h10 v10 hs10 hf10 hid10=>?_
      have hb110:=hf10.some hb19 (fun e=>by rcases e with e|e;· omega
                                            ·exact (hv6 _ e).elim (fun e=>by have:=hvb _ e;omega) (fun e=>by omega))
      have hb210:=hf10.some hb29 (fun e=>by rcases e with e|e;· omega
                                            ·exact (hv6 _ e).elim (fun e=>by have:=hvb _ e;omega) (fun e=>by omega))
      have hf010:Fm (fun j=>j=s∨ownId v j) h h10:=hf09.comp hf10 (fun j hj e=>by
       rcases e with e|e
       ·exact .inl e
       ·exact (hv6 j e).elim .inr (fun e=>by omega))
      have hsg10:=hs10.1
      have hl10:((insP ⟨r,node,now⟩ (keepN L node)).filter fun x=>!decide (min rank (r+1)≤x.r)).length≤4:=Nat.le_trans (List.filter_sublist).length_le hil
      have hlen10:∀ h':Hp,lenT h' .sl (.v (.c v10))=some (((insP ⟨r,node,now⟩ (keepN L node)).filter fun x=>!decide (min rank (r+1)≤x.r)).length:Int):=fun h'=>by rw [hs10.2.1.sl.len h',List.length_map]
      unfold hearS at hP
      rw [if_pos hm,if_neg c5] at hP
      have fin:∀ h' v',PS h' s me (min rank (r+1)) v' (hearL rank L ⟨r,node,now⟩)→h'.g (h.n+1)=some (.rows true 1 0 0 [[.int .i64 node]])→Fm (fun j=>j=s∨ownId v10 j) h10 h'→(∀ j,ownId v' j→ownId v10 j)→h'.g h.n=some (.rows true 1 0 0 [[.ptr s 0 0 0]])→
       PS h' s me (min rank (r+1)) v' (hearL rank L ⟨r,node,now⟩)∧Fm (fun j=>j=s∨ownId v j) h h'∧(∀ j,ownId v' j→ownId v j∨h.n≤j):=by
       intro h' v' q1 q2 q3 q4 q5
       refine ⟨q1,hf010.comp q3 (fun j hj e=>?_),fun j hj=>?_⟩
       ·rcases e with e|e
        ·exact .inl e
        ·exact (hv6 j (hid10 j e)).elim .inr (fun e=>by omega)
       ·exact (hv6 j (hid10 j (q4 j hj))).elim .inl (fun e=>.inr (by omega))
      by_cases c6:3<(((insP ⟨r,node,now⟩ (keepN L node)).filter fun x=>!decide (min rank (r+1)≤x.r)).length:Int)
      ·obtain ⟨v11,p1,o11,id11⟩:=hs10.2.1.pre (m:=3) (by omega) (by rw [List.length_map];omega)
       have hL11:(((insP ⟨r,node,now⟩ (keepN L node)).filter fun x=>!decide (min rank (r+1)≤x.r)).map encP).take (3:Int).toNat=(hearL rank L ⟨r,node,now⟩).map encP:=by
        unfold hearL
        rw [List.map_take]
        rfl
       rw [hL11] at o11
       have hne11:¬ownId v11 s:=fun e=>hs10.2.2 ((id11 s).mp e)
       obtain ⟨h11,hh11⟩:∃ h11,h11=h10.put s (.rows true 3 0 0 [[.int .i64 me,.int .i64 (min rank (r+1)),v11]]):=⟨_,rfl⟩
       have hs11:PS h11 s me (min rank (r+1)) v11 (hearL rank L ⟨r,node,now⟩):=by rw [hh11];exact PS.set hsg10 o11 hne11
       have hf11:Fm (fun j=>j=s) h10 h11:=by rw [hh11];exact Fm.put _ _ rfl
       have hfold11:=hh11.symm
       have hb111:=hf11.some hb110 (fun e=>by omega)
       have hb211:=hf11.some hb210 (fun e=>by omega)
       have hl11:(hearL rank L ⟨r,node,now⟩).length≤3:=List.length_take_le _ _
       simp only [KK,↓reduceIte,reduceLT,reduceEqDiff,reduceAdd,hb110,hsg10,hlen10,c6,p1,hfold11,hb111,hb211]
       refine rankOf_ok (k:=k+5) hs11 (by omega) ?_
       simp only [KK,↓reduceIte,reduceLT,reduceEqDiff]
       obtain ⟨q1,q2,q3⟩:=fin h11 v11 hs11 hb211 (hf11.mono (fun j _ h=>.inl h)) (fun j hj=>(id11 j).mp hj) hb111
       exact hP _ _ q1 q2 q3
      ·have hL10:(insP ⟨r,node,now⟩ (keepN L node)).filter (fun x=>!decide (min rank (r+1)≤x.r))=hearL rank L ⟨r,node,now⟩:=by
        have h3:((insP ⟨r,node,now⟩ (keepN L node)).filter fun x=>!decide (min rank (r+1)≤x.r)).length≤3:=by omega
        exact (List.take_of_length_le h3).symm
       simp only [KK,↓reduceIte,reduceLT,reduceEqDiff,hb110,hb210,hsg10,hlen10,c6]
       rw [hL10] at hs10 hl10
       refine rankOf_ok (k:=k+5) hs10 (by omega) ?_
       simp only [KK,↓reduceIte,reduceLT,reduceEqDiff]
       obtain ⟨q1,q2,q3⟩:=fin h10 v10 hs10 hb210 (Fm.refl _ _) (fun j hj=>hj) hb110
       exact hP _ _ q1 q2 q3
   ·simp only [KK,↓reduceIte,reduceLT,reduceEqDiff,c3]
    exact no (fun h=>c3 h.2.2.1) _ rfl
 ·simp only [KK,↓reduceIte,reduceLT,reduceEqDiff,c1]
  exact no (fun h=>c1 h.1) _ rfl
end
end
section
set_option maxHeartbeats 4000000
def lastP (now loss:Int):Int:=now-max 1 loss
def goneP (L:List Pr) (now loss:Int):List Pr:=if now<0 then [] else L.filter fun x=>decide (x.h≤lastP now loss)
def keptP (L:List Pr) (now loss:Int):List Pr:=if now<0 then L else L.filter fun x=>!decide (x.h≤lastP now loss)
section
variable {k:Nat} {h:Hp} {P:AV→Hp→Prop} {s:Nat} {me rank:Int} {v:CV} {L:List Pr}
def OldI (h:Hp) (s b:Nat) (v:CV) (L:List Pr) (last:Int) (n:Nat) (st:St):Prop:=
 ∃ (i:Nat) (w:CV) (h':Hp) (l:List (Nat × TV)) (lc:List (List CV)),st=ST 46 l lc h'∧i≤L.length∧n=L.length-i∧Ow h' 1 w ((((L.take i).filter fun x=>decide (x.h≤last)).map (·.n)).map encI)∧Fn h h'∧(∀ j,ownId w j→h.n≤j)∧
  lk l 0 = .v (.c (.ptr s 0 0 0))∧lk l 7 = .v (.c w)∧lk l 8 = .v (.c (.ptr b 0 0 0))∧lk l 24 = .v (.c v)∧lk l 25 = .v (.c (.int .i64 L.length))∧lk l 26 = .v (.c (.int .i64 i))
theorem old_ok {now loss:Int} (hs:PS h s me rank v L) (hi:Ivt me rank L) (hnow:now≤9223372036854775807) (hloss:loss≤9223372036854775807)
 (hP:∀ h' v' w (T:List Int),PS h' s me rank v' (keptP L now loss)→SL h' 1 w (T.map encI)→T.Perm ((goneP L now loss).map (·.n))→T.Pairwise (· < ·)→Fm (fun j=>j=s∨ownId v j) h h'→(∀ j,ownId v' j→ownId v j∨h.n≤j)→(∀ j,ownId w j→h.n≤j)→P (.c w) h') :
 callW N (k+7) 56 [.c (.ptr s 0 0 0),.c (.int .i64 now),.c (.int .i64 loss)] h P:=by
 have hg:=hs.1
 have hsn:=lt_of_g hg
 refine ci rfl ?_
 by_cases c:now<0
 ·unfold keptP goneP at hP
  rw [if_pos c,if_pos c] at hP
  simp only [KK,↓reduceIte,reduceLT,reduceEqDiff,reduceAdd,reduceCtorEq,c]
  exact hP _ v .nils [] hs rfl (List.Perm.refl _) List.Pairwise.nil (Fm.refl _ _) (fun j hj=>.inl hj) (fun j hj=>hj.elim)
 ·unfold keptP goneP at hP
  rw [if_neg c,if_neg c] at hP
  have w1:=wrap_i64 (n:=now-max 1 loss) (by omega)
  have hlen:∀ h':Hp,lenT h' .sl (.v (.c v))=some (L.length:Int):=fun h'=>by rw [hs.2.1.sl.len h',List.length_map]
  obtain ⟨h2,hh2⟩:∃ h2,h2=(h.push (.rows true 1 0 0 [[.int .i64 0]])).put h.n (.rows true 1 0 0 [[.int .i64 (now-max 1 loss)]]):=⟨_,rfl⟩
  have hf2:Fn h h2:=by rw [hh2];exact (Fm.push _ _ _).putNew _ (Nat.le_refl _)
  have hb2:h2.g h.n=some (.rows true 1 0 0 [[.int .i64 (now-max 1 loss)]]):=by rw [hh2,g_put_eq,g_push_eq];rfl
  have hs2:=hs.new hf2
  have hsg2:=hs2.1
  have hfold2:=hh2.symm
  have hn2:h.n+1≤h2.n:=by rw [hh2,n_put,n_push];exact Nat.le_refl _
  simp only [KK,↓reduceIte,reduceLT,reduceEqDiff,reduceAdd,reduceCtorEq,c,w1,hfold2,hsg2,hlen]
  refine loop_rd (callW_mono N _) (OldI h2 s h.n v L (now-max 1 loss)) (n:=L.length) ⟨0,.nils,h2,_,_,rfl,by omega,by omega,rfl,Fm.refl _ _,fun _ h=>h.elim,rfl,rfl,rfl,rfl,rfl,rfl⟩ ?_
  rintro n st ⟨i,w,h3,l,lc,rfl,hi3,hn3,how,hf3,hid,e0,e7,e8,e24,e25,e26⟩
  have hs3:=hs2.new hf3
  have hb3:=hf3.some hb2 (fun h=>h)
  have hl3:=hi.len
  by_cases hlt:(i:Int)<L.length
  ·have hil:i<L.length:=by omega
   obtain ⟨x,hx⟩:∃ x,L[i]? = some x:=⟨_,List.getElem?_eq_getElem hil⟩
   have hr:(L.map encP)[(i:Int).toNat]? = some (encP x):=by simp [hx]
   obtain ⟨p1,p2,p3,a1,a2⟩:=hs3.2.1.sl.at (by omega) hr
   rw [show encP x=[.int .i64 x.r,.int .i64 x.n,.int .i64 x.h] from rfl] at a2
   have hw:=wrap_i64 (n:=(i:Int)+1) (by omega)
   by_cases c2:x.h≤now-max 1 loss
   ·have hl4:((L.take i).filter fun x=>decide (x.h≤now-max 1 loss)).length≤3:=Nat.le_trans (List.filter_sublist).length_le (by rw [List.length_take];omega)
    obtain ⟨v',h'',f1,f2,f3,f4⟩:=how.app (lc:=[[.int .i64 x.r,.int .i64 x.n,.int .i64 x.h],[.int .i64 x.n]]) (x:=.lsl 1 1) (xs:=[[.int .i64 x.n]]) rfl (by simp) (bytes:=8) (by simp [room];omega)
    simp only [KK,↓reduceIte,reduceLT,reduceEqDiff,reduceAdd,reduceCtorEq,e0,e7,e8,e24,e25,e26,hlt,a1,a2,hb3,c2,f1,hw,rd_n]
    refine ⟨n-1,by omega,i+1,v',h'',_,_,rfl,by omega,by omega,?_,hf3.fresh f3 hid,(fun j hj=>(f4 j hj).elim (hid j) (fun h=>Nat.le_trans hf3.n h)),rfl,rfl,rfl,rfl,rfl,rfl⟩
    rw [take_snoc hx,List.filter_append]
    simpa [encI,List.filter_cons,c2] using f2
   ·simp only [KK,↓reduceIte,reduceLT,reduceEqDiff,reduceAdd,reduceCtorEq,e0,e7,e8,e24,e25,e26,hlt,a1,a2,hb3,c2,hw,rd_n]
    refine ⟨n-1,by omega,i+1,w,h3,_,_,rfl,by omega,by omega,?_,hf3,hid,rfl,rfl,rfl,rfl,rfl,rfl⟩
    rw [take_snoc hx,List.filter_append]
    simpa [List.filter_cons,c2] using how
  ·simp only [KK,↓reduceIte,reduceLT,reduceEqDiff,reduceCtorEq,e0,e7,e8,e24,e25,e26,hlt]
   rw [List.take_of_length_le (by omega)] at how
   have hl4:(L.filter fun x=>decide (x.h≤now-max 1 loss)).length≤3:=Nat.le_trans (List.filter_sublist).length_le hl3
   refine sortI_ok (k:=k) how (by rw [List.length_map];omega) fun h4 T o4 pT sT f4=>?_
   have hvb:∀ j,ownId v j→j<h.n:=fun j hj=>hs.2.1.lt hj
   have hs4:PS h4 s me rank v L:=hs3.mono f4 (fun e=>by have:=hid _ e;omega) (fun j hj e=>by have:=hid _ e;have:=hvb _ hj;omega)
   have hb4:=f4.some hb3 (fun e=>by have:=hid _ e;omega)
   have hf04:Fn h h4:=(hf2.trans hf3).comp f4 (fun j hj e=>by have:=hid _ e;omega)
   simp only [KK,↓reduceIte,reduceLT,reduceEqDiff,reduceCtorEq]
   refine lets_ok (k:=k+3) (p:=fun x=>decide (x.h≤now-max 1 loss)) hs4 (by omega) (fun x h' Q hf hq=>old1_ok (hf.some hb4 (fun hj=>by have:=hvb _ hj;omega)) (hq _ (Fm.refl _ _)))
    (fun x h' Q hf hq=>old1_ok (hf.some hb4 (fun hj=>hj)) (hq _ (Fm.refl _ _))) fun h5 v5 hs5 hf5 hid5=>?_
   simp only [KK,↓reduceIte,reduceLT,reduceEqDiff,reduceCtorEq]
   refine hP _ v5 w T hs5 ?_ pT (sT ?_) ((hf04.mono (fun _ _ h=>h.elim)).trans hf5) (fun j hj=>.inl (hid5 j hj)) (fun j hj=>by have:=hid j hj;omega)
   ·refine o4.sl.mono hf5 ?_
    rintro id tok off len cap rfl e
    have:=hid id rfl
    rcases e with e|e
    ·omega
    ·have:=hvb _ e;omega
   ·exact hi.nd.sublist ((List.filter_sublist).map _)
end
end
section
set_option maxHeartbeats 4000000
theorem Ivt.sub {me rank:Int} {L M:List Pr} (h:Ivt me rank L) (hs:M.Sublist L):Ivt me rank M:=
 ⟨h.lt.sublist hs,h.nd.sublist (hs.map _),Nat.le_trans hs.length_le h.len,fun x hx=>h.mem x (hs.subset hx)⟩
theorem Ivt.nil (me rank:Int):Ivt me rank []:=⟨List.Pairwise.nil,by simp,by simp,by simp⟩
theorem Ivt.kept {me rank:Int} {L:List Pr} (h:Ivt me rank L) (now loss:Int):Ivt me rank (keptP L now loss):=by
 unfold keptP
 split
 ·exact h
 ·exact h.sub List.filter_sublist
theorem Ivt.hear {me rank:Int} {L:List Pr} (h:Ivt me rank L) (hr:0≤rank∧rank≤255) (node r now:Int) :
 Ivt me (hearS me rank L node r now).1 (hearS me rank L node r now).2.1∧(0≤(hearS me rank L node r now).1∧(hearS me rank L node r now).1≤rank):=by
 unfold hearS
 by_cases hm:mayP me node r now
 ·rw [if_pos hm]
  by_cases hk:rank≤r
  ·rw [if_pos hk]
   exact ⟨h.sub (keepN_sub L node),hr.1,Int.le_refl _⟩
  ·rw [if_neg hk]
   obtain ⟨m1,m2,m3,m4⟩:=hm
   have hl:(insP ⟨r,node,now⟩ (keepN L node)).Pairwise ltP:=insP_lt (h.lt.sublist (keepN_sub L node)) keepN_ne
   have hsub:(hearL rank L ⟨r,node,now⟩).Sublist (insP ⟨r,node,now⟩ (keepN L node)):=(List.take_sublist _ _).trans List.filter_sublist
   refine ⟨⟨hl.sublist hsub,?_,List.length_take_le _ _,?_⟩,?_,?_⟩
   ·have hnd:((insP ⟨r,node,now⟩ (keepN L node)).map (·.n)).Nodup:=((insP_perm ⟨r,node,now⟩ (keepN L node)).map (·.n)).nodup_iff.mpr (keepN_nd (x:=⟨r,node,now⟩) h.nd)
    exact hnd.sublist (hsub.map _)
   ·intro x hx
    have hx1:x∈(insP ⟨r,node,now⟩ (keepN L node)).filter fun y=>!decide (min rank (r+1)≤y.r):=List.mem_of_mem_take hx
    rw [List.mem_filter] at hx1
    have hx2:¬(min rank (r+1)≤x.r):=by simpa using hx1.2
    have hx3:=(insP_perm _ _).mem_iff.mp hx1.1
    rcases List.mem_append.mp hx3 with hx3|hx3
    ·have:=h.mem x ((keepN_sub L node).subset hx3)
     simp only
     omega
    ·simp at hx3
     subst hx3
     simp only at *
     omega
   ·simp only;omega
   ·simp only;omega
 ·rw [if_neg hm]
  exact ⟨h,hr.1,Int.le_refl _⟩
section
variable {k:Nat} {h:Hp} {P:AV→Hp→Prop} {s:Nat} {me rank:Int} {v:CV} {L:List Pr}
end
end
end Camp
