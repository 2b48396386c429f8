/- Sorting few numbers in a stable way; copies; turned about; a tree that is read. A tree that is read: ranks, whom one follows, order. Whom a node follows. A tree is built. The arguments; SameInts; ranks that fall: plain. Cells: May, node, alone, link, Clash. Cells: clashes, Clean. Cells: Clean. Cells: awake; the law of both ways. -/
import Derived.Test.YthmolhkfodhagaaLaw
import Derived.Test.YthmolhkfodhagaaLawB
import Derived.Test.YthmolhkfodhagaaCode
import Derived.Test.YthmolhkfodhagaaUseB
set_option linter.unnecessarySimpa false
set_option linter.unusedVariables false
set_option linter.unusedSimpArgs false
set_option linter.unusedSectionVars false
namespace Camp
open Go
open Nat (reduceLT reduceEqDiff reduceAdd reduceLeDiff reduceSub reduceMul)
section
set_option maxHeartbeats 4000000
section
variable {cmp:Int→Int→Int} {caps:List CV} {k g:Nat} {h:Hp} {P:AV→Hp→Prop}
def InsT (cmp:Int→Int→Int) (caps:List CV) (g:Nat) (h:Hp) (id tok:Nat) (n:Nat) (i:Nat) (x:Int) (S R:List Int) (rest:List (List CV)) (m:Nat) (s:St):Prop:=
 ∃ (A B:List Int) (lw:Nat) (h':Hp) (l:List (Nat × TV)) (lc:List (List CV)),s=ST 53 l lc h'∧m=A.length∧A++B=S∧(∀ y∈B,cmp x y<0)∧h'.g id=some (.rows true 1 tok lw ((A++x::(B++R)).map encI++rest))∧lw≤tok∧Fm (fun j=>j=id) h h'∧
  lk l 0 = .v (.c (.sl id tok 0 n none))∧lk l 1 = .v (.c (.int .i64 0))∧lk l 2 = .v (.c (.int .i64 n))∧lk l 3 = .v (.c (.fn g caps))∧lk l 8 = .v (.c (.int .i64 i))∧lk l 9 = .v (.c (.int .i64 A.length))
def OutT (cmp:Int→Int→Int) (caps:List CV) (g:Nat) (h:Hp) (id tok:Nat) (L:List Int) (rest:List (List CV)) (m:Nat) (s:St):Prop:=
 ∃ (i:Nat) (S:List Int) (lw:Nat) (h':Hp) (l:List (Nat × TV)) (lc:List (List CV)),s=ST 53 l lc h'∧1≤i∧(i=1∨i≤L.length)∧m=L.length-i∧ISort (fun x y=>cmp x y<0) (L.take i) S∧h'.g id=some (.rows true 1 tok lw ((S++L.drop i).map encI++rest))∧lw≤tok∧Fm (fun j=>j=id) h h'∧
  lk l 0 = .v (.c (.sl id tok 0 L.length none))∧lk l 1 = .v (.c (.int .i64 0))∧lk l 2 = .v (.c (.int .i64 L.length))∧lk l 3 = .v (.c (.fn g caps))∧lk l 8 = .v (.c (.int .i64 i))
theorem insertT_ok {id tok lw:Nat} {L:List Int} {rest:List (List CV)}
 (hc:∀ x y h' (Q:AV→Hp→Prop),Fm (fun j=>j=id) h h'→(∀ h'',Fn h' h''→Q (.c (.int .i64 (cmp x y))) h'')→callW N k g (.c (.int .i64 x)::.c (.int .i64 y)::caps.map .c) h' Q)
 (hg:h.g id=some (.rows true 1 tok lw (L.map encI++rest))) (hlw:lw≤tok) (hn:L.length≤1000000000)
 (hP:∀ h' lw' T,h'.g id=some (.rows true 1 tok lw' (T.map encI++rest))→lw'≤tok→ISort (fun x y=>cmp x y<0) L T→Fm (fun j=>j=id) h h'→P (.tup []) h') :
 callW N (k+1) 209 [.c (.sl id tok 0 L.length none),.c (.int .i64 0),.c (.int .i64 L.length),.c (.fn g caps)] h P:=by
 have w0:=wrap_i64 (n:=0+1) (by omega)
 refine call_intro rfl (by simp only [List.length_cons,List.length_nil];omega) ?_
 simp -implicitDefEqProofs only [KK,eq_self,↓reduceIte,reduceLT,reduceEqDiff,reduceAdd,reduceCtorEq,w0]
 refine loop_rd (callW_mono N _) (OutT cmp caps g h id tok L rest) (n:=L.length-1) ⟨1,L.take 1,lw,h,_,_,rfl,by omega,by omega,by omega,?_,?_,hlw,Fm.refl _ _,rfl,rfl,rfl,rfl,rfl⟩ ?_
 ·cases L with
  | nil=>exact ISort.nil
  | cons a L=>exact ISort.snoc (L:=[]) ISort.nil ⟨[],[],rfl,rfl,by simp,by simp⟩
 ·rw [List.take_append_drop];exact hg
 rintro m s ⟨i,S,lw1,h1,l,lc,rfl,hi1,hi2,hm,hs,hg1,hlw1,hfm,e0,e1,e2,e3,e8⟩
 by_cases hlt:(i:Int)<L.length
 ·have hil:i<L.length:=by omega
  obtain ⟨x,hx⟩:∃ x,L[i]? = some x:=⟨_,List.getElem?_eq_getElem hil⟩
  have hdrp:L.drop i=x::L.drop (i+1):=by
   rw [List.drop_eq_getElem_cons hil]
   rw [List.getElem?_eq_getElem hil] at hx
   injection hx with hx
   rw [hx]
  have hSl:S.length=i:=by rw [hs.perm.length_eq,List.length_take];omega
  simp -implicitDefEqProofs only [KK,eq_self,↓reduceIte,reduceLT,reduceEqDiff,reduceCtorEq,e0,e1,e2,e3,e8,hlt]
  refine loop_rd (callW_mono N _) (InsT cmp caps g h id tok L.length i x S (L.drop (i+1)) rest) (n:=i) ⟨S,[],lw1,h1,_,_,rfl,hSl.symm,List.append_nil _,by simp,?_,hlw1,hfm,rfl,rfl,rfl,rfl,rfl,by rw [hSl];rfl⟩ ?_
  ·rw [List.nil_append,←hdrp];exact hg1
  clear e0 e1 e2 e3 e8 hg1 hlw1 hfm
  rintro m2 s ⟨A,B,lw2,h2,l,lc,rfl,hm2,hAB,hB,hg2,hlw2,hfm2,e0,e1,e2,e3,e8,e9⟩
  have w1:=wrap_i64 (n:=(i:Int)+1) (by omega)
  have out:(∀ A' y,A=A'++[y]→¬cmp x y<0)→∀ h3,Fn h2 h3→∀ (l:List (Nat × TV)) lc,lk l 0 = .v (.c (.sl id tok 0 L.length none))→lk l 1 = .v (.c (.int .i64 0))→lk l 2 = .v (.c (.int .i64 L.length))→lk l 3 = .v (.c (.fn g caps))→lk l 8 = .v (.c (.int .i64 ((i:Int)+1)))→
   ∃ m',m'<m∧OutT cmp caps g h id tok L rest m' (ST 53 l lc h3):=by
   intro hA h3 hf3 l lc k0 k1 k2 k3 k8
   refine ⟨m-1,by omega,i+1,A++x::B,lw2,h3,l,lc,rfl,by omega,by omega,by omega,?_,?_,hlw2,hfm2.trans (hf3.mono (fun _ _ h=>h.elim)),k0,k1,k2,k3,by rw [k8];rfl⟩
   ·rw [take_snoc hx]
    exact ISort.snoc hs ⟨A,B,hAB.symm,rfl,hB,hA⟩
   ·rw [show (A++x::B)++L.drop (i+1)=A++x::(B++L.drop (i+1)) by simp]
    exact hf3.some hg2 (fun h=>h)
  have hABl:A.length+B.length=i:=by rw [←List.length_append,hAB,hSl]
  rcases List.eq_nil_or_concat A with hA|⟨A',y,hA⟩
  ·subst hA
   have z:¬((0:Int)<((0:Nat):Int)):=by omega
   simp -implicitDefEqProofs only [KK,eq_self,↓reduceIte,reduceLT,reduceEqDiff,reduceCtorEq,e0,e1,e2,e3,e8,e9,w1,rd_n,z]
   exact out (by simp) h2 (Fm.refl _ _) _ _ rfl rfl rfl rfl rfl
  ·rw [List.concat_eq_append] at hA
   subst hA
   have e9':lk l 9 = .v (.c (.int .i64 ((A'.length:Int)+1))):=by rw [e9];simp
   rw [List.length_append,List.length_singleton] at hABl
   have hg3:h2.g id=some (.rows true 1 tok lw2 ((A'++y::x::(B++L.drop (i+1))).map encI++rest)):=by rw [hg2];simp
   have hll:A'.length+1<L.length:=by omega
   have z:(0:Int)<(A'.length:Int)+1:=by omega
   have s1:(A'.length:Int)+1-1=A'.length:=by omega
   have w2:=wrap_i64 (n:=(A'.length:Int)) (by omega)
   have t1:((A'.length:Int)+1).toNat=A'.length+1:=by omega
   have t2:(A'.length:Int).toNat=A'.length:=by omega
   have r1:((A'++y::x::(B++L.drop (i+1))).map encI++rest)[A'.length+1]? = some ([.int .i64 x]):=by
    have:=get_midE encI (A'++[y]) x (B++L.drop (i+1)) rest
    simpa [encI] using this
   have r2:((A'++y::x::(B++L.drop (i+1))).map encI++rest)[A'.length]? = some [.int .i64 y]:=get_midE encI A' y (x::(B++L.drop (i+1))) rest
   have s2:((A'++y::x::(B++L.drop (i+1))).map encI++rest).set (A'.length+1) ([.int .i64 y])=(A'++y::y::(B++L.drop (i+1))).map encI++rest:=by
    have:=set_midE encI (A'++[y]) x y (B++L.drop (i+1)) rest
    simpa [encI] using this
   have s3:((A'++y::y::(B++L.drop (i+1))).map encI++rest).set A'.length [.int .i64 x] = (A'++x::y::(B++L.drop (i+1))).map encI++rest:=set_midE encI A' y x (y::(B++L.drop (i+1))) rest
   have r3:((A'++y::y::(B++L.drop (i+1))).map encI++rest)[A'.length]? = some [.int .i64 y]:=get_midE encI A' y (y::(B++L.drop (i+1))) rest
   generalize hR1:(A'++y::x::(B++L.drop (i+1))).map encI++rest=R1 at *
   generalize hR2:(A'++y::y::(B++L.drop (i+1))).map encI++rest=R2 at *
   have i1:=iaS (n:=L.length) (i:=(A'.length:Int)+1) hg3 hlw2 (by omega) none
   have i2:=iaS (n:=L.length) (i:=(A'.length:Int)) hg3 hlw2 (by omega) none
   have hlw3:lw2≤tok:=hlw2
   simp -implicitDefEqProofs only [KK,eq_self,↓reduceIte,reduceLT,reduceEqDiff,reduceCtorEq,e0,e1,e2,e3,e8,e9',z,i1,i2,t1,t2,s1,w2,hg3,hlw3,r1,r2]
   refine hc x y _ _ hfm2 fun h3 hf3=>?_
   have hg4:h3.g id=some (.rows true 1 tok lw2 R1):=hf3.some hg3 (fun h=>h)
   have i1':=iaS (n:=L.length) (i:=(A'.length:Int)+1) hg4 hlw2 (by omega) none
   have i2':=iaS (n:=L.length) (i:=(A'.length:Int)) hg4 hlw2 (by omega) none
   by_cases c:cmp x y<0
   ·have hgP:(h3.put id (.rows true 1 tok tok R2)).g id=some (.rows true 1 tok tok R2):=by rw [g_put_eq,hg4];rfl
    have i3:=iaS (n:=L.length) (i:=(A'.length:Int)) hgP (Nat.le_refl _) (by omega) none
    simp -implicitDefEqProofs only [KK,eq_self,↓reduceIte,reduceLT,reduceEqDiff,reduceCtorEq,c,i1',i2',i3,t1,t2,s1,s2,s3,w2,hg4,hgP,hlw3,r1,r2,r3,rd_n]
    refine ⟨A'.length,by rw [hm2];simp,A',y::B,tok,_,_,_,rfl,rfl,by rw [←hAB];simp,?_,?_,Nat.le_refl _,((hfm2.trans (hf3.mono (fun _ _ h=>h.elim))).trans (Fm.put _ _ rfl)).trans (Fm.put _ _ rfl),rfl,rfl,rfl,rfl,rfl,rfl⟩
    ·intro z hz
     rcases List.mem_cons.mp hz with rfl|hz
     ·exact c
     ·exact hB z hz
    ·rw [g_put_eq,hgP];rfl
   ·simp -implicitDefEqProofs only [KK,eq_self,↓reduceIte,reduceLT,reduceEqDiff,reduceCtorEq,c,w1,rd_n]
    refine out ?_ h3 hf3 _ _ rfl rfl rfl rfl rfl
    intro A2 y2 hA2
    have:=List.append_inj_right' hA2 rfl
    injection this with this
    rw [←this]
    exact c
 ·simp -implicitDefEqProofs only [KK,eq_self,↓reduceIte,reduceLT,reduceEqDiff,reduceCtorEq,e0,e1,e2,e3,e8,hlt]
  refine hP _ _ S ?_ hlw1 ?_ hfm
  ·rw [List.drop_of_length_le (by omega),List.append_nil] at hg1
   exact hg1
  ·rw [List.take_of_length_le (by omega)] at hs
   exact hs
theorem insort_nil {v:CV} (hP:P (.tup []) h):callW N (k+1) 209 [.c v,.c (.int .i64 0),.c (.int .i64 0),.c (.fn g caps)] h P:=by
 have w0:=wrap_i64 (n:=0+1) (by omega)
 have z:¬((0:Int)+1<0):=by omega
 refine call_intro rfl (by simp only [List.length_cons,List.length_nil];omega) ?_
 simp -implicitDefEqProofs only [KK,eq_self,↓reduceIte,reduceLT,reduceEqDiff,reduceAdd,reduceCtorEq,w0]
 refine loop_rd (callW_mono N _) (fun n s=>∃ (l:List (Nat × TV)) (lc:List (List CV)),s=ST 53 l lc h∧lk l 0 = .v (.c v)∧lk l 1 = .v (.c (.int .i64 0))∧lk l 2 = .v (.c (.int .i64 0))∧lk l 3 = .v (.c (.fn g caps))∧lk l 8 = .v (.c (.int .i64 (0+1)))) (n:=0) ⟨_,_,rfl,rfl,rfl,rfl,rfl,rfl⟩ ?_
 rintro m s ⟨l,lc,rfl,e0,e1,e2,e3,e8⟩
 simp -implicitDefEqProofs only [KK,eq_self,↓reduceIte,reduceLT,reduceEqDiff,reduceCtorEq,e0,e1,e2,e3,e8,z]
 exact hP
theorem stable_ok {v:CV} {n:Nat} (hn:n<20) (h1:∀ Q:AV→Hp→Prop,(∀ h',P (.tup []) h'→Q (.tup []) h')→callW N (k+1) 209 [.c v,.c (.int .i64 0),.c (.int .i64 n),.c (.fn g caps)] h Q) :
 callW N (k+2) 208 [.c v,.c (.int .i64 n),.c (.fn g caps)] h P:=by
 have z:¬((20:Int)≤n):=by omega
 have z2:¬((20:Int)<n):=by omega
 refine call_intro rfl (by simp only [List.length_cons,List.length_nil];omega) ?_
 simp -implicitDefEqProofs only [KK,eq_self,↓reduceIte,reduceLT,reduceEqDiff,reduceAdd,reduceCtorEq]
 refine loop_rd (callW_mono N _) (fun m s=>∃ (l:List (Nat × TV)) (lc:List (List CV)),s=ST 63 l lc h∧lk l 0 = .v (.c v)∧lk l 1 = .v (.c (.int .i64 n))∧lk l 2 = .v (.c (.fn g caps))∧lk l 6 = .v (.c (.int .i64 20))∧lk l 7 = .v (.c (.int .i64 0))∧lk l 8 = .v (.c (.int .i64 20))) (n:=0) ⟨_,_,rfl,rfl,rfl,rfl,rfl,rfl,rfl⟩ ?_
 rintro m s ⟨l,lc,rfl,e0,e1,e2,e6,e7,e8⟩
 simp -implicitDefEqProofs only [KK,eq_self,↓reduceIte,reduceLT,reduceEqDiff,reduceCtorEq,e0,e1,e2,e6,e7,e8,z]
 refine h1 _ fun h' hp=>?_
 simp -implicitDefEqProofs only [KK,eq_self,↓reduceIte,reduceLT,reduceEqDiff,reduceCtorEq]
 refine loop_rd (callW_mono N _) (fun m s=>∃ (l:List (Nat × TV)) (lc:List (List CV)),s=ST 63 l lc h'∧lk l 0 = .v (.c v)∧lk l 1 = .v (.c (.int .i64 n))∧lk l 2 = .v (.c (.fn g caps))∧lk l 6 = .v (.c (.int .i64 20))) (n:=0) ⟨_,_,rfl,rfl,rfl,rfl,rfl⟩ ?_
 clear e0 e1 e2 e6 e7 e8
 rintro m s ⟨l,lc,rfl,e0,e1,e2,e6⟩
 simp -implicitDefEqProofs only [KK,eq_self,↓reduceIte,reduceLT,reduceEqDiff,reduceCtorEq,e0,e1,e2,e6,z2]
 exact hp
end
section
variable {k:Nat} {h:Hp} {P:AV→Hp→Prop}
def cmp3 (x y:Int):Int:=if x<y then -1 else if y<x then 1 else 0
theorem nan_ok {x:Int} (hP:P (.c (.bool false)) h):callW N (k+1) 47 [.c (.int .i64 x)] h P:=by
 refine call_intro rfl (by simp only [List.length_cons,List.length_nil];omega) ?_
 simp -implicitDefEqProofs only [KK,eq_self,↓reduceIte,reduceLT,reduceCtorEq]
 exact hP
theorem compare_ok {x y:Int} (hP:P (.c (.int .i64 (cmp3 x y))) h):callW N (k+2) 46 [.c (.int .i64 x),.c (.int .i64 y)] h P:=by
 refine call_intro rfl (by simp only [List.length_cons,List.length_nil];omega) ?_
 simp -implicitDefEqProofs only [KK,eq_self,↓reduceIte,reduceLT,reduceEqDiff,reduceAdd,reduceCtorEq]
 refine nan_ok ?_
 simp -implicitDefEqProofs only [KK,eq_self,↓reduceIte,reduceLT,reduceEqDiff,reduceCtorEq]
 refine nan_ok ?_
 unfold cmp3 at hP
 by_cases c1:x<y
 ·rw [if_pos c1] at hP
  simp -implicitDefEqProofs only [KK,eq_self,↓reduceIte,reduceLT,reduceEqDiff,reduceCtorEq,c1]
  exact hP
 ·rw [if_neg c1] at hP
  by_cases c2:y<x
  ·rw [if_pos c2] at hP
   simp -implicitDefEqProofs only [KK,eq_self,↓reduceIte,reduceLT,reduceEqDiff,reduceCtorEq,c1,c2]
   exact hP
  ·rw [if_neg c2] at hP
   simp -implicitDefEqProofs only [KK,eq_self,↓reduceIte,reduceLT,reduceEqDiff,reduceCtorEq,c1,c2]
   exact hP
theorem less_ok {x y:Int} (hP:P (.c (.bool (decide (x<y)))) h):callW N (k+2) 93 [.c (.int .i64 x),.c (.int .i64 y)] h P:=by
 refine call_intro rfl (by simp only [List.length_cons,List.length_nil];omega) ?_
 simp -implicitDefEqProofs only [KK,eq_self,↓reduceIte,reduceLT,reduceEqDiff,reduceAdd,reduceCtorEq]
 refine nan_ok ?_
 simp -implicitDefEqProofs only [KK,eq_self,↓reduceIte,reduceLT,reduceEqDiff,reduceCtorEq]
 by_cases c:x<y
 ·rw [decide_eq_true c] at hP
  simp -implicitDefEqProofs only [KK,c]
  exact hP
 ·rw [decide_eq_false c] at hP
  simp -implicitDefEqProofs only [KK,c]
  first|exact hP|(refine nan_ok ?_;simp -implicitDefEqProofs only [KK,eq_self,ne_eq,↓reduceIte,reduceLT,reduceEqDiff,reduceAdd,reduceLeDiff,reduceSub,reduceMul,reduceCtorEq,c];exact hP)
theorem swoI:SWO (fun x y:Int=>x<y):=⟨fun x=>by omega,fun h k=>by omega,fun h k=>by omega⟩
theorem cmpI:CmpOk (fun x y:Int=>x<y) 2:=fun F x y h' Q hF hQ=>by
 obtain ⟨k,rfl⟩:∃ k,F=k+2:=⟨F-2,by omega⟩
 exact less_ok hQ
theorem sortI_ok {F:Nat} {v:CV} {L:List Int} (hF:27≤F) (ho:Ow h 1 v (rI L)) (hn:L.length≤16) (hd:L.Nodup) (hP:∀ h' T,T.Perm L→T.Pairwise (· < ·)→SL h' 1 v (rI T)→Fm (ownId v) h h'→P (.tup []) h') :
 callW N F 74 [.c v] h P:=by
 cases v <;> simp only [Ow] at ho
 case nils=>
  have hL:L=[]:=by cases L with|nil=>rfl|cons a L=>cases ho
  subst hL
  exact sort_nil (by omega) (hP _ [] (List.Perm.refl _) List.Pairwise.nil rfl (Fm.refl _ _))
 case sl id tok off len cap=>
  obtain ⟨rfl,rfl,lw,rs,h1,h2,h3,h4⟩:=ho
  have hlen:len=L.length:=by
   have:=congrArg List.length h4
   rw [rI_len,List.length_take] at this
   omega
  subst hlen
  have hA:Ar encI 1 h id tok (rs.drop L.length) L:=⟨lw,h2,by rw [h1];congr 2;show rs=rI L++_;rw [h4,List.take_append_drop]⟩
  refine sort_ok swoI cmpI (by omega) hA (by omega) fun h' T k1 k2 k3 k4=>?_
  have hTl:=k1.length_eq
  refine hP h' T k1 (asc_of k2 (k1.nodup_iff.mpr hd)) ?_ k4
  obtain ⟨lw',g1,g2⟩:=k3
  refine ⟨true,tok,lw',_,g2,g1,by rw [List.length_append,List.length_map];omega,?_⟩
  rw [List.drop_zero,List.take_append_of_le_length (by rw [List.length_map];omega),List.take_of_length_le (by rw [List.length_map];omega)]
  rfl
theorem ISort.stab {qf:Int→Int} {L T:List Int} (h:ISort (fun x y=>cmp3 (qf y) (qf x)<0) L T) (hL:L.Pairwise (· < ·)):T.Pairwise fun x y=>qf y<qf x∨(qf x=qf y∧x<y):=by
 have c3:∀ x y,cmp3 (qf y) (qf x)<0↔qf y<qf x:=by
  intro x y
  unfold cmp3
  split
  ·omega
  ·split <;> omega
 induction h with
 | nil=>exact List.Pairwise.nil
 | @snoc L S T x hs hi ih=>
  have hp:=hs.perm
  rw [List.pairwise_append] at hL
  have ih:=ih hL.1
  obtain ⟨A,B,rfl,rfl,h1,h2⟩:=hi
  rw [List.pairwise_append] at ih
  have hx:∀ y∈A++B,y<x:=fun y hy=>hL.2.2 y (hp.mem_iff.mp hy) x (by simp)
  have hA:∀ a∈A,qf x<qf a∨(qf a=qf x∧a<x):=by
   intro a ha
   have hax:=hx a (by simp [ha])
   rcases List.eq_nil_or_concat A with e|⟨A',y,e⟩
   ·subst e;cases ha
   ·rw [List.concat_eq_append] at e
    have h3:¬cmp3 (qf y) (qf x)<0:=h2 A' y e
    rw [c3] at h3
    subst e
    rcases List.mem_append.mp ha with ha|ha
    ·have:=(List.pairwise_append.mp ih.1).2.2 a ha y (by simp)
     omega
    ·have ha:=List.mem_singleton.mp ha
     subst ha
     omega
  rw [List.pairwise_append,List.pairwise_cons]
  refine ⟨ih.1,⟨fun y hy=>?_,ih.2.1⟩,fun a ha b hb=>?_⟩
  ·have:=(c3 x y).mp (h1 y hy)
   exact .inl this
  ·rcases List.mem_cons.mp hb with rfl|hb
   ·exact hA a ha
   ·exact ih.2.2 a ha b hb
theorem clone_nil (hP:P (.c .nils) h):callW N (k+1) 203 [.c .nils] h P:=by
 refine call_intro rfl (by simp only [List.length_cons,List.length_nil];omega) ?_
 simp -implicitDefEqProofs only [KK,eq_self,↓reduceIte,reduceLT,reduceCtorEq]
 exact hP
theorem clone_ok {v:CV} {L:List Int} (hs:SL h 1 v (rI L)) (hn:L.length≤1000000000)
 (hP:∀ h' u,SL h' 1 u (rI L)→Fn h h'→P (.c u) h'):callW N (k+1) 203 [.c v] h P:=by
 cases v <;> simp only [SL] at hs
 case nils=>exact clone_nil (hP _ _ hs (Fm.refl _ _))
 case sl id tok off len cap=>
  have hs:SL h 1 (.sl id tok off len cap) (rI L):=hs
  obtain ⟨h2,hh2⟩:∃ h2,h2=h.push (.rows true 1 0 0 []):=⟨_,rfl⟩
  have hf2:Fn h h2:=by rw [hh2];exact Fm.push _ _ _
  have hg2:h2.g h.n=some (.rows true 1 0 0 []):=by rw [hh2,g_push_eq]
  have hfold:=hh2.symm
  have hrd:sliceRows h2 [] 1 (.v (.c (.sl id tok off len cap)))=some (rI L):=(hs.new hf2).read
  have hl:=rI_len L
  cases L with
  | nil=>
   have happ:appT h2 [] 1 8 (.v (.c (.sl h.n 0 0 0 (some 0)))) (.v (.c (.sl id tok off len cap)))=some (.sl h.n 0 0 0 (some 0),h2):=by
    simp only [appT,asC_c,Option.bind_some,hrd]
    rfl
   refine call_intro rfl (by simp only [List.length_cons,List.length_nil];omega) ?_
   simp -implicitDefEqProofs only [KK,eq_self,↓reduceIte,reduceLT,reduceCtorEq,chunks,hfold,happ]
   exact hP _ _ ⟨true,0,0,[],hg2,Nat.le_refl _,Nat.le_refl _,rfl⟩ hf2
  | cons y ys=>
   have happ:appT h2 [] 1 8 (.v (.c (.sl h.n 0 0 0 (some 0)))) (.v (.c (.sl id tok off len cap)))=some (.sl h2.n 0 0 (rI (y::ys)).length none,h2.push (.rows true 1 0 0 (rI (y::ys)))):=by
    simp only [appT,asC_c,Option.bind_some,hrd]
    simp only [rI,List.map_cons,appRows,g_def,hg2]
    rw [if_pos ⟨trivial,Nat.le_refl _,by simp only [room,List.length_cons,List.length_map] at hn ⊢;omega⟩]
    rw [if_neg (by simp only [List.length_cons];omega)]
    simp only [List.drop_nil,List.take_nil,List.nil_append,Nat.zero_add]
    rfl
   refine call_intro rfl (by simp only [List.length_cons,List.length_nil];omega) ?_
   simp -implicitDefEqProofs only [KK,eq_self,↓reduceIte,reduceLT,reduceCtorEq,chunks,hfold,happ]
   exact hP _ _ ⟨true,0,0,_,g_push_eq _ _,Nat.le_refl _,by omega,by rw [List.drop_zero,List.take_of_length_le (by omega)]⟩ (hf2.trans (Fm.push _ _ _))
end
end
section
set_option maxHeartbeats 4000000
def mrk (f:Int→Option Nat):AV→Option AV
 | .c (.int .i64 b)=>(f b).map fun (r:Nat)=>.c (.int .i64 (r:Int))
 | _=>none
def mpv (p:Int→Option CV):AV→Option AV
 | .c (.int .i64 b)=>(p b).map .c
 | _=>none
structure Tr (h:Hp) (t mr mp:Nat) (f:Int→Option Nat) (p:Int→Option CV) (ord:CV):Prop where
 t:h.g t=some (.rows true 3 0 0 [[.map mr,.map mp,ord]])
 r:∃ es c,h.g mr=some (.map true es c)∧IsMap (.int .i64) es (mrk f)
 p:∃ es c,h.g mp=some (.map true es c)∧IsMap (.int .i64) es (mpv p)
def TrF (h:Hp) (t:Nat) (f:Int→Option Nat) (par:Int→List Int) (ord:List Int):Prop:=
 ∃ mr mp p v,Tr h t mr mp f p v∧SL h 1 v (rI ord)∧(∀ n v,p n=some v→SL h 1 v (rI (par n)))∧(∀ n,p n=none→par n=[])
theorem Tr.new {h h':Hp} {t mr mp:Nat} {f:Int→Option Nat} {p:Int→Option CV} {ord:CV} (k:Tr h t mr mp f p ord) (fr:Fn h h'):Tr h' t mr mp f p ord:=by
 obtain ⟨h1,⟨es,c,h2,h3⟩,es',c',h4,h5⟩:=k
 exact ⟨fr.some h1 (fun e=>e),⟨es,c,fr.some h2 (fun e=>e),h3⟩,es',c',fr.some h4 (fun e=>e),h5⟩
theorem TrF.new {h h':Hp} {t:Nat} {f:Int→Option Nat} {par:Int→List Int} {ord:List Int} (k:TrF h t f par ord) (fr:Fn h h'):TrF h' t f par ord:=by
 obtain ⟨mr,mp,p,v,h1,h2,h3,h4⟩:=k
 exact ⟨mr,mp,p,v,h1.new fr,h2.new fr,fun n v hv=>(h3 n v hv).new fr,h4⟩
def hd:List Int→Int
 | []=>-1
 | a::_=>a
section
variable {k:Nat} {h:Hp} {P:AV→Hp→Prop} {t mr mp:Nat} {f:Int→Option Nat} {p:Int→Option CV} {ord:CV} {par:Int→List Int} {ol:List Int}
theorem Tr.look (hT:Tr h t mr mp f p ord) (b:Int):lookT h (.int .i64) (.v (.c (.map mr))) (some (.c (.int .i64 b)))=some ((f b).map fun (r:Nat)=>.c (.int .i64 (r:Int))):=by
 obtain ⟨_,⟨es,c,h2,h3⟩,_⟩:=hT
 have:=look_ok (k:=.c (.int .i64 b)) h2 h3 rfl
 simpa only [mrk] using this
theorem Tr.lookp (hT:Tr h t mr mp f p ord) (b:Int):lookT h (.int .i64) (.v (.c (.map mp))) (some (.c (.int .i64 b)))=some ((p b).map .c):=by
 obtain ⟨_,_,es,c,h2,h3⟩:=hT
 have:=look_ok (k:=.c (.int .i64 b)) h2 h3 rfl
 simpa only [mpv] using this
theorem parents_ok {n:Int} (hT:TrF h t f par ol) (hn:(par n).length≤1000000) (hP:∀ h' v,SL h' 1 v (rI (par n))→Fn h h'→P (.c v) h'):callW N (k+2) 197 [.c (.ptr t 0 0 0),.c (.int .i64 n)] h P:=by
 obtain ⟨mr,mp,p,v,hT,_,hp1,hp2⟩:=hT
 have h1:=hT.t
 have h2:=hT.lookp n
 refine call_intro rfl (by simp only [List.length_cons,List.length_nil];omega) ?_
 cases hf:p n with
 | some w=>
  rw [hf] at h2
  simp -implicitDefEqProofs only [KK,eq_self,↓reduceIte,reduceLT,reduceEqDiff,reduceAdd,reduceCtorEq,h1,h2,Option.getD_some]
  refine clone_ok (k:=k) (hp1 n w hf) (by omega) fun h' u hu fu=>?_
  simp -implicitDefEqProofs only [KK,eq_self,↓reduceIte,reduceLT]
  exact hP h' u hu fu
 | none=>
  rw [hf] at h2
  simp -implicitDefEqProofs only [KK,eq_self,↓reduceIte,reduceLT,reduceEqDiff,reduceAdd,reduceCtorEq,h1,h2,Option.getD_none]
  refine clone_nil ?_
  simp -implicitDefEqProofs only [KK,eq_self,↓reduceIte,reduceLT]
  exact hP h .nils (by rw [hp2 n hf];rfl) (Fm.refl _ _)
theorem order_ok (hT:TrF h t f par ol) (hn:ol.length≤1000000) (hP:∀ h' v,SL h' 1 v (rI ol)→Fn h h'→P (.c v) h'):callW N (k+2) 199 [.c (.ptr t 0 0 0)] h P:=by
 obtain ⟨mr,mp,p,v,hT,ho,_⟩:=hT
 have h1:=hT.t
 refine call_intro rfl (by simp only [List.length_cons,List.length_nil];omega) ?_
 simp -implicitDefEqProofs only [KK,eq_self,↓reduceIte,reduceLT,reduceCtorEq,h1]
 refine clone_ok (k:=k) ho (by omega) fun h' u hu fu=>?_
 simp -implicitDefEqProofs only [KK,eq_self,↓reduceIte,reduceLT]
 exact hP h' u hu fu
def Ol (h:Hp) (v:CV) (L:List Int):Prop:=(Ow h 1 v (rI L)∧L≠[])∨∃ id x,v = .sl id 0 0 1 (some 1)∧L=[x]∧h.g id=some (.rows true 1 0 0 [[.int .i64 x]])
theorem Ol.app {v:CV} {L:List Int} (ho:Ol h v L) (hn:L.length≤1000) {x:TV} {lc:List (List CV)} {y:Int} (hx:sliceRows h lc 1 x=some [[.int .i64 y]]) :
 ∃ v' h',appT h lc 1 8 (.v (.c v)) x=some (v',h')∧Ol h' v' (L++[y])∧Fm (ownId v) h h'∧(∀ j,ownId v' j→ownId v j∨h.n≤j):=by
 rcases ho with ⟨ho,hne⟩|⟨id,z,rfl,rfl,hg⟩
 ·obtain ⟨v',h',k1,k2,k3,k4⟩:=ho.app hx (by simp) (bytes:=8) (by rw [rI_len];simp only [room,List.length_singleton];omega)
  exact ⟨v',h',k1,.inl ⟨by simpa [rI] using k2,by simp⟩,k3,k4⟩
 ·refine ⟨.sl h.n 0 0 2 none,h.push (.rows true 1 0 0 [[.int .i64 z],[.int .i64 y]]),?_,.inl ⟨⟨rfl,rfl,0,_,g_push_eq _ _,Nat.le_refl _,Nat.le_refl _,rfl⟩,by simp⟩,Fm.push _ _ _,fun j hj=>.inr (by simp only [ownId] at hj;omega)⟩
  simp only [appT,asC_c,Option.bind_some,hx,appRows,g_def,hg]
  rw [if_pos ⟨trivial,Nat.le_refl _,by simp only [room,List.length_singleton];omega⟩]
  rw [if_neg (by simp)]
  rfl
end
end
section
set_option maxHeartbeats 4000000
theorem pw_eq {α:Type} {R:α→α→Prop} (hat:∀ x y,R x y→R y x→False):∀ {L M:List α},L.Pairwise R→M.Pairwise R→(∀ x,x∈L↔x∈M)→L=M
 | [],[],_,_,_=>rfl
 | [],y::M,_,_,h=>by have:=(h y).mpr (by simp);cases this
 | x::L,[],_,_,h=>by have:=(h x).mp (by simp);cases this
 | x::L,y::M,hL,hM,h=>by
  rw [List.pairwise_cons] at hL hM
  have hxy:x=y:=by
   have h1:=(h x).mp (by simp)
   have h2:=(h y).mpr (by simp)
   rcases List.mem_cons.mp h1 with h1|h1
   ·exact h1
   rcases List.mem_cons.mp h2 with h2|h2
   ·exact h2.symm
   exact (hat _ _ (hL.1 y h2) (hM.1 x h1)).elim
  subst hxy
  congr 1
  refine pw_eq hat hL.2 hM.2 fun z=>?_
  have h1:=h z
  simp only [List.mem_cons] at h1
  constructor
  ·intro hz
   rcases h1.mp (.inr hz) with e|e
   ·subst e;exact (hat _ _ (hL.1 z hz) (hL.1 z hz)).elim
   ·exact e
  ·intro hz
   rcases h1.mpr (.inr hz) with e|e
   ·subst e;exact (hat _ _ (hM.1 z hz) (hM.1 z hz)).elim
   ·exact e
def byQ (qf:Int→Int) (x y:Int):Prop:=qf y<qf x∨(qf x=qf y∧x<y)
theorem byQ_as (qf:Int→Int) (x y:Int) (h:byQ qf x y) (k:byQ qf y x):False:=by
 unfold byQ at *
 omega
section
variable (q:Int→Int→Option Int) (least:Int) (nn:Nat) (f:Int→Option Nat)
def bestQ (n:Int):Nat→List Int
 | 0=>[]
 | k+1=>bestQ n k++(cand q least nn f n).filter fun b=>decide (qual q n b=255-(k:Int))
def fol (n:Int):List Int:=(bestQ q least nn f n 255).take 2
end
section
variable {q:Int→Int→Option Int} {least:Int} {nn:Nat} {f:Int→Option Nat}
theorem mem_bestQ {n b:Int}:∀ {k:Nat},b∈bestQ q least nn f n k↔b∈cand q least nn f n∧255-(k:Int)<qual q n b∧qual q n b≤255
 | 0=>by
  simp only [bestQ,List.not_mem_nil,false_iff]
  omega
 | k+1=>by
  rw [bestQ,List.mem_append,mem_bestQ (k:=k),List.mem_filter,decide_eq_true_eq]
  constructor
  ·rintro (⟨h1,h2,h3⟩|⟨h1,h2⟩)
   ·exact ⟨h1,by omega,h3⟩
   ·exact ⟨h1,by omega,by omega⟩
  ·rintro ⟨h1,h2,h3⟩
   by_cases e:qual q n b=255-(k:Int)
   ·exact .inr ⟨h1,e⟩
   ·exact .inl ⟨h1,by omega,h3⟩
theorem cand_asc (n:Int):(cand q least nn f n).Pairwise (· < ·):=List.Pairwise.filter _ (nr_asc n)
theorem bestQ_by (n:Int):∀ k,(bestQ q least nn f n k).Pairwise (byQ (qual q n))
 | 0=>List.Pairwise.nil
 | k+1=>by
  rw [bestQ,List.pairwise_append]
  refine ⟨bestQ_by n k,?_,?_⟩
  ·refine (List.Pairwise.filter _ (cand_asc n)).imp_of_mem fun {a b} ha hb h=>?_
   rw [List.mem_filter,decide_eq_true_eq] at ha hb
   exact .inr ⟨by rw [ha.2,hb.2],h⟩
  ·intro x hx y hy
   rw [List.mem_filter,decide_eq_true_eq] at hy
   have:=(mem_bestQ.mp hx).2
   left
   rw [hy.2]
   exact this.1
theorem best_is {n:Int} {T:List Int} (hq:∀ b,qual q n b≤255) (hp:T.Perm (cand q least nn f n)) (hT:T.Pairwise (byQ (qual q n))):T=bestQ q least nn f n 255:=by
 refine pw_eq (byQ_as _) hT (bestQ_by n 255) fun b=>?_
 rw [hp.mem_iff,mem_bestQ]
 constructor
 ·intro h
  have:=(mem_nr.mp (mem_cand.mp h).1).2.1
  exact ⟨h,by omega,hq b⟩
 ·exact fun h=>h.1
theorem cand_len (n:Int):(cand q least nn f n).length≤nn:=by
 have:=List.length_filter_le (fun b=>below (f b) (f n)) (nr q least nn n)
 have h2:(nr q least nn n).length≤nn:=nearL_len q n least nn
 unfold cand
 omega
theorem fol_len (n:Int):(fol q least nn f n).length≤2:=by
 unfold fol
 rw [List.length_take]
 omega
theorem mem_fol {n b:Int} (h:b∈fol q least nn f n):b∈cand q least nn f n:=(mem_bestQ.mp (List.mem_of_mem_take h)).1
theorem fol_none {n:Int} (h:f n=none):fol q least nn f n=[]:=by
 rw [List.eq_nil_iff_forall_not_mem]
 intro b hb
 obtain ⟨_,r,_,h2⟩:=mem_cand.mp (mem_fol hb)
 rw [h] at h2
 cases h2
end
section
variable {k g m t mr mp:Nat} {nn:Int} {q:Int→Int→Option Int} {h:Hp} {P:AV→Hp→Prop} {f:Int→Option Nat} {p:Int→Option CV} {ord:CV}
theorem folc_ok {b1 b2:Nat} {x y n:Int} (hg:Gr h g m nn q) (h1:h.g b1=some (.rows true 1 0 0 [[.ptr g 0 0 0]])) (h2:h.g b2=some (.rows true 1 0 0 [[.int .i64 n]])) (hP:P (.c (.int .i64 (cmp3 (qual q n y) (qual q n x)))) h) :
 callW N (k+3) 206 [.c (.int .i64 x),.c (.int .i64 y),.c (.ptr b1 0 0 0),.c (.ptr b2 0 0 0)] h P:=by
 refine call_intro rfl (by simp only [List.length_cons,List.length_nil];omega) ?_
 simp -implicitDefEqProofs only [KK,eq_self,↓reduceIte,reduceLT,reduceEqDiff,reduceAdd,reduceCtorEq,h1,h2]
 refine quality_ok (k:=k+1) hg ?_
 simp -implicitDefEqProofs only [KK,eq_self,↓reduceIte,reduceLT,reduceEqDiff,reduceCtorEq,h1,h2]
 refine quality_ok (k:=k+1) hg ?_
 simp -implicitDefEqProofs only [KK,eq_self,↓reduceIte,reduceLT,reduceEqDiff]
 refine compare_ok ?_
 simp -implicitDefEqProofs only [KK,eq_self,↓reduceIte,reduceLT]
 exact hP
theorem stI_ok {F g:Nat} {caps:List CV} {cmp:Int→Int→Int} {v:CV} {L:List Int} (hF:k+4≤F) (ho:Ow h 1 v (rI L)) (hn:L.length≤16)
 (hc:∀ F' x y h' (Q:AV→Hp→Prop),k≤F'→Fm (ownId v) h h'→Q (.c (.int .i64 (cmp x y))) h'→callW N F' g (.c (.int .i64 x)::.c (.int .i64 y)::caps.map .c) h' Q)
 (hP:∀ h' T,Ow h' 1 v (rI T)→ISort (fun x y=>cmp x y<0) L T→Fm (ownId v) h h'→P (.tup []) h'):callW N F 207 [.c v,.c (.fn g caps)] h P:=by
 obtain ⟨j,rfl⟩:∃ j,F=j+4:=⟨F-4,by omega⟩
 have hlen:∀ h':Hp,lenT h' .sl (.v (.c v))=some (L.length:Int):=fun h'=>by rw [ho.sl.len h',rI_len]
 refine call_intro rfl (by simp only [List.length_cons,List.length_nil];omega) ?_
 simp -implicitDefEqProofs only [KK,eq_self,↓reduceIte,reduceLT,reduceEqDiff,reduceAdd,reduceCtorEq,hlen]
 refine stable_ok (k:=j+1) (by omega) fun Q hQ=>?_
 cases v <;> simp only [Ow] at ho
 case nils=>
  have hL:L=[]:=by cases L with|nil=>rfl|cons a L=>cases ho
  subst hL
  refine insort_nil (hQ _ ?_)
  simp -implicitDefEqProofs only [KK]
  exact hP _ [] rfl ISort.nil (Fm.refl _ _)
 case sl id tok off len cap=>
  obtain ⟨rfl,rfl,lw,rs,h1,h2,h3,h4⟩:=ho
  have hlen:len=L.length:=by
   have:=congrArg List.length h4
   rw [rI_len,List.length_take] at this
   omega
  subst hlen
  have hg:h.g id=some (.rows true 1 tok lw (L.map encI++rs.drop L.length)):=by rw [h1];congr 2;show rs=rI L++_;rw [h4,List.take_append_drop]
  refine insertT_ok (k:=j+1) (cmp:=cmp) (fun x y h' Q hf hq=>hc _ x y h' Q (by omega) hf (hq _ (Fm.refl _ _))) hg h2 (by omega) fun h' lw' T k1 k2 k3 k4=>hQ _ ?_
  simp -implicitDefEqProofs only [KK]
  have hTl:=k3.perm.length_eq
  refine hP h' T ⟨rfl,rfl,lw',_,k1,k2,by rw [List.length_append,List.length_map];omega,?_⟩ k3 k4
  rw [List.take_append_of_le_length (by rw [List.length_map];omega),List.take_of_length_le (by rw [List.length_map];omega)]
  rfl
def FoI (h:Hp) (t g:Nat) (nn:Nat) (q:Int→Int→Option Int) (least:Int) (f:Int→Option Nat) (n:Int) (v:CV) (m:Nat) (s:St):Prop:=
 ∃ (i:Nat) (w:CV) (h':Hp) (l:List (Nat × TV)) (lc:List (List CV)),s=ST 57 l lc h'∧i≤(nr q least nn n).length∧m=(nr q least nn n).length-i∧Ow h' 1 w (rI (((nr q least nn n).take i).filter fun b=>below (f b) (f n)))∧Fn h h'∧h.n+2≤h'.n∧
  h'.g h.n=some (.rows true 1 0 0 [[.ptr g 0 0 0]])∧h'.g (h.n+1)=some (.rows true 1 0 0 [[.int .i64 n]])∧(∀ j,ownId w j→h.n+2≤j)∧SL h' 1 v (rI (nr q least nn n))∧(∀ id tok off len cap,v = .sl id tok off len cap→¬ownId w id)∧
  lk l 0 = .v (.c (.ptr t 0 0 0))∧lk l 5 = .v (.c (.ptr h.n 0 0 0))∧lk l 6 = .v (.c (.ptr (h.n+1) 0 0 0))∧lk l 9 = .v (.c w)∧lk l 17 = .v (.c v)∧lk l 18 = .v (.c (.int .i64 (nr q least nn n).length))∧lk l 19 = .v (.c (.int .i64 i))
theorem follows_ok {F:Nat} {least n:Int} {n':Nat} {rn:Nat} (hF:8≤F) (hg:Gr h g m n' q) (hnn:n'≤16) (hT:Tr h t mr mp f p ord) (hn:0≤n∧n<n') (hfn:f n=some rn) (hfb:∀ b r,f b=some r→r≤1000) (hq:∀ a b,qual q a b≤255)
 (hP:∀ h' v,SL h' 1 v (rI (fol q least n' f n))→Fn h h'→P (.c v) h'):callW N F 202 [.c (.ptr t 0 0 0),.c (.ptr g 0 0 0),.c (.int .i64 n),.c (.int .i64 least)] h P:=by
 obtain ⟨k,rfl⟩:∃ k,F=k+8:=⟨F-8,by omega⟩
 obtain ⟨h1,hh1⟩:∃ h1,h1=(h.push (.rows true 1 0 0 [[.ptr g 0 0 0]])).push (.rows true 1 0 0 [[.int .i64 n]]):=⟨_,rfl⟩
 have g1:h1.g h.n=some (.rows true 1 0 0 [[.ptr g 0 0 0]]):=by rw [hh1,g_push_ne _ _ (by rw [n_push];omega),g_push_eq]
 have g2:h1.g (h.n+1)=some (.rows true 1 0 0 [[.int .i64 n]]):=by rw [hh1,←n_push h (.rows true 1 0 0 [[.ptr g 0 0 0]]),g_push_eq]
 have f1:Fn h h1:=by rw [hh1];exact (Fm.push _ _ _).trans (Fm.push _ _ _)
 have n1:h1.n=h.n+2:=by rw [hh1,n_push,n_push]
 have hfold:=hh1.symm
 refine call_intro rfl (by simp only [List.length_cons,List.length_nil];omega) ?_
 simp -implicitDefEqProofs only [KK,eq_self,↓reduceIte,reduceLT,reduceEqDiff,reduceAdd,reduceCtorEq,hfold,g1,g2]
 refine near_ok (k:=k+5) (hg.new f1) (by omega) fun v h2 ho f2 hid=>?_
 rw [if_pos hn,Int.toNat_natCast] at ho
 have hN:(nr q least n' n).length≤n':=nearL_len q n least n'
 have hlen:∀ h':Hp,lenT h' .sl (.v (.c v))=some ((nr q least n' n).length:Int):=fun h'=>by rw [ho.sl.len h',rI_len]
 simp -implicitDefEqProofs only [KK,eq_self,↓reduceIte,reduceLT,reduceEqDiff,reduceCtorEq,hlen]
 refine loop_rd (callW_mono N _) (FoI h t g n' q least f n v) (n:=(nr q least n' n).length) ⟨0,.nils,h2,_,_,rfl,by omega,by omega,rfl,f1.trans f2,by have:=f2.n;omega,f2.some g1 (fun e=>e),f2.some g2 (fun e=>e),fun _ e=>e.elim,ho.sl,fun _ _ _ _ _ _ e=>e.elim,rfl,rfl,rfl,rfl,rfl,rfl,rfl⟩ ?_
 rintro m2 s ⟨i,w,h3,l,lc,rfl,hi,hm,how,f3,hn3,gb1,gb2,hidw,hv,hvw,e0,e5,e6,e9,e17,e18,e19⟩
 have hT3:=hT.new f3
 have ht3:=hT3.t
 by_cases hlt:(i:Int)<(nr q least n' n).length
 ·have hil:i<(nr q least n' n).length:=by omega
  obtain ⟨b,hb⟩:=some_at (L:=nr q least n' n) (i:=i) hil
  have hrow:(rI (nr q least n' n))[(i:Int).toNat]? = some [.int .i64 b]:=by simp [rI,hb]
  obtain ⟨p1,p2,p3,a1,a2⟩:=hv.at (by omega) hrow
  have hw:=wrap_i64 (n:=(i:Int)+1) (by omega)
  have hs:=take_snoc hb
  have hk1:=hT3.look b
  have hk2:=hT3.look n
  rw [hfn] at hk2
  have hrn:=hfb n rn hfn
  have wr:=wrap_i64 (n:=(rn:Int)-1) (by omega)
  have skip:below (f b) (f n)=false→∀ (l:List (Nat × TV)) lc,lk l 0 = .v (.c (.ptr t 0 0 0))→lk l 5 = .v (.c (.ptr h.n 0 0 0))→lk l 6 = .v (.c (.ptr (h.n+1) 0 0 0))→lk l 9 = .v (.c w)→lk l 17 = .v (.c v)→lk l 18 = .v (.c (.int .i64 (nr q least n' n).length))→lk l 19 = .v (.c (.int .i64 ((i:Int)+1)))→∃ m',m'<m2∧FoI h t g n' q least f n v m' (ST 57 l lc h3):=
   fun hne l lc k0 k5 k6 k9 k17 k18 k19=>⟨m2-1,by omega,i+1,w,h3,l,lc,rfl,by omega,by omega,by rw [hs,List.filter_append];simp only [List.filter_cons,List.filter_nil,hne,Bool.false_eq_true,if_false,List.append_nil];exact how,f3,hn3,gb1,gb2,hidw,hv,hvw,k0,k5,k6,k9,k17,k18,by rw [k19];rfl⟩
  cases hfb':f b with
  | none=>
   rw [hfb'] at hk1
   simp -implicitDefEqProofs only [KK,eq_self,↓reduceIte,reduceLT,reduceEqDiff,reduceCtorEq,e0,e5,e6,e9,e17,e18,e19,hlt,a1,a2,ht3,hk1,Option.getD_none,Option.isSome_none,hw,rd_n]
   exact skip (by rw [hfb'];rfl) _ _ rfl rfl rfl rfl rfl rfl rfl
  | some rb=>
   rw [hfb'] at hk1
   by_cases c:(rb:Int)=(rn:Int)-1
   ·have c':decide ((rb:Int)=(rn:Int)-1)=true:=decide_eq_true c
    have hbe:below (f b) (f n)=true:=by rw [hfb',hfn];simp only [below,decide_eq_true_eq];omega
    obtain ⟨u',h6,q1,q2,q3,q4⟩:=how.app (lc:=[[.int .i64 b]]) (x:=.lsl 0 1) (xs:=[[.int .i64 b]]) rfl (by simp) (bytes:=8) (by
     rw [rI_len]
     have:=List.length_filter_le (fun b=>below (f b) (f n)) ((nr q least n' n).take i)
     rw [List.length_take] at this
     simp only [room,List.length_singleton]
     omega)
    simp -implicitDefEqProofs only [KK,eq_self,↓reduceIte,reduceLT,reduceEqDiff,reduceCtorEq,e0,e5,e6,e9,e17,e18,e19,hlt,a1,a2,ht3,gb2,hk1,hk2,Option.getD_some,Option.isSome_some,wr,c',q1,hw,rd_n]
    have hnw:∀ j,ownId w j→¬(j=h.n∨j=h.n+1):=fun j hj e=>by have:=hidw j hj;omega
    refine ⟨m2-1,by omega,i+1,u',h6,_,_,rfl,by omega,by omega,?_,f3.fresh q3 (fun j hj=>by have:=hidw j hj;omega),by have:=q3.n;omega,q3.some gb1 (fun e=>hnw _ e (.inl rfl)),q3.some gb2 (fun e=>hnw _ e (.inr rfl)),(fun j hj=>(q4 j hj).elim (hidw j) (fun e=>by omega)),hv.mono q3 (fun id tok off len cap e=>hvw id tok off len cap e),?_,rfl,rfl,rfl,rfl,rfl,rfl,rfl⟩
    ·rw [hs,List.filter_append]
     simp only [List.filter_cons,List.filter_nil,hbe,if_true]
     simpa [rI] using q2
    ·intro id tok off len cap e ej
     rcases q4 id ej with e2|e2
     ·exact hvw id tok off len cap e e2
     ·subst e
      obtain ⟨wr',cur,lw,rs,hgg,_⟩:=hv
      have:=lt_of_g hgg
      omega
   ·have hbe:below (f b) (f n)=false:=by rw [hfb',hfn];simp only [below,decide_eq_false_iff_not];omega
    simp -implicitDefEqProofs only [KK,eq_self,↓reduceIte,reduceLT,reduceEqDiff,reduceCtorEq,e0,e5,e6,e9,e17,e18,e19,hlt,a1,a2,ht3,gb2,hk1,hk2,Option.getD_some,Option.isSome_some,wr,c,hw,rd_n]
    exact skip hbe _ _ rfl rfl rfl rfl rfl rfl rfl
 ·have hil:i=(nr q least n' n).length:=by omega
  subst hil
  rw [List.take_length] at how
  have how:Ow h3 1 w (rI (cand q least n' f n)):=how
  have hcl:=cand_len (q:=q) (least:=least) (nn:=n') (f:=f) n
  simp -implicitDefEqProofs only [KK,eq_self,↓reduceIte,reduceLT,reduceEqDiff,reduceCtorEq,e0,e5,e6,e9,e17,e18,e19,hlt]
  refine stI_ok (k:=3) (cmp:=fun x y=>cmp3 (qual q n y) (qual q n x)) (by omega) how (by omega) (fun F' x y h' Q hF' hf hQ=>?_) fun h4 T k1 k2 k3=>?_
  ·obtain ⟨j,rfl⟩:∃ j,F'=j+3:=⟨F'-3,by omega⟩
   have hne:∀ j,ownId w j→¬(j=h.n∨j=h.n+1):=fun j hj e=>by have:=hidw j hj;omega
   exact folc_ok (k:=j) (hg.new (f3.fresh hf (fun j hj=>by have:=hidw j hj;omega))) (hf.some gb1 (fun e=>hne _ e (.inl rfl))) (hf.some gb2 (fun e=>hne _ e (.inr rfl))) hQ
  ·have hTp:=k2.perm
   have hTs:=k2.stab (qf:=qual q n) (cand_asc n)
   have hTb:=best_is (fun b=>hq n b) hTp hTs
   have hlT:∀ h':Hp,lenT h' .sl (.v (.c w))=some (T.length:Int):=fun h'=>by rw [k1.sl.len h',rI_len]
   obtain ⟨v',b1,b2,b3⟩:=k1.pre (by omega) (m:=min (T.length:Int) 2) (by rw [rI_len];omega)
   simp -implicitDefEqProofs only [KK,eq_self,↓reduceIte,reduceLT,reduceEqDiff,hlT,b1]
   refine hP h4 v' ?_ (f3.fresh k3 (fun j hj=>by have:=hidw j hj;omega))
   have:(rI T).take (min (T.length:Int) 2).toNat=rI (fol q least n' f n):=by
    unfold fol
    rw [←hTb]
    unfold rI
    rw [←List.map_take]
    congr 1
    have e:(min (T.length:Int) 2).toNat=min 2 T.length:=by omega
    rw [e,←List.take_eq_take_min]
   rw [←this]
   exact b2.sl
end
end
section
set_option maxHeartbeats 4000000
structure BS (h h':Hp) (f:Int→Option Nat) (p:Int→Option CV) (ord nx:CV) (L X:List Int):Prop where
 n:h.n+3≤h'.n
 fn:Fn h h'
 t:h'.g (h.n+2)=some (.rows true 3 0 0 [[.map h.n,.map (h.n+1),ord]])
 r:∃ es c,h'.g h.n=some (.map true es c)∧IsMap (.int .i64) es (mrk f)
 p:∃ es c,h'.g (h.n+1)=some (.map true es c)∧IsMap (.int .i64) es (mpv p)
 o:Ow h' 1 ord (rI L)
 x:Ow h' 1 nx (rI X)
 oi:∀ j,ownId ord j→h.n+3≤j
 xi:∀ j,ownId nx j→h.n+3≤j∧¬ownId ord j
structure Bd (h h':Hp) (ord nx v:CV) (L:List Int):Prop where
 sl:SL h' 1 v (rI L)
 id:∀ id tok off len cap,v = .sl id tok off len cap→h.n+3≤id∧¬ownId ord id∧¬ownId nx id
theorem Bd.step {h h' h2:Hp} {ord nx ord' nx' v:CV} {L:List Int} {S:Nat→Prop} (k:Bd h h' ord nx v L) (f:Fm S h' h2) (hS:∀ j,S j→j<h.n+3∨ownId ord j∨ownId nx j) (h1:∀ j,ownId ord' j→ownId ord j∨ownId nx j∨h'.n≤j) (h3:∀ j,ownId nx' j→ownId nx j∨h'.n≤j):Bd h h2 ord' nx' v L:=by
 refine ⟨k.sl.mono f ?_,?_⟩
 ·intro id tok off len cap e hs
  have:=k.id id tok off len cap e
  rcases hS id hs with h|h|h
  ·omega
  ·exact this.2.1 h
  ·exact this.2.2 h
 ·intro id tok off len cap e
  have h0:=k.id id tok off len cap e
  have hlt:id<h'.n:=by
   obtain ⟨sl,_⟩:=k
   subst e
   obtain ⟨wr,cur,lw,rs,hg,_⟩:=sl
   exact lt_of_g hg
  refine ⟨h0.1,fun e2=>?_,fun e2=>?_⟩
  ·rcases h1 id e2 with e3|e3|e3
   ·exact h0.2.1 e3
   ·exact h0.2.2 e3
   ·omega
  ·rcases h3 id e2 with e3|e3
   ·exact h0.2.2 e3
   ·omega
section
variable {h h' h2:Hp} {f f':Int→Option Nat} {p p':Int→Option CV} {ord nx:CV} {L X:List Int}
theorem BS.fresh (k:BS h h' f p ord nx L X) (fr:Fn h' h2):BS h h2 f p ord nx L X:=by
 obtain ⟨n,fn,t,⟨es,c,r1,r2⟩,⟨es',c',p1,p2⟩,o,x,oi,xi⟩:=k
 exact ⟨Nat.le_trans n fr.n,fn.trans fr,fr.some t (fun e=>e),⟨es,c,fr.some r1 (fun e=>e),r2⟩,⟨es',c',fr.some p1 (fun e=>e),p2⟩,o.new fr,x.new fr,oi,xi⟩
theorem BS.putr (k:BS h h' f p ord nx L X) {es:List ME} {c:Nat} (hM:IsMap (.int .i64) es (mrk f')):BS h (h'.put h.n (.map true es c)) f' p ord nx L X:=by
 obtain ⟨n,fn,t,⟨es0,c0,r1,r2⟩,⟨es',c',p1,p2⟩,o,x,oi,xi⟩:=k
 exact ⟨by rw [n_put];exact n,fn.putNew _ (Nat.le_refl _),by rw [g_put_ne _ _ (by omega)];exact t,⟨es,c,by rw [g_put_eq,r1];rfl,hM⟩,⟨es',c',by rw [g_put_ne _ _ (by omega)];exact p1,p2⟩,
  o.mono (S:=fun j=>j=h.n) (Fm.put _ _ rfl) (fun j hj e=>by have:=oi j hj;omega),x.mono (S:=fun j=>j=h.n) (Fm.put _ _ rfl) (fun j hj e=>by have:=(xi j hj).1;omega),oi,xi⟩
theorem BS.putp (k:BS h h' f p ord nx L X) {es:List ME} {c:Nat} (hM:IsMap (.int .i64) es (mpv p')):BS h (h'.put (h.n+1) (.map true es c)) f p' ord nx L X:=by
 obtain ⟨n,fn,t,⟨es0,c0,r1,r2⟩,⟨es',c',p1,p2⟩,o,x,oi,xi⟩:=k
 exact ⟨by rw [n_put];exact n,fn.putNew _ (by omega),by rw [g_put_ne _ _ (by omega)];exact t,⟨es0,c0,by rw [g_put_ne _ _ (by omega)];exact r1,r2⟩,⟨es,c,by rw [g_put_eq,p1];rfl,hM⟩,
  o.mono (S:=fun j=>j=h.n+1) (Fm.put _ _ rfl) (fun j hj e=>by have:=oi j hj;omega),x.mono (S:=fun j=>j=h.n+1) (Fm.put _ _ rfl) (fun j hj e=>by have:=(xi j hj).1;omega),oi,xi⟩
theorem BS.puto (k:BS h h' f p ord nx L X) {ord':CV} {L':List Int} (fr:Fm (ownId ord) h' h2) (ho:Ow h2 1 ord' (rI L')) (hi:∀ j,ownId ord' j→ownId ord j∨h'.n≤j):BS h (h2.put (h.n+2) (.rows true 3 0 0 [[.map h.n,.map (h.n+1),ord']])) f p ord' nx L' X:=by
 obtain ⟨n,fn,t,⟨es0,c0,r1,r2⟩,⟨es',c',p1,p2⟩,o,x,oi,xi⟩:=k
 have ne:∀ i,i<h.n+3→¬ownId ord i:=fun i hi e=>by have:=oi i e;omega
 have oi':∀ j,ownId ord' j→h.n+3≤j:=fun j hj=>(hi j hj).elim (oi j) (fun e=>by omega)
 refine ⟨by rw [n_put];exact Nat.le_trans n fr.n,(fn.fresh fr (fun j hj=>by have:=oi j hj;omega)).putNew _ (by omega),by rw [g_put_eq,fr.some t (ne _ (by omega))];rfl,⟨es0,c0,by rw [g_put_ne _ _ (by omega)];exact fr.some r1 (ne _ (by omega)),r2⟩,⟨es',c',by rw [g_put_ne _ _ (by omega)];exact fr.some p1 (ne _ (by omega)),p2⟩,
  ho.mono (S:=fun j=>j=h.n+2) (Fm.put _ _ rfl) (fun j hj e=>by have:=oi' j hj;omega),(x.mono fr (fun j hj=>(xi j hj).2)).mono (S:=fun j=>j=h.n+2) (Fm.put _ _ rfl) (fun j hj e=>by have:=(xi j hj).1;omega),oi',fun j hj=>⟨(xi j hj).1,fun e=>?_⟩⟩
 rcases hi j e with e|e
 ·exact (xi j hj).2 e
 ·have:=x.lt hj;omega
theorem BS.putx (k:BS h h' f p ord nx L X) {nx':CV} {X':List Int} (fr:Fm (ownId nx) h' h2) (hx:Ow h2 1 nx' (rI X')) (hi:∀ j,ownId nx' j→ownId nx j∨h'.n≤j):BS h h2 f p ord nx' L X':=by
 obtain ⟨n,fn,t,⟨es0,c0,r1,r2⟩,⟨es',c',p1,p2⟩,o,x,oi,xi⟩:=k
 have ne:∀ i,i<h.n+3→¬ownId nx i:=fun i hi e=>by have:=(xi i e).1;omega
 refine ⟨Nat.le_trans n fr.n,fn.fresh fr (fun j hj=>by have:=(xi j hj).1;omega),fr.some t (ne _ (by omega)),⟨es0,c0,fr.some r1 (ne _ (by omega)),r2⟩,⟨es',c',fr.some p1 (ne _ (by omega)),p2⟩,
  o.mono fr (fun j hj e=>(xi j e).2 hj),hx,oi,fun j hj=>?_⟩
 rcases hi j hj with e|e
 ·exact xi j e
 ·exact ⟨by omega,fun e2=>by have:=o.lt e2;omega⟩
theorem BS.drop (k:BS h h' f p ord nx L X):BS h h' f p ord .nils L []:={ k with x:=rfl,xi:=fun j e=>e.elim }
end
def fX (q:Int→Int→Option Int) (least:Int) (nn d:Nat) (X:List Int) (b:Int):Option Nat:=
 match dn q least nn d b with
 | some r=>some r
 | none=>if b∈X then some (d+1) else none
structure Nxt (q:Int→Int→Option Int) (least:Int) (nn d:Nat) (R X:List Int):Prop where
 nd:X.Nodup
 mem:∀ b∈X,dn q least nn d b=none∧∃ a∈lv q least nn d,b∈nr q least nn a
 cov:∀ a∈R,∀ b∈nr q least nn a,dn q least nn d b≠none∨b∈X
section
variable {q:Int→Int→Option Int} {least:Int} {nn d:Nat} {R X:List Int}
theorem fX_nil:fX q least nn d [] = dn q least nn d:=by
 funext b
 unfold fX
 cases dn q least nn d b <;> simp
theorem Nxt.done (hn:1≤nn) (k:Nxt q least nn d (lv q least nn d) X):(∀ b,b∈X↔b∈lv q least nn (d+1))∧fX q least nn d X=dn q least nn (d+1):=by
 have key:∀ b,b∈X↔(dn q least nn d b=none∧∃ a:Int,(0≤a∧a<nn)∧dn q least nn d a=some d∧b∈nr q least nn a):=by
  intro b
  constructor
  ·intro hb
   obtain ⟨h1,a,h2,h3⟩:=k.mem b hb
   have h4:=(mem_lv hn).mp h2
   exact ⟨h1,a,dn_range hn h4,h4,h3⟩
  ·rintro ⟨h1,a,h2,h3,h4⟩
   exact (k.cov a ((mem_lv hn).mpr h3) b h4).resolve_left (fun e=>e h1)
 constructor
 ·intro b
  rw [mem_lv hn,key,dn_succ]
  constructor
  ·rintro ⟨h1,h2⟩
   exact .inr ⟨h1,rfl,h2⟩
  ·rintro (h|⟨h1,_,h2⟩)
   ·have:=dn_le h;omega
   ·exact ⟨h1,h2⟩
 ·funext b
  unfold fX
  cases hd:dn q least nn d b with
  | some r=>exact (dn_keep hd 1).symm
  | none=>
   simp only
   by_cases hb:b∈X
   ·rw [if_pos hb]
    obtain ⟨_,h2⟩:=(key b).mp hb
    exact (dn_succ.mpr (.inr ⟨hd,rfl,h2⟩)).symm
   ·rw [if_neg hb]
    cases h2:dn q least nn (d+1) b with
    | none=>rfl
    | some r=>
     rcases dn_succ.mp h2 with h3|⟨_,_,h3⟩
     ·rw [hd] at h3;cases h3
     ·exact absurd ((key b).mpr ⟨hd,h3⟩) hb
theorem Nxt.len (hn:1≤nn) (k:Nxt q least nn d R X):X.length≤nn:=by
 have:∀ {l m:List Int},l.Nodup→(∀ x∈l,x∈m)→l.length≤m.length:=by
  intro l
  induction l with
  | nil=>intro m _ _;simp
  | cons a l ih=>
   intro m hn hm
   rw [List.nodup_cons] at hn
   have ha:=hm a (by simp)
   have:=ih (m:=m.erase a) hn.2 (fun x hx=>(List.mem_erase_of_ne (fun e=>hn.1 (by rw [←e];exact hx))).mpr (hm x (by simp [hx])))
   rw [List.length_erase_of_mem ha] at this
   have:=List.length_pos_of_mem ha
   rw [List.length_cons]
   omega
 have h3:(ints nn).length=nn:=by simp [ints]
 rw [←h3]
 refine this k.nd fun x hx=>?_
 obtain ⟨_,a,_,h⟩:=k.mem x hx
 exact mem_ints.mpr (mem_nr.mp h).1
theorem Nxt.skip (k:Nxt q least nn d R X) {a b:Int} (h:fX q least nn d X b≠none):dn q least nn d b≠none∨b∈X:=by
 unfold fX at h
 cases hd:dn q least nn d b with
 | some r=>exact .inl (by simp)
 | none=>
  rw [hd] at h
  simp only at h
  by_cases hb:b∈X
  ·exact .inr hb
  ·rw [if_neg hb] at h;exact absurd rfl h
theorem fX_none {b:Int} (h:fX q least nn d X b=none):dn q least nn d b=none∧b∉X:=by
 unfold fX at h
 cases hd:dn q least nn d b with
 | some r=>rw [hd] at h;cases h
 | none=>
  rw [hd] at h
  simp only at h
  by_cases hb:b∈X
  ·rw [if_pos hb] at h;cases h
  ·exact ⟨rfl,hb⟩
theorem Nxt.add (k:Nxt q least nn d R X) {a b:Int} (h:fX q least nn d X b=none) (ha:a∈lv q least nn d) (hb:b∈nr q least nn a):Nxt q least nn d R (X++[b]):=by
 obtain ⟨h1,h2⟩:=fX_none h
 refine ⟨?_,fun x hx=>?_,fun a' ha' b' hb'=>(k.cov a' ha' b' hb').imp_right fun e=>List.mem_append.mpr (.inl e)⟩
 ·rw [List.nodup_append]
  refine ⟨k.nd,by simp,fun x hx y hy e=>?_⟩
  have hy:=List.mem_singleton.mp hy
  subst hy
  subst e
  exact h2 hx
 ·rcases List.mem_append.mp hx with hx|hx
  ·exact k.mem x hx
  ·have hx:=List.mem_singleton.mp hx
   subst hx
   exact ⟨h1,a,ha,hb⟩
theorem fX_add {b:Int} (h:fX q least nn d X b=none):fX q least nn d (X++[b])=fun y=>if y=b then some (d+1) else fX q least nn d X y:=by
 obtain ⟨h1,h2⟩:=fX_none h
 funext y
 by_cases e:y=b
 ·subst e
  unfold fX
  rw [h1]
  simp
 ·unfold fX
  cases dn q least nn d y <;> simp [e]
theorem fX_at {a:Int} (hn:1≤nn) (h:a∈lv q least nn d):fX q least nn d X a=some d:=by
 have:=(mem_lv hn).mp h
 unfold fX
 rw [this]
end
section
variable {g m:Nat} {q:Int→Int→Option Int} {h:Hp} {P:AV→Hp→Prop} {nn:Nat} {least:Int}
section
variable (h:Hp) (g:Nat) (q:Int→Int→Option Int) (least:Int) (nn:Nat)
def BuL (l:List (Nat × TV)):Prop:=lk l 0 = .v (.c (.ptr g 0 0 0))∧lk l 1 = .v (.c (.int .i64 least))∧lk l 5 = .v (.c (.ptr (h.n+2) 0 0 0))
def BuA (k:Nat) (s:St):Prop:=
 ∃ (d:Nat) (ord row:CV) (h':Hp) (l:List (Nat × TV)) (lc:List (List CV)),s=ST 105 l lc h'∧d≤nn∧k=nn-d∧BS h h' (dn q least nn d) (fun _=>none) ord .nils (ordL q least nn d) []∧Bd h h' ord .nils row (lv q least nn d)∧BuL h g least l∧lk l 6 = .v (.c row)
def BuB (d:Nat) (row:CV) (k:Nat) (s:St):Prop:=
 ∃ (i:Nat) (X:List Int) (ord nx:CV) (h':Hp) (l:List (Nat × TV)) (lc:List (List CV)),s=ST 105 l lc h'∧i≤(lv q least nn d).length∧k=(lv q least nn d).length-i∧Nxt q least nn d ((lv q least nn d).take i) X∧BS h h' (fX q least nn d X) (fun _=>none) ord nx (ordL q least nn d++(lv q least nn d).take i) X∧
  Bd h h' ord nx row (lv q least nn d)∧BuL h g least l∧lk l 7 = .v (.c nx)∧lk l 27 = .v (.c row)∧lk l 28 = .v (.c (.int .i64 (lv q least nn d).length))∧lk l 29 = .v (.c (.int .i64 i))
def BuC (d i:Nat) (row near:CV) (a:Int) (k:Nat) (s:St):Prop:=
 ∃ (j:Nat) (X:List Int) (ord nx:CV) (h':Hp) (l:List (Nat × TV)) (lc:List (List CV)),s=ST 105 l lc h'∧j≤(nr q least nn a).length∧k=(nr q least nn a).length-j∧Nxt q least nn d ((lv q least nn d).take i) X∧(∀ b∈(nr q least nn a).take j,dn q least nn d b≠none∨b∈X)∧BS h h' (fX q least nn d X) (fun _=>none) ord nx (ordL q least nn d++(lv q least nn d).take (i+1)) X∧
  Bd h h' ord nx row (lv q least nn d)∧Bd h h' ord nx near (nr q least nn a)∧BuL h g least l∧lk l 7 = .v (.c nx)∧lk l 9 = .v (.c (.int .i64 a))∧lk l 27 = .v (.c row)∧lk l 28 = .v (.c (.int .i64 (lv q least nn d).length))∧lk l 29 = .v (.c (.int .i64 i))∧
  lk l 46 = .v (.c near)∧lk l 47 = .v (.c (.int .i64 (nr q least nn a).length))∧lk l 48 = .v (.c (.int .i64 j))
def BuD (ord:CV) (k:Nat) (s:St):Prop:=
 ∃ (i:Nat) (p:Int→Option CV) (h':Hp) (l:List (Nat × TV)) (lc:List (List CV)),s=ST 105 l lc h'∧i≤(ordL q least nn nn).length∧k=(ordL q least nn nn).length-i∧BS h h' (rk q least nn) p ord .nils (ordL q least nn nn) []∧(∀ b v,p b=some v→b∈(ordL q least nn nn).take i∧SL h' 1 v (rI (fol q least nn (rk q least nn) b)))∧
  (∀ b∈(ordL q least nn nn).take i,p b≠none)∧BuL h g least l∧lk l 87 = .v (.c ord)∧lk l 88 = .v (.c (.int .i64 (ordL q least nn nn).length))∧lk l 89 = .v (.c (.int .i64 i))
end
theorem build_ok {F:Nat} (hF:29≤F) (hg:Gr h g m nn q) (hnn:1≤nn∧nn≤16) (hq:∀ a b,qual q a b≤255)
 (hP:∀ h' t,TrF h' t (rk q least nn) (fol q least nn (rk q least nn)) (ordL q least nn nn)→Fn h h'→P (.c (.ptr t 0 0 0)) h'):callW N F 196 [.c (.ptr g 0 0 0),.c (.int .i64 least)] h P:=by
 obtain ⟨k,rfl⟩:∃ k,F=k+3:=⟨F-3,by omega⟩
 have hn1:=hnn.1
 obtain ⟨h1,hh1⟩:∃ h1,h1=h.push (.map true [] 0):=⟨_,rfl⟩
 have n1:h1.n=h.n+1:=by rw [hh1,n_push]
 have g1:h1.g h.n=some (.map true [] 0):=by rw [hh1,g_push_eq]
 have hz:∀ b,dn q least nn 0 b=if b=0 then some 0 else none:=fun b=>rfl
 obtain ⟨es,c,u1,u2⟩:=mupd_ok (kt:=.int .i64) (M:=fun _=>none) (M':=mrk (dn q least nn 0)) (k:=.c (.int .i64 0)) (x:=.c (.int .i64 0)) g1 (IsMap.nil (fun _=>rfl)) rfl (by simp [mrk,hz]) (fun k' hk=>by
  unfold mrk
  split
  ·rename_i b
   rw [hz,if_neg (fun e=>hk (by rw [e]))]
   rfl
  ·rfl)
 obtain ⟨h2,hh2⟩:∃ h2,h2=h1.put h.n (.map true es c):=⟨_,rfl⟩
 have n2:h2.n=h.n+1:=by rw [hh2,n_put,n1]
 have g2:h2.g h.n=some (.map true es c):=by rw [hh2,g_put_eq,g1];rfl
 obtain ⟨h3,hh3⟩:∃ h3,h3=h2.push (.map true [] 0):=⟨_,rfl⟩
 have n3:h3.n=h.n+2:=by rw [hh3,n_push,n2]
 obtain ⟨h4,hh4⟩:∃ h4,h4=h3.push (.rows true 3 0 0 [[.map h.n,.map (h.n+1),.nils]]):=⟨_,rfl⟩
 have n4:h4.n=h.n+3:=by rw [hh4,n_push,n3]
 obtain ⟨h5,hh5⟩:∃ h5,h5=h4.push (.rows true 1 0 0 [[.int .i64 0]]):=⟨_,rfl⟩
 have g3:h3.g (h.n+1)=some (.map true [] 0):=by rw [hh3,←n2,g_push_eq]
 have g3':h3.g h.n=some (.map true es c):=by rw [hh3,g_push_ne _ _ (by omega)];exact g2
 have g4:h4.g (h.n+2)=some (.rows true 3 0 0 [[.map h.n,.map (h.n+1),.nils]]):=by rw [hh4,←n3,g_push_eq]
 have f4:Fn h h4:=by
  have a1:Fn h h1:=by rw [hh1];exact Fm.push _ _ _
  have a2:Fn h h2:=by rw [hh2];exact a1.putNew _ (Nat.le_refl _)
  have a3:Fn h h3:=by rw [hh3];exact a2.trans (Fm.push _ _ _)
  rw [hh4]
  exact a3.trans (Fm.push _ _ _)
 have b4:BS h h4 (dn q least nn 0) (fun _=>none) .nils .nils [] []:=by
  refine ⟨by omega,f4,g4,⟨es,c,by rw [hh4,g_push_ne _ _ (by omega)];exact g3',u2⟩,⟨[],0,by rw [hh4,g_push_ne _ _ (by omega)];exact g3,IsMap.nil (fun k=>?_)⟩,rfl,rfl,fun _ e=>e.elim,fun _ e=>e.elim⟩
  unfold mpv
  split <;> rfl
 have f5:Fn h4 h5:=by rw [hh5];exact Fm.push _ _ _
 have b5:=b4.fresh f5
 have hl0:lv q least nn 0=[0]:=by
  refine asc_eq (lv_asc 0) (List.pairwise_singleton _ _) fun b=>?_
  rw [mem_lv hn1,dn_zero]
  simp
 have d5:Bd h h5 .nils .nils (.sl (h.n+3) 0 0 1 (some 1)) (lv q least nn 0):=by
  refine ⟨?_,fun id tok off len cap e=>?_⟩
  ·rw [hl0,hh5,←n4]
   exact sl_push _ _ _ _ _ rfl rfl _
  ·injection e with e
   subst e
   exact ⟨Nat.le_refl _,fun e=>e,fun e=>e⟩
 have hfold1:=hh1.symm
 have hfold3:=hh3.symm
 have hfold4:=hh4.symm
 have hfold5:=hh5.symm
 rw [←hh2] at u1
 refine call_intro rfl (by simp only [List.length_cons,List.length_nil];omega) ?_
 simp -implicitDefEqProofs only [KK,eq_self,↓reduceIte,reduceLT,reduceEqDiff,reduceAdd,reduceLeDiff,reduceCtorEq,hfold1,u1,n2,hfold3,n3,hfold4,n4,hfold5]
 clear hfold1 hfold3 hfold4 hfold5 u1 hh1 hh2 hh3 hh4 hh5 g1 g2 g3 g3' g4
 refine loop_rd (callW_mono N _) (BuA h g q least nn) (n:=nn) ⟨0,.nils,_,h5,_,_,rfl,by omega,by omega,by simpa [ordL] using b5,d5,⟨rfl,rfl,rfl⟩,rfl⟩ ?_
 clear b4 b5 d5 f4 f5 n1 n2 n3 n4
 rintro k1 s ⟨d,ord,row,h1,l,lc,rfl,hd,hk1,hB,hR,⟨e0,e1,e5⟩,e6⟩
 have hlen:∀ h':Hp,lenT h' .sl (.v (.c row))=some ((lv q least nn d).length:Int):=fun h'=>by rw [hR.sl.len h',rI_len]
 by_cases hlt:(0:Int)<((lv q least nn d).length:Int)
 ·have hne:lv q least nn d≠[]:=by intro e;rw [e] at hlt;simp at hlt
  have hdn:=lv_lt hn1 hne
  simp -implicitDefEqProofs only [KK,eq_self,↓reduceIte,reduceLT,reduceEqDiff,reduceCtorEq,e0,e1,e5,e6,hlen,hlt]
  refine loop_rd (callW_mono N _) (BuB h g q least nn d row) (n:=(lv q least nn d).length) ⟨0,[],ord,.nils,h1,_,_,rfl,by omega,by omega,⟨by simp,by simp,by simp⟩,by rw [fX_nil];simpa using hB,hR,⟨rfl,rfl,rfl⟩,rfl,rfl,rfl,rfl⟩ ?_
  clear hB hR e0 e1 e5 e6
  rintro k2 s ⟨i,X,ord,nx,h1,l,lc,rfl,hi,hk2,hX,hB,hR,⟨e0,e1,e5⟩,e7,e27,e28,e29⟩
  have hll:(lv q least nn d).length≤nn:=by
   have:=List.length_filter_le (fun b=>decide (dn q least nn d b=some d)) (ints nn)
   have h3:(ints nn).length=nn:=by simp [ints]
   unfold lv
   omega
  by_cases hlt2:(i:Int)<((lv q least nn d).length:Int)
  ·have hil:i<(lv q least nn d).length:=by omega
   obtain ⟨a,ha⟩:=some_at (L:=lv q least nn d) (i:=i) hil
   have ham:a∈lv q least nn d:=List.mem_of_getElem? ha
   have har:=dn_range hn1 ((mem_lv hn1).mp ham)
   have hrow:(rI (lv q least nn d))[(i:Int).toNat]? = some [.int .i64 a]:=by simp [rI,ha]
   obtain ⟨p1,p2,p3,a1,a2⟩:=hR.sl.at (by omega) hrow
   have hw:=wrap_i64 (n:=(i:Int)+1) (by omega)
   have hs:=take_snoc ha
   have hol:=ordL_len (q:=q) (least:=least) hn1 d
   obtain ⟨ord',h2,q1,q2,q3,q4⟩:=hB.o.app (lc:=[[.int .i64 a]]) (x:=.lsl 0 1) (xs:=[[.int .i64 a]]) rfl (by simp) (bytes:=8) (by
    rw [rI_len,List.length_append,List.length_take]
    simp only [room,List.length_singleton]
    omega)
   have ht1:=hB.t
   have ht2:h2.g (h.n+2)=some (.rows true 3 0 0 [[.map h.n,.map (h.n+1),ord]]):=q3.some ht1 (fun e=>by have:=hB.oi _ e;omega)
   obtain ⟨h3,hh3⟩:∃ h3,h3=h2.put (h.n+2) (.rows true 3 0 0 [[.map h.n,.map (h.n+1),ord']]):=⟨_,rfl⟩
   have hB3:BS h h3 (fX q least nn d X) (fun _=>none) ord' nx (ordL q least nn d++(lv q least nn d).take (i+1)) X:=by
    rw [hh3]
    refine hB.puto q3 ?_ q4
    rw [hs,←List.append_assoc]
    simpa [rI] using q2
   have hR3:Bd h h3 ord' nx row (lv q least nn d):=by
    rw [hh3]
    exact (hR.step q3 (fun j hj=>.inr (.inl hj)) (fun j hj=>(q4 j hj).imp_right .inr) (fun j hj=>.inl hj)).step (S:=fun j=>j=h.n+2) (Fm.put _ _ rfl) (fun j hj=>.inl (by omega)) (fun j hj=>.inl hj) (fun j hj=>.inl hj)
   have hfold3:=hh3.symm
   simp -implicitDefEqProofs only [KK,eq_self,↓reduceIte,reduceLT,reduceEqDiff,reduceAdd,reduceCtorEq,e0,e1,e5,e7,e27,e28,e29,hlt2,a1,a2,ht1,q1,ht2,hfold3]
   refine near_ok (hg.new hB3.fn) (by omega) fun near h4 hno f4 hid=>?_
   rw [if_pos har,Int.toNat_natCast] at hno
   have hN:(nr q least nn a).length≤nn:=nearL_len q a least nn
   have hlenN:∀ h':Hp,lenT h' .sl (.v (.c near))=some ((nr q least nn a).length:Int):=fun h'=>by rw [hno.sl.len h',rI_len]
   have hB4:=hB3.fresh f4
   have hR4:Bd h h4 ord' nx row (lv q least nn d):=hR3.step f4 (fun j hj=>hj.elim) (fun j hj=>.inl hj) (fun j hj=>.inl hj)
   have hN4:Bd h h4 ord' nx near (nr q least nn a):=by
    refine ⟨hno.sl,fun id tok off len cap e=>?_⟩
    have h0:h3.n≤id:=hid id (by rw [e];rfl)
    refine ⟨by have:=hB3.n;omega,fun e2=>?_,fun e2=>?_⟩
    ·have:=hB3.o.lt e2;omega
    ·have:=hB3.x.lt e2;omega
   simp -implicitDefEqProofs only [KK,eq_self,↓reduceIte,reduceLT,reduceEqDiff,reduceCtorEq,hlenN]
   refine loop_rd (callW_mono N _) (BuC h g q least nn d i row near a) (n:=(nr q least nn a).length) ⟨0,X,ord',nx,h4,_,_,rfl,by omega,by omega,hX,by simp,hB4,hR4,hN4,⟨rfl,rfl,rfl⟩,rfl,rfl,rfl,rfl,rfl,rfl,rfl,rfl⟩ ?_
   clear hX hB hR e0 e1 e5 e7 e27 e28 e29 q1 q2 q3 q4 ht1 ht2 hh3 hB3 hR3 hfold3 hB4 hR4 hN4 f4 hno hid a1 a2
   rintro k3 s ⟨j,X,ord,nx,h1,l,lc,rfl,hj,hk3,hX,hXj,hB,hR,hNr,⟨e0,e1,e5⟩,e7,e9,e27,e28,e29,e46,e47,e48⟩
   by_cases hlt3:(j:Int)<((nr q least nn a).length:Int)
   ·have hjl:j<(nr q least nn a).length:=by omega
    obtain ⟨b,hb⟩:=some_at (L:=nr q least nn a) (i:=j) hjl
    have hbm:b∈nr q least nn a:=List.mem_of_getElem? hb
    have hrow2:(rI (nr q least nn a))[(j:Int).toNat]? = some [.int .i64 b]:=by simp [rI,hb]
    obtain ⟨p1,p2,p3,a1,a2⟩:=hNr.sl.at (by omega) hrow2
    have hwj:=wrap_i64 (n:=(j:Int)+1) (by omega)
    have hsj:=take_snoc hb
    obtain ⟨es,c,r1,r2⟩:=hB.r
    have ht1:=hB.t
    have lkb:=look_ok (k:=.c (.int .i64 b)) r1 r2 rfl
    have lka:=look_ok (k:=.c (.int .i64 a)) r1 r2 rfl
    simp only [mrk,fX_at hn1 ham,Option.map_some] at lkb lka
    have hXl:=hX.len hn1
    cases hf:fX q least nn d X b with
    | some r=>
     rw [hf] at lkb
     simp -implicitDefEqProofs only [KK,eq_self,↓reduceIte,reduceLT,reduceEqDiff,reduceCtorEq,e0,e1,e5,e7,e9,e27,e28,e29,e46,e47,e48,hlt3,a1,a2,ht1,lkb,Option.getD_some,Option.isSome_some,hwj,rd_n]
     refine ⟨k3-1,by omega,j+1,X,ord,nx,h1,_,_,rfl,by omega,by omega,hX,?_,hB,hR,hNr,⟨rfl,rfl,rfl⟩,rfl,rfl,rfl,rfl,rfl,rfl,rfl,rfl⟩
     intro y hy
     rw [hsj] at hy
     rcases List.mem_append.mp hy with hy|hy
     ·exact hXj y hy
     ·have hy:=List.mem_singleton.mp hy
      subst hy
      exact hX.skip (a:=a) (by rw [hf];simp)
    | none=>
     rw [hf] at lkb
     have wd:=wrap_i64 (n:=(d:Int)+1) (by omega)
     obtain ⟨es',c',u1,u2⟩:=mupd_ok (kt:=.int .i64) (M':=mrk (fX q least nn d (X++[b]))) (k:=.c (.int .i64 b)) (x:=.c (.int .i64 ((d:Int)+1))) r1 r2 rfl (by simp [mrk,fX_add hf]) (fun k' hk=>by
      unfold mrk
      split
      ·rename_i y
       rw [fX_add hf]
       simp only
       rw [if_neg (fun e=>hk (by rw [e]))]
      ·rfl)
     obtain ⟨h2,hh2⟩:∃ h2,h2=h1.put h.n (.map true es' c'):=⟨_,rfl⟩
     have hB2:BS h h2 (fX q least nn d (X++[b])) (fun _=>none) ord nx (ordL q least nn d++(lv q least nn d).take (i+1)) X:=by rw [hh2];exact hB.putr u2
     have fr2:Fm (fun j=>j=h.n) h1 h2:=by rw [hh2];exact Fm.put _ _ rfl
     have hR2:Bd h h2 ord nx row (lv q least nn d):=hR.step fr2 (fun j hj=>.inl (by omega)) (fun j hj=>.inl hj) (fun j hj=>.inl hj)
     have hN2:Bd h h2 ord nx near (nr q least nn a):=hNr.step fr2 (fun j hj=>.inl (by omega)) (fun j hj=>.inl hj) (fun j hj=>.inl hj)
     rw [←hh2] at u1
     obtain ⟨nx',h3,q1,q2,q3,q4⟩:=hB2.x.app (lc:=[[.int .i64 b]]) (x:=.lsl 0 1) (xs:=[[.int .i64 b]]) rfl (by simp) (bytes:=8) (by
      rw [rI_len]
      simp only [room,List.length_singleton]
      omega)
     have hB3:BS h h3 (fX q least nn d (X++[b])) (fun _=>none) ord nx' (ordL q least nn d++(lv q least nn d).take (i+1)) (X++[b]):=hB2.putx q3 (by simpa [rI] using q2) q4
     simp -implicitDefEqProofs only [KK,eq_self,↓reduceIte,reduceLT,reduceEqDiff,reduceCtorEq,e0,e1,e5,e7,e9,e27,e28,e29,e46,e47,e48,hlt3,a1,a2,ht1,lkb,lka,Option.getD_some,Option.getD_none,Option.isSome_none,wd,u1,q1,hwj,rd_n]
     refine ⟨k3-1,by omega,j+1,X++[b],ord,nx',h3,_,_,rfl,by omega,by omega,hX.add hf ham hbm,?_,hB3,hR2.step q3 (fun j hj=>.inr (.inr hj)) (fun j hj=>.inl hj) q4,hN2.step q3 (fun j hj=>.inr (.inr hj)) (fun j hj=>.inl hj) q4,⟨rfl,rfl,rfl⟩,rfl,rfl,rfl,rfl,rfl,rfl,rfl,rfl⟩
     intro y hy
     rw [hsj] at hy
     rcases List.mem_append.mp hy with hy|hy
     ·exact (hXj y hy).imp_right fun e=>List.mem_append.mpr (.inl e)
     ·have hy:=List.mem_singleton.mp hy
      subst hy
      exact .inr (by simp)
   ·have hjl:j=(nr q least nn a).length:=by omega
    subst hjl
    rw [List.take_length] at hXj
    simp -implicitDefEqProofs only [KK,eq_self,↓reduceIte,reduceLT,reduceEqDiff,reduceCtorEq,e0,e1,e5,e7,e9,e27,e28,e29,e46,e47,e48,hlt3,hw,rd_n]
    refine ⟨k2-1,by omega,i+1,X,ord,nx,h1,_,_,rfl,by omega,by omega,⟨hX.nd,hX.mem,fun a' ha' b' hb'=>?_⟩,hB,hR,⟨rfl,rfl,rfl⟩,rfl,rfl,rfl,rfl⟩
    rw [hs] at ha'
    rcases List.mem_append.mp ha' with ha'|ha'
    ·exact hX.cov a' ha' b' hb'
    ·have ha':=List.mem_singleton.mp ha'
     subst ha'
     exact hXj b' hb'
  ·have hil:i=(lv q least nn d).length:=by omega
   subst hil
   rw [List.take_length] at hX hB
   have hXd:=hX.done hn1
   have hXl:=hX.len hn1
   simp -implicitDefEqProofs only [KK,eq_self,↓reduceIte,reduceLT,reduceEqDiff,reduceCtorEq,e0,e1,e5,e7,e27,e28,e29,hlt2]
   refine sortI_ok (by omega) hB.x (by omega) hX.nd fun h2 T t1 t2 t3 t4=>?_
   have hTl:T=lv q least nn (d+1):=asc_eq t2 (lv_asc _) fun b=>by rw [t1.mem_iff];exact hXd.1 b
   simp -implicitDefEqProofs only [KK,eq_self,↓reduceIte,reduceLT,reduceEqDiff,reduceCtorEq,rd_n]
   have hB2:BS h h2 (dn q least nn (d+1)) (fun _=>none) ord .nils (ordL q least nn (d+1)) []:=by
    have hB0:=hB.drop
    obtain ⟨n,fn,t,⟨es0,c0,r1,r2⟩,⟨es',c',p1,p2⟩,o,x,oi,xi⟩:=hB0
    have ne:∀ i,i<h.n+3→¬ownId nx i:=fun i hi e=>by have:=(hB.xi i e).1;omega
    rw [hXd.2] at r2
    exact ⟨Nat.le_trans n t4.n,fn.fresh t4 (fun j hj=>by have:=(hB.xi j hj).1;omega),t4.some t (ne _ (by omega)),⟨es0,c0,t4.some r1 (ne _ (by omega)),r2⟩,⟨es',c',t4.some p1 (ne _ (by omega)),p2⟩,by rw [ordL_succ];exact o.mono t4 (fun j hj e=>(hB.xi j e).2 hj),rfl,oi,fun _ e=>e.elim⟩
   refine ⟨nn-(d+1),by omega,d+1,ord,nx,h2,_,_,rfl,by omega,rfl,hB2,⟨by rw [←hTl];exact t3,fun id tok off len cap e=>?_⟩,⟨rfl,rfl,rfl⟩,rfl⟩
   have:=hB.xi id (by rw [e];rfl)
   exact ⟨this.1,this.2,fun e=>e⟩
 ·have hnil:lv q least nn d=[]:=List.eq_nil_of_length_eq_zero (by omega)
  have hrk:dn q least nn d=rk q least nn:=funext (rk_stay hn1 hnil)
  have hol:=ordL_stay (q:=q) (least:=least) hn1 hnil
  rw [hrk,hol] at hB
  have ht1:=hB.t
  have hlo:∀ h':Hp,lenT h' .sl (.v (.c ord))=some ((ordL q least nn nn).length:Int):=fun h'=>by rw [hB.o.sl.len h',rI_len]
  have holl:=ordL_len (q:=q) (least:=least) hn1 nn
  simp -implicitDefEqProofs only [KK,eq_self,↓reduceIte,reduceLT,reduceEqDiff,reduceCtorEq,e0,e1,e5,e6,hlen,hlt,ht1,hlo]
  refine loop_rd (callW_mono N _) (BuD h g q least nn ord) (n:=(ordL q least nn nn).length) ⟨0,fun _=>none,h1,_,_,rfl,by omega,by omega,hB,(fun b v e=>by cases e),by simp,⟨rfl,rfl,rfl⟩,rfl,rfl,rfl⟩ ?_
  clear hB hR ht1 e0 e1 e5 e6
  rintro k2 s ⟨i,p,h1,l,lc,rfl,hi,hk2,hB,hp,hpn,⟨e0,e1,e5⟩,e87,e88,e89⟩
  have ht1:=hB.t
  by_cases hlt2:(i:Int)<((ordL q least nn nn).length:Int)
  ·have hil:i<(ordL q least nn nn).length:=by omega
   obtain ⟨b,hb⟩:=some_at (L:=ordL q least nn nn) (i:=i) hil
   have hbm:b∈ordL q least nn nn:=List.mem_of_getElem? hb
   obtain ⟨rb,_,hrb⟩:=(mem_ordL hn1).mp hbm
   have hrow:(rI (ordL q least nn nn))[(i:Int).toNat]? = some [.int .i64 b]:=by simp [rI,hb]
   obtain ⟨p1,p2,p3,a1,a2⟩:=hB.o.sl.at (by omega) hrow
   have hw:=wrap_i64 (n:=(i:Int)+1) (by omega)
   have hs:=take_snoc hb
   simp -implicitDefEqProofs only [KK,eq_self,↓reduceIte,reduceLT,reduceEqDiff,reduceCtorEq,e0,e1,e5,e87,e88,e89,hlt2,a1,a2,ht1]
   refine follows_ok (rn:=rb) (by omega) (hg.new hB.fn) hnn.2 ⟨hB.t,hB.r,hB.p⟩ (rk_range hn1 hrb).1 hrb (fun b r e=>by have:=(rk_range hn1 e).2;omega) hq fun h2 v hv f2=>?_
   have hB2:=hB.fresh f2
   obtain ⟨es,c,m1,m2⟩:=hB2.p
   have ht2:=hB2.t
   obtain ⟨es',c',u1,u2⟩:=mupd_ok (kt:=.int .i64) (M':=mpv (fun y=>if y=b then some v else p y)) (k:=.c (.int .i64 b)) (x:=.c v) m1 m2 rfl (by simp [mpv]) (fun k' hk=>by
    unfold mpv
    split
    ·rename_i y
     simp only
     rw [if_neg (fun e=>hk (by rw [e]))]
    ·rfl)
   obtain ⟨h3,hh3⟩:∃ h3,h3=h2.put (h.n+1) (.map true es' c'):=⟨_,rfl⟩
   have hB3:BS h h3 (rk q least nn) (fun y=>if y=b then some v else p y) ord .nils (ordL q least nn nn) []:=by rw [hh3];exact hB2.putp u2
   have fr3:Fm (fun j=>j=h.n+1) h2 h3:=by rw [hh3];exact Fm.put _ _ rfl
   have keep:∀ v L,SL h2 1 v L→SL h3 1 v L:=fun v L hs=>hs.mono fr3 (by
    rintro id tok off len cap rfl e
    obtain ⟨wr,cur,lw,rs,hgg,_⟩:=hs
    rw [e,m1] at hgg
    cases hgg)
   rw [←hh3] at u1
   simp -implicitDefEqProofs only [KK,eq_self,↓reduceIte,reduceLT,reduceEqDiff,reduceCtorEq,ht2,u1,hw,rd_n]
   refine ⟨k2-1,by omega,i+1,_,h3,_,_,rfl,by omega,by omega,hB3,fun y w hy=>?_,fun y hy=>?_,⟨rfl,rfl,rfl⟩,rfl,rfl,rfl⟩
   ·have hy:(if y=b then some v else p y)=some w:=hy
    rw [hs]
    by_cases e:y=b
    ·rw [if_pos e] at hy
     obtain rfl:=Option.some.inj hy
     rw [e]
     exact ⟨by simp,keep _ _ hv⟩
    ·rw [if_neg e] at hy
     obtain ⟨k1,k2⟩:=hp y w hy
     exact ⟨List.mem_append.mpr (.inl k1),keep _ _ (k2.new f2)⟩
   ·show (if y=b then some v else p y)≠none
    by_cases e:y=b
    ·rw [if_pos e];simp
    ·rw [if_neg e]
     rw [hs] at hy
     rcases List.mem_append.mp hy with hy|hy
     ·exact hpn y hy
     ·exact absurd (List.mem_singleton.mp hy) e
  ·have hil:i=(ordL q least nn nn).length:=by omega
   subst hil
   rw [List.take_length] at hp hpn
   simp -implicitDefEqProofs only [KK,eq_self,↓reduceIte,reduceLT,reduceEqDiff,reduceCtorEq,e0,e1,e5,e87,e88,e89,hlt2]
   refine hP h1 (h.n+2) ⟨h.n,h.n+1,p,ord,⟨hB.t,hB.r,hB.p⟩,hB.o.sl,fun n v hv=>(hp n v hv).2,fun n hn=>fol_none ?_⟩ hB.fn
   cases hr:rk q least nn n with
   | none=>rfl
   | some r=>exact absurd hn (hpn n ((mem_ordL hn1).mpr ⟨r,(rk_range hn1 hr).2,hr⟩))
end
end
section
set_option maxHeartbeats 4000000
theorem sl_take {h:Hp} {sz id n:Nat} {rows:List (List CV)} (e:h.obs[id]? = some (.rows false sz 0 0 rows)) (hn:n≤rows.length) (c:Option Nat):SL h sz (.sl id 0 0 n c) (rows.take n):=
 ⟨false,0,0,rows,by rw [g_def] at *;exact e,Nat.le_refl _,by omega,by simp⟩
theorem wtr_links {hp:Hp} {rows:List (List CV)} {b:Nat} (h:WTR hp [.int .i64,.int .i64,.int .i64] rows b):∃ L,rows=rL L:=by
 induction rows generalizing b with
 | nil=>exact ⟨[],rfl⟩
 | cons r rs ih=>
  cases h with
  | cons h1 h2=>
   obtain ⟨L,rfl⟩:=ih h2
   cases h1 with
   | int _ h1=>cases h1 with
    | int _ h1=>cases h1 with
     | int _ h1=>cases h1;exact ⟨⟨_,_,_⟩::L,rfl⟩
theorem wt_links {hp:Hp} {w:CV} {s:List Sc} {cs:List CV} {b:Nat} (h:WT hp (.sl [.int .i64,.int .i64,.int .i64]::s) (w::cs) b):(∃ L,SL hp 3 w (rL L))∧∃ b',WT hp s cs b':=by
 cases h with
 | nils h=>exact ⟨⟨[],rfl⟩,_,h⟩
 | sl e hn hr h=>
  rename_i id n c rows b'
  obtain ⟨L,rfl⟩:=wtr_links hr
  refine ⟨⟨L.take n,?_⟩,_,h⟩
  have:=sl_take e hn (some (rL L).length)
  rw [show rL (L.take n)=(rL L).take n from List.map_take]
  exact this
theorem wtr_calls {hp:Hp} {rows:List (List CV)} {b:Nat} (h:WTR hp [.bool,.int .i64,.sl [.int .i64,.int .i64,.int .i64]] rows b):∃ C,rows=rC C∧∀ c∈C,SL hp 3 c.v (rL c.L):=by
 induction rows generalizing b with
 | nil=>exact ⟨[],rfl,by simp⟩
 | cons r rs ih=>
  cases h with
  | cons h1 h2=>
   obtain ⟨C,rfl,hC⟩:=ih h2
   cases h1 with
   | bool h1=>cases h1 with
    | int _ h1=>
     rename_i cs _ _
     cases cs with
     | nil=>cases h1
     | cons w cs=>
      obtain ⟨⟨L,hL⟩,b',h3⟩:=wt_links h1
      cases h3
      refine ⟨⟨_,_,w,L⟩::C,rfl,?_⟩
      intro c hc
      rcases List.mem_cons.mp hc with rfl|hc
      ·exact hL
      ·exact hC c hc
theorem wt_calls {hp:Hp} {w:CV} {b:Nat} (h:WT hp [.sl [.bool,.int .i64,.sl [.int .i64,.int .i64,.int .i64]]] [w] b):∃ C,SL hp 3 w (rC C)∧∀ c∈C,SL hp 3 c.v (rL c.L):=by
 cases h with
 | nils h=>exact ⟨[],rfl,by simp⟩
 | sl e hn hr h=>
  rename_i id n c rows b'
  obtain ⟨C,rfl,hC⟩:=wtr_calls hr
  refine ⟨C.take n,?_,fun c hc=>hC c (List.mem_of_mem_take hc)⟩
  have:=sl_take e hn (some (rC C).length)
  rw [show rC (C.take n)=(rC C).take n from List.map_take]
  exact this
variable {k g m r:Nat} {nn:Int} {q:Int→Int→Option Int} {Q:Nat→Nat→Int} {h:Hp} {P:AV→Hp→Prop}
section
variable {k g m r:Nat} {nn:Int} {q:Int→Int→Option Int} {Q:Nat→Nat→Int} {h:Hp} {P:AV→Hp→Prop}
theorem Rl.qle (hR:Rl nn q Q) (a b:Int):Camp.qual q a b≤255:=by
 unfold Camp.qual
 cases e:q a b with
 | none=>simp only [Option.getD_none];omega
 | some v=>have:=hR.le a b v e;simp only [Option.getD_some];omega
end
section
variable {k g m r:Nat} {nn:Int} {q:Int→Int→Option Int} {Q:Nat→Nat→Int} {h:Hp} {P:AV→Hp→Prop}
def SiI (h:Hp) (v w:CV) (a b:List Int) (n:Nat) (s:St):Prop:=
 ∃ (i:Nat) (l:List (Nat × TV)) (lc:List (List CV)),s=ST 26 l lc h∧i≤a.length∧n=a.length-i∧
  lk l 0 = .v (.c v)∧lk l 1 = .v (.c w)∧lk l 12 = .v (.c (.int .i64 a.length))∧lk l 13 = .v (.c (.int .i64 i))
theorem same_ok {v w:CV} {a:List Int} (hv:SL h 1 v (rI a)) (hw:SL h 1 w (rI a)) (hb:a.length≤1000000) (hP:P (.c (.bool true)) h):callW N (k+1) 13 [.c v,.c w] h P:=by
 have hlen:∀ h':Hp,lenT h' .sl (.v (.c v))=some (a.length:Int):=fun h'=>by rw [hv.len h',rI_len]
 have hlen2:∀ h':Hp,lenT h' .sl (.v (.c w))=some (a.length:Int):=fun h'=>by rw [hw.len h',rI_len]
 refine call_intro rfl (by simp only [List.length_cons,List.length_nil];omega) ?_
 have hd:decide ((a.length:Int)=a.length)=true:=by simp
 simp -implicitDefEqProofs only [KK,eq_self,↓reduceIte,reduceLT,reduceEqDiff,reduceAdd,reduceCtorEq,hlen,hlen2]
 refine loop_rd (callW_mono N _) (SiI h v w a a) (n:=a.length) ?_ ?_
 ·exact ⟨0,_,_,rfl,by omega,by omega,rfl,rfl,rfl,rfl⟩
 rintro n s ⟨i,l,lc,rfl,hi,hn,e0,e1,e12,e13⟩
 by_cases hlt:(i:Int)<a.length
 ·have hi':i<a.length:=by omega
  obtain ⟨y,hy⟩:∃ y,a[i]? = some y:=⟨_,List.getElem?_eq_getElem hi'⟩
  have hrow:(rI a)[((i:Int)).toNat]? = some [.int .i64 y]:=by simp [rI,hy]
  obtain ⟨pid,ptok,pj,a1,a2⟩:=hv.at (by omega) hrow
  obtain ⟨pid',ptok',pj',b1,b2⟩:=hw.at (by omega) hrow
  have hww:=wrap_i64 (n:=(i:Int)+1) (by omega)
  have hd2:decide (y=y)=true:=by simp
  simp -implicitDefEqProofs only [KK,eq_self,↓reduceIte,reduceLT,reduceEqDiff,reduceCtorEq,e0,e1,e12,e13,hlt,a1,a2,b1,b2,hww,rd_n]
  exact ⟨n-1,by omega,i+1,_,_,rfl,by omega,by omega,rfl,rfl,rfl,rfl⟩
 ·simp -implicitDefEqProofs only [KK,eq_self,↓reduceIte,reduceLT,reduceEqDiff,reduceCtorEq,e0,e1,e12,e13,hlt]
  exact hP
theorem Rl.near (h:Rl nn q Q) (a least:Int) (n:Nat):rnearL nn Q a least n=nearL q a least n:=by
 unfold rnearL nearL
 simp only [h.qual]
end
section
variable {k:Nat} {h:Hp} {P:AV→Hp→Prop}
end
structure Falls (q:Int→Int→Option Int) (least:Int) (nn:Nat) (f:Int→Option Nat) (par:Int→List Int):Prop where
 root:f 0=some 0
 zero:∀ n:Int,f n=some 0→n=0
 range:∀ (n:Int) (r:Nat),f n=some r→(0≤n∧n<nn)∧r<nn
 nil:∀ n:Int,f n = .none→par n=[]
 rootp:par 0=[]
 ne:∀ (n:Int) (r:Nat),f n = .some (r+1)→par n≠[]
 mem:∀ n x:Int,x∈par n→∃ r,f n = .some (r+1)∧f x = .some r∧0<qual q n x∧least≤qual q n x
 len:∀ n:Int,(par n).length≤2
 near:∀ n:Int,0≤n∧n<nn→∀ x∈nr q least nn n,match f n,f x with
  | .some r,.some s=>s≤r+1∧r≤s+1
  | .none,.none=>True
  | _,_=>False
section
variable {q:Int→Int→Option Int} {least:Int} {nn:Nat}
theorem falls (hn:1≤nn) (hq:∀ a b,qual q a b≤255):Falls q least nn (rk q least nn) (fol q least nn (rk q least nn)):=by
 refine ⟨rk_root hn,fun n=>rk_zero hn,fun n r=>rk_range hn,fun n=>fol_none,?_,fun n r h e=>?_,fun n x hx=>?_,fun n=>fol_len n,fun n hnn x hx=>?_⟩
 ·rw [List.eq_nil_iff_forall_not_mem]
  intro b hb
  obtain ⟨_,r,_,h2⟩:=mem_cand.mp (mem_fol hb)
  rw [rk_root hn] at h2
  simp at h2
 ·have h1:=cand_some hn h
  obtain ⟨b,hb⟩:=List.exists_mem_of_ne_nil _ h1
  have h2:b∈bestQ q least nn (rk q least nn) n 255:=mem_bestQ.mpr ⟨hb,by have:=(mem_nr.mp (mem_cand.mp hb).1).2.1;omega,hq n b⟩
  unfold fol at e
  rw [List.take_eq_nil_iff] at e
  rcases e with e|e
  ·omega
  ·rw [e] at h2;cases h2
 ·obtain ⟨h1,r,h2,h3⟩:=mem_cand.mp (mem_fol hx)
  exact ⟨r,h3,h2,(mem_nr.mp h1).2⟩
 ·have hxr:=(mem_nr.mp hx).1
  have hnx:=nr_comm hnn hx
  cases h1:rk q least nn n with
  | some r=>
   obtain ⟨s,h2,h3⟩:=rk_step hn h1 hx
   rw [h2]
   obtain ⟨r',h4,h5⟩:=rk_step hn h2 hnx
   rw [h1] at h4
   have:=Option.some.inj h4
   exact ⟨h3,by omega⟩
  | none=>
   cases h2:rk q least nn x with
   | none=>trivial
   | some s=>
    obtain ⟨r',h4,h5⟩:=rk_step hn h2 hnx
    rw [h1] at h4
    cases h4
end
section
variable {q:Int→Int→Option Int} {least:Int} {nn:Nat} {f:Int→Option Nat} {par:Int→List Int}
end
end
section
set_option maxHeartbeats 4000000
structure Cel where
 f:Int
 s:Int
 c:Int
 o:Int
 p:Int
def encE (x:Cel):List CV:=[.int .i64 x.f,.int .i64 x.s,.int .i64 x.c,.int .i64 x.o,.int .i64 x.p]
def andI (a b:Int):Int:=IntKind.wrap .i64 (BitVec.ofInt IntKind.i64.bits a &&& BitVec.ofInt IntKind.i64.bits b).toNat
theorem andI_fold (a b:Int):IntKind.wrap .i64 (BitVec.ofInt IntKind.i64.bits a &&& BitVec.ofInt IntKind.i64.bits b).toNat=andI a b:=rfl
def mayC (x:Cel):Prop:=(0≤x.f∧x.f≤3)∧(0≤x.s∧x.s≤199)∧(0≤x.c∧x.c≤15)∧(1≤x.o∧x.o≤15)∧¬andI x.o 3=0∧¬(¬andI x.o 4=0∧andI x.o 1=0)∧((0≤x.p∧x.p≤15)∨x.p=64)
instance (x:Cel):Decidable (mayC x):=inferInstanceAs (Decidable (_∧_∧_∧_∧_∧_∧_))
def nodeP (n:Int):Prop:=0≤n∧n<16
instance (n:Int):Decidable (nodeP n):=inferInstanceAs (Decidable (_∧_))
def endsP (a b:Cel):Prop:=(andI a.o 3=1∧andI b.o 3=2)∨(andI a.o 3=2∧andI b.o 3=1)
instance (a b:Cel):Decidable (endsP a b):=inferInstanceAs (Decidable (_∨_))
def linkP (a b:Cel) (x y:Int):Prop:=a.p=y∧b.p=x∧a.c=b.c∧endsP a b
instance (a b:Cel) (x y:Int):Decidable (linkP a b x y):=inferInstanceAs (Decidable (_∧_∧_∧_))
def clashP (a b:Cel) (x y:Int):Prop:=
 ¬(mayC a∧mayC b∧nodeP x∧nodeP y)∨((a.f=b.f∧a.s=b.s)∧(x=y∨(¬linkP a b x y∧(a.c=b.c∨x=b.p∨y=a.p∨(a.p=b.p∧¬a.p=64)))))
instance (a b:Cel) (x y:Int):Decidable (clashP a b x y):=inferInstanceAs (Decidable (_∨_))
theorem clash_symm1 {a b:Cel} {x y:Int} (h:clashP a b x y):clashP b a y x:=by
 unfold clashP linkP endsP at *
 rcases h with h|⟨⟨h1,h2⟩,h3⟩
 ·left;intro h';exact h ⟨h'.2.1,h'.1,h'.2.2.2,h'.2.2.1⟩
 ·right
  refine ⟨⟨h1.symm,h2.symm⟩,?_⟩
  rcases h3 with h3|⟨h3,h4⟩
  ·exact .inl h3.symm
  ·right
   exact ⟨fun h'=>h3 ⟨h'.2.1,h'.1,h'.2.2.1.symm,h'.2.2.2.symm.imp (fun e=>⟨e.2,e.1⟩) (fun e=>⟨e.2,e.1⟩)⟩,by omega⟩
section
variable {k:Nat} {h:Hp} {P:AV→Hp→Prop}
theorem in_ok {n a b:Int} (hP:P (.c (.bool (decide (a≤n∧n≤b)))) h):callW N (k+1) 124 [.c (.int .i64 n),.c (.int .i64 a),.c (.int .i64 b)] h P:=by
 refine call_intro rfl (by simp only [List.length_cons,List.length_nil];omega) ?_
 by_cases h1:a≤n
 ·by_cases h2:n≤b
  ·rw [decide_eq_true ⟨h1,h2⟩] at hP
   simp -implicitDefEqProofs only [KK,eq_self,↓reduceIte,reduceLT,reduceEqDiff,reduceAdd,reduceCtorEq,h1,h2]
   exact hP
  ·rw [decide_eq_false (by omega)] at hP
   simp -implicitDefEqProofs only [KK,eq_self,↓reduceIte,reduceLT,reduceEqDiff,reduceAdd,reduceCtorEq,h1,h2]
   exact hP
 ·rw [decide_eq_false (by omega)] at hP
  simp -implicitDefEqProofs only [KK,eq_self,↓reduceIte,reduceLT,reduceEqDiff,reduceAdd,reduceCtorEq,h1]
  exact hP
theorem node_ok {n:Int} (hP:P (.c (.bool (decide (nodeP n)))) h):callW N (k+1) 122 [.c (.int .i64 n)] h P:=by
 refine call_intro rfl (by simp only [List.length_cons,List.length_nil];omega) ?_
 by_cases h1:0≤n
 ·by_cases h2:n<16
  ·rw [decide_eq_true ⟨h1,h2⟩] at hP
   simp -implicitDefEqProofs only [KK,eq_self,↓reduceIte,reduceLT,reduceEqDiff,reduceCtorEq,h1,h2]
   exact hP
  ·rw [decide_eq_false (fun h=>h2 h.2)] at hP
   simp -implicitDefEqProofs only [KK,eq_self,↓reduceIte,reduceLT,reduceEqDiff,reduceCtorEq,h1,h2]
   exact hP
 ·rw [decide_eq_false (fun h=>h1 h.1)] at hP
  simp -implicitDefEqProofs only [KK,eq_self,↓reduceIte,reduceLT,reduceEqDiff,reduceCtorEq,h1]
  exact hP
theorem may_okt {x:Cel} (hP:P (.c (.bool (decide (mayC x)))) h):callW N (k+2) 121 [.agg (encE x)] h P:=by
 obtain ⟨f,s,c,o,p⟩:=x
 have no:¬mayC ⟨f,s,c,o,p⟩→P (.c (.bool false)) h:=fun hn=>by rw [decide_eq_false hn] at hP;exact hP
 refine call_intro rfl (by simp only [List.length_cons,List.length_nil];omega) ?_
 have share:(¬andI o 4=0∧decide (andI o 1=0)=true)∨(¬andI o 4=0∧¬andI o 1=0)∨decide (andI o 4=0)=true:=by
  by_cases c4:andI o 4=0
  ·exact .inr (.inr (decide_eq_true c4))
  ·by_cases c1:andI o 1=0
   ·exact .inl ⟨c4,decide_eq_true c1⟩
   ·exact .inr (.inl ⟨c4,c1⟩)
 obtain ⟨sh,hsh⟩:∃ sh:Bool,sh=decide (¬andI o 4=0∧andI o 1=0):=⟨_,rfl⟩
 by_cases m3:andI o 3=0
 ·have d3:decide (andI o 3=0)=true:=decide_eq_true m3
  have no':=no fun h=>h.2.2.2.2.1 m3
  rcases share with ⟨c4,c1⟩|⟨c4,c1⟩|c4
  all_goals first|simp -implicitDefEqProofs only [KK,eq_self,↓reduceIte,reduceLT,reduceEqDiff,reduceAdd,encE,andI_fold,d3,c4,c1]|simp -implicitDefEqProofs only [KK,eq_self,↓reduceIte,reduceLT,reduceEqDiff,reduceAdd,encE,andI_fold,d3,c4]
  all_goals
   refine in_ok ?_
   by_cases c1:0≤f∧f≤3
   ·simp -implicitDefEqProofs only [KK,eq_self,↓reduceIte,reduceLT,reduceEqDiff,c1]
    refine in_ok ?_
    by_cases c2:0≤s∧s≤199
    ·simp -implicitDefEqProofs only [KK,eq_self,↓reduceIte,reduceLT,reduceEqDiff,c2]
     refine in_ok ?_
     by_cases c3:0≤c∧c≤15
     ·simp -implicitDefEqProofs only [KK,eq_self,↓reduceIte,reduceLT,reduceEqDiff,c3]
      refine in_ok ?_
      by_cases c4:1≤o∧o≤15
      ·simp -implicitDefEqProofs only [KK,eq_self,↓reduceIte,reduceLT,reduceEqDiff,c4]
       exact no'
      ·simp -implicitDefEqProofs only [KK,eq_self,↓reduceIte,reduceLT,reduceEqDiff,c4]
       exact no'
     ·simp -implicitDefEqProofs only [KK,eq_self,↓reduceIte,reduceLT,reduceEqDiff,c3]
      exact no'
    ·simp -implicitDefEqProofs only [KK,eq_self,↓reduceIte,reduceLT,reduceEqDiff,c2]
     exact no'
   ·simp -implicitDefEqProofs only [KK,eq_self,↓reduceIte,reduceLT,reduceEqDiff,c1]
    exact no'
 ·rcases share with ⟨c4,c1⟩|⟨c4,c1⟩|c4
  case' inl=>
   have no':=no fun h=>h.2.2.2.2.2.1 ⟨c4,of_decide_eq_true c1⟩
   simp -implicitDefEqProofs only [KK,eq_self,↓reduceIte,reduceLT,reduceEqDiff,reduceAdd,encE,andI_fold,m3,c4,c1]
   refine in_ok ?_
   by_cases c1:0≤f∧f≤3
   ·simp -implicitDefEqProofs only [KK,eq_self,↓reduceIte,reduceLT,reduceEqDiff,c1]
    refine in_ok ?_
    by_cases c2:0≤s∧s≤199
    ·simp -implicitDefEqProofs only [KK,eq_self,↓reduceIte,reduceLT,reduceEqDiff,c2]
     refine in_ok ?_
     by_cases c3:0≤c∧c≤15
     ·simp -implicitDefEqProofs only [KK,eq_self,↓reduceIte,reduceLT,reduceEqDiff,c3]
      refine in_ok ?_
      by_cases c4:1≤o∧o≤15
      ·simp -implicitDefEqProofs only [KK,eq_self,↓reduceIte,reduceLT,reduceEqDiff,c4]
       exact no'
      ·simp -implicitDefEqProofs only [KK,eq_self,↓reduceIte,reduceLT,reduceEqDiff,c4]
       exact no'
     ·simp -implicitDefEqProofs only [KK,eq_self,↓reduceIte,reduceLT,reduceEqDiff,c3]
      exact no'
    ·simp -implicitDefEqProofs only [KK,eq_self,↓reduceIte,reduceLT,reduceEqDiff,c2]
     exact no'
   ·simp -implicitDefEqProofs only [KK,eq_self,↓reduceIte,reduceLT,reduceEqDiff,c1]
    exact no'
  case' inr.inl=>have ns:¬(¬andI o 4=0∧andI o 1=0):=fun h=>c1 h.2
  case' inr.inr=>have ns:¬(¬andI o 4=0∧andI o 1=0):=fun h=>h.1 (of_decide_eq_true c4)
  all_goals first|simp -implicitDefEqProofs only [KK,eq_self,↓reduceIte,reduceLT,reduceEqDiff,reduceAdd,encE,andI_fold,m3,c4,c1]|simp -implicitDefEqProofs only [KK,eq_self,↓reduceIte,reduceLT,reduceEqDiff,reduceAdd,encE,andI_fold,m3,c4]
  all_goals
   refine in_ok ?_
   by_cases c1:0≤f∧f≤3
   ·simp -implicitDefEqProofs only [KK,eq_self,↓reduceIte,reduceLT,reduceEqDiff,c1]
    refine in_ok ?_
    by_cases c2:0≤s∧s≤199
    ·simp -implicitDefEqProofs only [KK,eq_self,↓reduceIte,reduceLT,reduceEqDiff,c2]
     refine in_ok ?_
     by_cases c3:0≤c∧c≤15
     ·simp -implicitDefEqProofs only [KK,eq_self,↓reduceIte,reduceLT,reduceEqDiff,c3]
      refine in_ok ?_
      by_cases c4:1≤o∧o≤15
      ·simp -implicitDefEqProofs only [KK,eq_self,↓reduceIte,reduceLT,reduceEqDiff,c4]
       refine in_ok ?_
       by_cases c5:0≤p∧p≤15
       ·rw [decide_eq_true (show mayC ⟨f,s,c,o,p⟩ from ⟨c1,c2,c3,c4,m3,ns,.inl c5⟩)] at hP
        simp -implicitDefEqProofs only [KK,eq_self,↓reduceIte,reduceLT,reduceEqDiff,c5]
        exact hP
       ·by_cases c6:p=64
        ·have d6:decide (p=64)=true:=decide_eq_true c6
         rw [decide_eq_true (show mayC ⟨f,s,c,o,p⟩ from ⟨c1,c2,c3,c4,m3,ns,.inr c6⟩)] at hP
         simp -implicitDefEqProofs only [KK,eq_self,↓reduceIte,reduceLT,reduceEqDiff,c5,d6]
         exact hP
        ·simp -implicitDefEqProofs only [KK,eq_self,↓reduceIte,reduceLT,reduceEqDiff,c5,c6]
         exact no fun h=>h.2.2.2.2.2.2.elim c5 c6
      ·simp -implicitDefEqProofs only [KK,eq_self,↓reduceIte,reduceLT,reduceEqDiff,c4]
       exact no fun h=>c4 h.2.2.2.1
     ·simp -implicitDefEqProofs only [KK,eq_self,↓reduceIte,reduceLT,reduceEqDiff,c3]
      exact no fun h=>c3 h.2.2.1
    ·simp -implicitDefEqProofs only [KK,eq_self,↓reduceIte,reduceLT,reduceEqDiff,c2]
     exact no fun h=>c2 h.2.1
   ·simp -implicitDefEqProofs only [KK,eq_self,↓reduceIte,reduceLT,reduceEqDiff,c1]
    exact no fun h=>c1 h.1
theorem alone_ok {x:Cel} {q:Int} (hP:P (.c (.bool (decide (andI x.o 3=q)))) h):callW N (k+1) 125 [.agg (encE x),.c (.int .i64 q)] h P:=by
 refine call_intro rfl (by simp only [List.length_cons,List.length_nil];omega) ?_
 simp -implicitDefEqProofs only [KK,eq_self,↓reduceIte,reduceLT,reduceEqDiff,reduceAdd,reduceCtorEq,encE,andI_fold]
 exact hP
theorem link_ok {a b:Cel} {x y:Int} (hP:P (.c (.bool (decide (linkP a b x y)))) h):callW N (k+2) 123 [.agg (encE a),.agg (encE b),.c (.int .i64 x),.c (.int .i64 y)] h P:=by
 have he:∀ x:Cel,encE x=[.int .i64 x.f,.int .i64 x.s,.int .i64 x.c,.int .i64 x.o,.int .i64 x.p]:=fun _=>rfl
 have no:¬linkP a b x y→P (.c (.bool false)) h:=fun hn=>by rw [decide_eq_false hn] at hP;exact hP
 have ways:(endsP a b∧decide (andI a.o 3=1)=true∧decide (andI b.o 3=2)=true)∨(¬endsP a b∧decide (andI a.o 3=1)=true∧¬andI b.o 3=2∧¬andI a.o 3=2)∨(endsP a b∧¬andI a.o 3=1∧decide (andI a.o 3=2)=true∧decide (andI b.o 3=1)=true)∨
  (¬endsP a b∧¬andI a.o 3=1∧decide (andI a.o 3=2)=true∧¬andI b.o 3=1)∨(¬endsP a b∧¬andI a.o 3=1∧¬andI a.o 3=2):=by
  unfold endsP
  simp only [decide_eq_true_eq]
  omega
 refine call_intro rfl (by simp only [List.length_cons,List.length_nil];omega) ?_
 simp -implicitDefEqProofs only [KK,eq_self,↓reduceIte,reduceLT,reduceEqDiff,reduceAdd,reduceCtorEq,he]
 refine alone_ok (x:=a) ?_
 rcases ways with ⟨en,w1,w2⟩|⟨en,w1,w2,w3⟩|⟨en,w1,w2,w3⟩|⟨en,w1,w2,w3⟩|⟨en,w1,w2⟩
 case' inl=>
  simp -implicitDefEqProofs only [KK,eq_self,↓reduceIte,reduceLT,reduceEqDiff,reduceAdd,w1]
  refine alone_ok (x:=b) ?_
  simp -implicitDefEqProofs only [KK,eq_self,↓reduceIte,reduceLT,reduceEqDiff,reduceAdd,w2]
 case' inr.inl=>
  simp -implicitDefEqProofs only [KK,eq_self,↓reduceIte,reduceLT,reduceEqDiff,reduceAdd,w1]
  refine alone_ok (x:=b) ?_
  simp -implicitDefEqProofs only [KK,eq_self,↓reduceIte,reduceLT,reduceEqDiff,reduceAdd,w2]
  refine alone_ok (x:=a) ?_
  simp -implicitDefEqProofs only [KK,eq_self,↓reduceIte,reduceLT,reduceEqDiff,reduceAdd,w3]
 case' inr.inr.inl=>
  simp -implicitDefEqProofs only [KK,eq_self,↓reduceIte,reduceLT,reduceEqDiff,reduceAdd,w1]
  refine alone_ok (x:=a) ?_
  simp -implicitDefEqProofs only [KK,eq_self,↓reduceIte,reduceLT,reduceEqDiff,reduceAdd,w2]
  refine alone_ok (x:=b) ?_
  simp -implicitDefEqProofs only [KK,eq_self,↓reduceIte,reduceLT,reduceEqDiff,reduceAdd,w3]
 case' inr.inr.inr.inl=>
  simp -implicitDefEqProofs only [KK,eq_self,↓reduceIte,reduceLT,reduceEqDiff,reduceAdd,w1]
  refine alone_ok (x:=a) ?_
  simp -implicitDefEqProofs only [KK,eq_self,↓reduceIte,reduceLT,reduceEqDiff,reduceAdd,w2]
  refine alone_ok (x:=b) ?_
  simp -implicitDefEqProofs only [KK,eq_self,↓reduceIte,reduceLT,reduceEqDiff,reduceAdd,w3]
 case' inr.inr.inr.inr=>
  simp -implicitDefEqProofs only [KK,eq_self,↓reduceIte,reduceLT,reduceEqDiff,reduceAdd,w1]
  refine alone_ok (x:=a) ?_
  simp -implicitDefEqProofs only [KK,eq_self,↓reduceIte,reduceLT,reduceEqDiff,reduceAdd,w2]
 all_goals
  by_cases p1:a.p=y
  ·have d1:decide (a.p=y)=true:=decide_eq_true p1
   by_cases p2:b.p=x
   ·have d2:decide (b.p=x)=true:=decide_eq_true p2
    by_cases p3:a.c=b.c
    ·have d3:decide (a.c=b.c)=true:=decide_eq_true p3
     simp -implicitDefEqProofs only [KK,eq_self,↓reduceIte,reduceLT,reduceEqDiff,d1,d2,d3]
     first
      | exact no (fun h=>en h.2.2.2)
      | (rw [decide_eq_true (show linkP a b x y from ⟨p1,p2,p3,en⟩)] at hP
         exact hP)
    ·simp -implicitDefEqProofs only [KK,eq_self,↓reduceIte,reduceLT,reduceEqDiff,d1,d2,p3]
     exact no (fun h=>p3 h.2.2.1)
   ·simp -implicitDefEqProofs only [KK,eq_self,↓reduceIte,reduceLT,reduceEqDiff,d1,p2]
    exact no (fun h=>p2 h.2.1)
  ·simp -implicitDefEqProofs only [KK,eq_self,↓reduceIte,reduceLT,reduceEqDiff,p1]
   exact no (fun h=>p1 h.1)
theorem clash_ok {a b:Cel} {x y:Int} (hP:P (.c (.bool (decide (clashP a b x y)))) h):callW N (k+3) 118 [.agg (encE a),.agg (encE b),.c (.int .i64 x),.c (.int .i64 y)] h P:=by
 have he:∀ x:Cel,encE x=[.int .i64 x.f,.int .i64 x.s,.int .i64 x.c,.int .i64 x.o,.int .i64 x.p]:=fun _=>rfl
 have no:¬clashP a b x y→P (.c (.bool false)) h:=fun hn=>by rw [decide_eq_false hn] at hP;exact hP
 have yes:clashP a b x y→P (.c (.bool true)) h:=fun hn=>by rw [decide_eq_true hn] at hP;exact hP
 refine call_intro rfl (by simp only [List.length_cons,List.length_nil];omega) ?_
 simp -implicitDefEqProofs only [KK,eq_self,↓reduceIte,reduceLT,reduceEqDiff,reduceAdd,reduceCtorEq,he]
 refine may_okt (k:=k) (x:=a) ?_
 by_cases m1:mayC a
 ·simp -implicitDefEqProofs only [KK,eq_self,↓reduceIte,reduceLT,reduceEqDiff,reduceAdd,m1]
  refine may_okt (k:=k) (x:=b) ?_
  by_cases m2:mayC b
  ·simp -implicitDefEqProofs only [KK,eq_self,↓reduceIte,reduceLT,reduceEqDiff,m2]
   refine node_ok ?_
   by_cases m3:nodeP x
   ·simp -implicitDefEqProofs only [KK,eq_self,↓reduceIte,reduceLT,reduceEqDiff,m3]
    refine node_ok ?_
    by_cases m4:nodeP y
    ·have all:mayC a∧mayC b∧nodeP x∧nodeP y:=⟨m1,m2,m3,m4⟩
     by_cases c1:a.f=b.f
     ·have d1:decide (a.f=b.f)=true:=decide_eq_true c1
      by_cases c2:a.s=b.s
      ·have d2:decide (a.s=b.s)=true:=decide_eq_true c2
       by_cases c3:x=y
       ·have d3:decide (x=y)=true:=decide_eq_true c3
        simp -implicitDefEqProofs only [KK,eq_self,↓reduceIte,reduceLT,reduceEqDiff,reduceAdd,m4,d1,d2,d3]
        exact yes (.inr ⟨⟨c1,c2⟩,.inl c3⟩)
       ·simp -implicitDefEqProofs only [KK,eq_self,↓reduceIte,reduceLT,reduceEqDiff,reduceAdd,m4,d1,d2,c3]
        refine link_ok (k:=k) (a:=a) (b:=b) ?_
        by_cases c4:linkP a b x y
        ·simp -implicitDefEqProofs only [KK,eq_self,↓reduceIte,reduceLT,reduceEqDiff,reduceAdd,c4]
         exact no (fun h=>h.elim (fun h=>h all) (fun h=>h.2.elim c3 (fun h=>h.1 c4)))
        ·by_cases c5:a.c=b.c
         ·have d5:decide (a.c=b.c)=true:=decide_eq_true c5
          simp -implicitDefEqProofs only [KK,eq_self,↓reduceIte,reduceLT,reduceEqDiff,reduceAdd,c4,d5]
          exact yes (.inr ⟨⟨c1,c2⟩,.inr ⟨c4,.inl c5⟩⟩)
         ·by_cases c6:x=b.p
          ·have d6:decide (x=b.p)=true:=decide_eq_true c6
           simp -implicitDefEqProofs only [KK,eq_self,↓reduceIte,reduceLT,reduceEqDiff,reduceAdd,c4,c5,d6]
           exact yes (.inr ⟨⟨c1,c2⟩,.inr ⟨c4,.inr (.inl c6)⟩⟩)
          ·by_cases c7:y=a.p
           ·have d7:decide (y=a.p)=true:=decide_eq_true c7
            simp -implicitDefEqProofs only [KK,eq_self,↓reduceIte,reduceLT,reduceEqDiff,reduceAdd,c4,c5,c6,d7]
            exact yes (.inr ⟨⟨c1,c2⟩,.inr ⟨c4,.inr (.inr (.inl c7))⟩⟩)
           ·by_cases c8:a.p=b.p
            ·have d8:decide (a.p=b.p)=true:=decide_eq_true c8
             by_cases c9:a.p=64
             ·have d9:decide (a.p=64)=true:=decide_eq_true c9
              simp -implicitDefEqProofs only [KK,eq_self,↓reduceIte,reduceLT,reduceEqDiff,reduceAdd,c4,c5,c6,c7,d8,d9]
              exact no (fun h=>h.elim (fun h=>h all) (fun h=>h.2.elim c3 (fun h=>h.2.elim c5 (fun h=>h.elim c6 (fun h=>h.elim c7 (fun h=>h.2 c9))))))
             ·simp -implicitDefEqProofs only [KK,eq_self,↓reduceIte,reduceLT,reduceEqDiff,reduceAdd,c4,c5,c6,c7,d8,c9]
              exact yes (.inr ⟨⟨c1,c2⟩,.inr ⟨c4,.inr (.inr (.inr ⟨c8,c9⟩))⟩⟩)
            ·simp -implicitDefEqProofs only [KK,eq_self,↓reduceIte,reduceLT,reduceEqDiff,reduceAdd,c4,c5,c6,c7,c8]
             exact no (fun h=>h.elim (fun h=>h all) (fun h=>h.2.elim c3 (fun h=>h.2.elim c5 (fun h=>h.elim c6 (fun h=>h.elim c7 (fun h=>c8 h.1))))))
      ·simp -implicitDefEqProofs only [KK,eq_self,↓reduceIte,reduceLT,reduceEqDiff,reduceAdd,m4,d1,c2]
       exact no (fun h=>h.elim (fun h=>h all) (fun h=>c2 h.1.2))
     ·simp -implicitDefEqProofs only [KK,eq_self,↓reduceIte,reduceLT,reduceEqDiff,reduceAdd,m4,c1]
      exact no (fun h=>h.elim (fun h=>h all) (fun h=>c1 h.1.1))
    ·simp -implicitDefEqProofs only [KK,eq_self,↓reduceIte,reduceLT,reduceEqDiff,reduceAdd,m4]
     exact yes (.inl fun h=>m4 h.2.2.2)
   ·simp -implicitDefEqProofs only [KK,eq_self,↓reduceIte,reduceLT,reduceEqDiff,reduceAdd,m3]
    exact yes (.inl fun h=>m3 h.2.2.1)
  ·simp -implicitDefEqProofs only [KK,eq_self,↓reduceIte,reduceLT,reduceEqDiff,reduceAdd,m2]
   exact yes (.inl fun h=>m2 h.2.1)
 ·simp -implicitDefEqProofs only [KK,eq_self,↓reduceIte,reduceLT,reduceEqDiff,reduceAdd,m1]
  exact yes (.inl fun h=>m1 h.1)
end
end
section
set_option maxHeartbeats 4000000
structure Hd where
 n:Int
 c:Cel
def encH (x:Hd):List CV:=.int .i64 x.n::encE x.c
def hitP (L:List Hd) (n:Int) (c:Cel):Prop:=∃ y∈L,clashP y.c c y.n n
open Classical in
noncomputable instance (L:List Hd) (n:Int) (c:Cel):Decidable (hitP L n c):=propDecidable _
def goodH (x:Hd):Prop:=nodeP x.n∧mayC x.c∧andI x.c.o 4=0
def cleanP (L:List Hd):Prop:=(∀ x∈L,goodH x)∧L.Pairwise fun a b=>¬clashP a.c b.c a.n b.n
theorem cleanP_perm {L M:List Hd} (h:L.Perm M):cleanP L↔cleanP M:=by
 unfold cleanP
 have h1:(∀ x∈L,goodH x)↔∀ x∈M,goodH x:=⟨fun k x hx=>k x (h.mem_iff.mpr hx),fun k x hx=>k x (h.mem_iff.mp hx)⟩
 have h2:L.Pairwise (fun a b=>¬clashP a.c b.c a.n b.n)↔M.Pairwise fun a b=>¬clashP a.c b.c a.n b.n:=
  h.pairwise_iff (fun {a b} k k'=>k (clash_symm1 k'))
 rw [h1,h2]
theorem cleanP_left {L M:List Hd} (h:cleanP (L++M)):cleanP L:=⟨fun x hx=>h.1 x (by simp [hx]),(List.pairwise_append.mp h.2).1⟩
theorem cleanP_snoc {L:List Hd} {x:Hd}:cleanP (L++[x])↔cleanP L∧goodH x∧¬hitP L x.n x.c:=by
 unfold cleanP hitP
 rw [List.pairwise_append]
 constructor
 ·rintro ⟨h1,h2,h3,h4⟩
  exact ⟨⟨fun y hy=>h1 y (by simp [hy]),h2⟩,h1 x (by simp),fun ⟨y,hy,hc⟩=>h4 y hy x (by simp) hc⟩
 ·rintro ⟨⟨h1,h2⟩,h3,h4⟩
  refine ⟨fun y hy=>?_,h2,List.pairwise_singleton _ _,fun a ha b hb=>?_⟩
  ·rcases List.mem_append.mp hy with hy|hy
   ·exact h1 y hy
   ·simp at hy;subst hy;exact h3
  ·simp at hb;subst hb
   exact fun hc=>h4 ⟨a,ha,hc⟩
section
variable {k:Nat} {h:Hp} {P:AV→Hp→Prop}
theorem closure_ok {y:Hd} {c:Cel} {n:Int} {b1 b2:Nat} (h1:h.g b1=some (.rows true 5 0 0 [encE c])) (h2:h.g b2=some (.rows true 1 0 0 [[.int .i64 n]])) (hP:P (.c (.bool (decide (clashP y.c c y.n n)))) h) :
 callW N (k+4) 127 [.agg (encH y),.c (.ptr b1 0 0 0),.c (.ptr b2 0 0 0)] h P:=by
 have he:∀ x:Cel,encE x=[.int .i64 x.f,.int .i64 x.s,.int .i64 x.c,.int .i64 x.o,.int .i64 x.p]:=fun _=>rfl
 have hh:encH y=[.int .i64 y.n,.int .i64 y.c.f,.int .i64 y.c.s,.int .i64 y.c.c,.int .i64 y.c.o,.int .i64 y.c.p]:=rfl
 rw [he] at h1
 refine call_intro rfl (by simp only [List.length_cons,List.length_nil];omega) ?_
 simp -implicitDefEqProofs only [KK,eq_self,↓reduceIte,reduceLT,reduceEqDiff,reduceAdd,reduceCtorEq,hh,h1,h2]
 refine clash_ok (k:=k) (a:=y.c) (b:=c) ?_
 simp -implicitDefEqProofs only [KK,eq_self,↓reduceIte,reduceLT]
 exact hP
theorem clashes_ok {v:CV} {L:List Hd} {n:Int} {c:Cel} (hl:Sv h 6 v (L.map encH)) (hn:L.length≤1000000000) (hP:∀ h',Fn h h'→P (.c (.bool (decide (hitP L n c)))) h') :
 callW N (k+7) 126 [.c v,.c (.int .i64 n),.agg (encE c)] h P:=by
 have he:encE c=[.int .i64 c.f,.int .i64 c.s,.int .i64 c.c,.int .i64 c.o,.int .i64 c.p]:=rfl
 obtain ⟨h2,hh2⟩:∃ h2,h2=(h.push (.rows true 1 0 0 [[.int .i64 n]])).push (.rows true 5 0 0 [[.int .i64 c.f,.int .i64 c.s,.int .i64 c.c,.int .i64 c.o,.int .i64 c.p]]):=⟨_,rfl⟩
 have hb1:h2.g h.n=some (.rows true 1 0 0 [[.int .i64 n]]):=by rw [hh2,g_push_ne _ _ (by rw [n_push];omega),g_push_eq]
 have hb2:h2.g (h.n+1)=some (.rows true 5 0 0 [encE c]):=by rw [hh2,←n_push h (.rows true 1 0 0 [[.int .i64 n]]),g_push_eq];rfl
 have hf2:Fn h h2:=by rw [hh2];exact (Fm.push _ _ _).trans (Fm.push _ _ _)
 have hfold:=hh2.symm
 refine call_intro rfl (by simp only [List.length_cons,List.length_nil];omega) ?_
 simp -implicitDefEqProofs only [KK,eq_self,↓reduceIte,reduceLT,reduceEqDiff,reduceAdd,reduceCtorEq,he,hfold]
 refine call_intro (nt:=9) rfl (by simp only [List.length_cons,List.length_nil];omega) ?_
 simp -implicitDefEqProofs only [KK,eq_self,↓reduceIte,reduceLT,reduceEqDiff,reduceAdd,reduceCtorEq]
 refine indexF_ok (k:=k+4) (f:=129) (sz:=6) (enc:=encH) (p:=fun y=>decide (clashP y.c c y.n n)) rfl (fun x=>rfl)
  (fun x h' Q hf hq=>closure_ok (k:=k) (hf.some hb2 (fun e=>e)) (hf.some hb1 (fun e=>e)) (hq _ (Fm.refl _ _))) (hl.new hf2) hn (fun h3 hf3 hno=>?_) fun h3 i y hf3 hy hpy hno=>?_
 ·have z:¬((0:Int)≤-1):=by omega
  have hnh:¬hitP L n c:=fun ⟨y,hy,hc⟩=>by have:=hno y hy;simp [hc] at this
  have:=hP h3 (hf2.trans hf3)
  rw [decide_eq_false hnh] at this
  simp -implicitDefEqProofs only [KK,eq_self,↓reduceIte,reduceLT,z]
  exact this
 ·have z:(0:Int)≤(i:Int):=by omega
  have hh:hitP L n c:=⟨y,List.mem_of_getElem? hy,by simpa using hpy⟩
  have:=hP h3 (hf2.trans hf3)
  rw [decide_eq_true hh] at this
  simp -implicitDefEqProofs only [KK,eq_self,↓reduceIte,reduceLT,z]
  exact this
end
end
section
set_option maxHeartbeats 4000000
theorem born_mem {es:List ME} (hnd:(es.map (·.born)).Nodup) {a b:ME} (ha:a∈es) (hb:b∈es) (h:a.born=b.born):a=b:=by
 induction es with
 | nil=>cases ha
 | cons y es ih=>
  rw [List.map_cons,List.nodup_cons] at hnd
  rcases List.mem_cons.mp ha with h1|h1
  ·rcases List.mem_cons.mp hb with h2|h2
   ·rw [h1,h2]
   ·exact absurd (by rw [←h1,h];exact List.mem_map_of_mem h2) hnd.1
  ·rcases List.mem_cons.mp hb with h2|h2
   ·exact absurd (by rw [←h2,←h];exact List.mem_map_of_mem h1) hnd.1
   ·exact ih hnd.2 h1 h2
theorem sub_perm {es:List ME}:∀ {V:List ME},(V.map (·.born)).Nodup→(∀ e∈V,e∈es)→∃ R,es.Perm (V++R)
 | [],_,_=>⟨es,List.Perm.refl _⟩
 | v::V,hn,hs=>by
  rw [List.map_cons,List.nodup_cons] at hn
  obtain ⟨R,hR⟩:=sub_perm hn.2 (fun e he=>hs e (by simp [he]))
  have hv:=hR.mem_iff.mp (hs v (by simp))
  rcases List.mem_append.mp hv with hv|hv
  ·exact absurd (List.mem_map_of_mem hv) hn.1
  ·obtain ⟨A,B,rfl⟩:=List.append_of_mem hv
   refine ⟨A++B,hR.trans ?_⟩
   have:(V++(A++v::B)).Perm (v::(V++(A++B))):=by
    rw [←List.append_assoc,←List.append_assoc]
    exact List.perm_middle
   exact this
section
variable {k:Nat} {h:Hp} {P:AV→Hp→Prop} {F:ME→Int × List Cel}
def flatE (F:ME→Int × List Cel) (e:ME):List Hd:=(F e).2.map fun c=>⟨(F e).1,c⟩
def flatM (F:ME→Int × List Cel) (es:List ME):List Hd:=es.flatMap (flatE F)
theorem flat_snoc (V:List ME) (e:ME):flatM F (V++[e])=flatM F V++flatE F e:=by simp [flatM]
theorem clean_sub {es V:List ME} (hn:(V.map (·.born)).Nodup) (hs:∀ e∈V,e∈es) (h:cleanP (flatM F es)):cleanP (flatM F V):=by
 obtain ⟨R,hR⟩:=sub_perm hn hs
 have hp:(flatM F es).Perm (flatM F V++flatM F R):=by
  have:=hR.flatMap_right (flatE F)
  rw [List.flatMap_append] at this
  exact this
 exact cleanP_left ((cleanP_perm hp).mp h)
theorem clean_all {es V:List ME} (hnes:(es.map (·.born)).Nodup) (hn:(V.map (·.born)).Nodup) (hs:∀ e∈V,e∈es) (ha:∀ e∈es,e.born∈V.map (·.born)):cleanP (flatM F es)↔cleanP (flatM F V):=by
 obtain ⟨R,hR⟩:=sub_perm hn hs
 have hRn:R=[]:=by
  cases R with
  | nil=>rfl
  | cons r R=>
   have hr:r∈es:=hR.mem_iff.mpr (by simp)
   have h1:=ha r hr
   have h2:=(hR.map (·.born)).nodup_iff.mp hnes
   rw [List.map_append,List.nodup_append] at h2
   exact absurd rfl (h2.2.2 r.born h1 r.born (by simp))
 subst hRn
 rw [List.append_nil] at hR
 exact cleanP_perm (hR.flatMap_right (flatE F))
open Classical in
noncomputable instance (L:List Hd):Decidable (cleanP L):=propDecidable _
open Classical in
noncomputable instance (x:Hd):Decidable (goodH x):=propDecidable _
def ClnI (F:ME→Int × List Cel) (h:Hp) (m clock:Nat) (es:List ME) (n:Nat) (st:St):Prop:=
 ∃ (V:List ME) (w:CV) (h':Hp) (l:List (Nat × TV)) (lc:List (List CV)),st=ST 48 l lc h'∧(∀ e∈V,e∈es)∧(V.map (·.born)).Nodup∧n=es.length-V.length∧Ow h' 6 w ((flatM F V).map encH)∧cleanP (flatM F V)∧
  h'.g h.n=some (.miter (some m) clock (V.map (·.born)) clock)∧Fn h h'∧(∀ j,ownId w j→h.n+1≤j)∧h.n+1≤h'.n∧lk l 3 = .v (.c w)∧lk l 9 = .v (.c (.it h.n))
def ClnJ (F:ME→Int × List Cel) (h:Hp) (m clock:Nat) (V:List ME) (e:ME) (v:CV) (n:Nat) (st:St):Prop:=
 ∃ (j:Nat) (w:CV) (h':Hp) (l:List (Nat × TV)) (lc:List (List CV)),st=ST 48 l lc h'∧j≤(F e).2.length∧n=(F e).2.length-j∧Ow h' 6 w ((flatM F V++(flatE F e).take j).map encH)∧cleanP (flatM F V++(flatE F e).take j)∧
  h'.g h.n=some (.miter (some m) clock (V.map (·.born)++[e.born]) clock)∧Fn h h'∧(∀ j,ownId w j→h.n+1≤j)∧h.n+1≤h'.n∧lk l 3 = .v (.c w)∧lk l 4 = .v (.c (.int .i64 (F e).1))∧lk l 9 = .v (.c (.it h.n))∧lk l 15 = .v (.c v)∧lk l 16 = .v (.c (.int .i64 (F e).2.length))∧lk l 17 = .v (.c (.int .i64 j))
theorem clean_ok {m clock:Nat} {wr:Bool} {es:List ME} (hm:h.g m=some (.map wr es clock)) (hb:∀ e∈es,e.born<clock) (hnd:(es.map (·.born)).Nodup)
 (hF:∀ e∈es,e.key = .c (.int .i64 (F e).1)∧∃ v,e.val = .c v∧SL h 5 v ((F e).2.map encE)) (hsz:(flatM F es).length≤1000000000)
 (hP:∀ h',Fn h h'→P (.c (.bool (decide (cleanP (flatM F es))))) h'):callW N (k+8) 120 [.c (.map m)] h P:=by
 have hmn:=lt_of_g hm
 have hrg:=rgn_map hm
 refine call_intro rfl (by simp only [List.length_cons,List.length_nil];omega) ?_
 simp -implicitDefEqProofs only [KK,eq_self,↓reduceIte,reduceLT,reduceEqDiff,reduceCtorEq,hrg]
 refine loop_rd (callW_mono N _) (ClnI F h m clock es) (n:=es.length) ⟨[],.nils,_,_,_,rfl,by simp,by simp,by simp,rfl,⟨by simp [flatM],by simp [flatM]⟩,by rw [g_push_eq];rfl,Fm.push _ _ _,fun _ e=>e.elim,by rw [n_push];exact Nat.le_refl _,rfl,rfl⟩ ?_
 rintro n st ⟨V,w,h2,l,lc,rfl,hV,hVn,hn,how,hcl,hit,hf2,hid,hn2,e3,e9⟩
 have hm2:=hf2.some hm (fun e=>e)
 simp -implicitDefEqProofs only [KK,eq_self,↓reduceIte,reduceLT,e3,e9]
 refine nx_map (id:=h.n) (m:=m) (clock:=clock) (seen:=V.map (·.born)) (by simp only [evN_t,lk_cons,lk_nil];rfl) hit hm2 hb (fun e he hnb=>?_) fun hall=>?_
 ·obtain ⟨hk,v,hv,hsl⟩:=hF e he
  have heV:∀ x∈V++[e],x∈es:=by
   intro x hx
   rcases List.mem_append.mp hx with hx|hx
   ·exact hV x hx
   ·simp at hx;subst hx;exact he
  have hVe:((V++[e]).map (·.born)).Nodup:=by
   rw [List.map_append,List.nodup_append]
   refine ⟨hVn,by simp,?_⟩
   intro a ha b hb2
   simp at hb2
   subst hb2
   rintro rfl
   exact hnb ha
  obtain ⟨h3,hh3⟩:∃ h3,h3=h2.put h.n (.miter (some m) clock (V.map (·.born)++[e.born]) clock):=⟨_,rfl⟩
  have hf3:Fm (fun j=>j=h.n) h2 h3:=by rw [hh3];exact Fm.put _ _ rfl
  have hit3:h3.g h.n=some (.miter (some m) clock (V.map (·.born)++[e.born]) clock):=by rw [hh3,g_put_eq,hit];rfl
  have hm3:=hf3.some hm2 (fun e=>by omega)
  have hen:=entry_at hit3 hm3 he hnd
  rw [hk,hv] at hen
  have hf03:Fn h h3:=⟨Nat.le_trans hf2.n hf3.n,fun j hj hS=>by rw [hf3.g j (by have:=hf2.n;omega) (by omega)];exact hf2.g j hj hS⟩
  have hlen:∀ h':Hp,lenT h' .sl (.v (.c v))=some ((F e).2.length:Int):=fun h'=>by rw [hsl.len h',List.length_map]
  have hfold3:=hh3.symm
  have hsub:=clean_sub (F:=F) hVe heV
  have hlenV:(V++[e]).length≤es.length:=by
   obtain ⟨R,hR⟩:=sub_perm hVe heV
   have:=hR.length_eq
   rw [List.length_append] at this
   omega
  have hszV:(flatM F (V++[e])).length≤1000000000:=by
   obtain ⟨R,hR⟩:=sub_perm hVe heV
   have hp:=(hR.flatMap_right (flatE F)).length_eq
   rw [List.flatMap_append,List.length_append] at hp
   unfold flatM at hsz ⊢
   omega
  simp -implicitDefEqProofs only [KK,eq_self,↓reduceIte,reduceLT,reduceEqDiff,hfold3,hen,hlen]
  refine loop_rd (callW_mono N _) (ClnJ F h m clock V e v) (n:=(F e).2.length) ⟨0,w,h3,_,_,rfl,by omega,by omega,by rw [List.take_zero,List.append_nil];exact how.mono hf3 (fun j hj e=>by have:=hid j hj;omega),by rw [List.take_zero,List.append_nil];exact hcl,hit3,hf03,hid,by have:=hf3.n;omega,rfl,rfl,rfl,rfl,rfl,rfl⟩ ?_
  clear e3 e9
  rintro n2 st ⟨j,u,h4,l,lc,rfl,hj,hn4,hou,hcl4,hit4,hf4,hid4,hnn4,e3,e4,e9,e15,e16,e17⟩
  by_cases hlt:(j:Int)<(F e).2.length
  ·have hjl:j<(F e).2.length:=by omega
   obtain ⟨c,hc⟩:∃ c,(F e).2[j]? = some c:=⟨_,List.getElem?_eq_getElem hjl⟩
   have hrow:((F e).2.map encE)[(j:Int).toNat]? = some (encE c):=by simp [hc]
   obtain ⟨p1,p2,p3,a1,a2⟩:=(hsl.new hf4).at (by omega) hrow
   rw [show encE c=[.int .i64 c.f,.int .i64 c.s,.int .i64 c.c,.int .i64 c.o,.int .i64 c.p] from rfl] at a2
   have hw:=wrap_i64 (n:=(j:Int)+1) (by
    have:(F e).2.length≤(flatM F (V++[e])).length:=by rw [flat_snoc,List.length_append];unfold flatE;rw [List.length_map];omega
    omega)
   have htk:(flatE F e).take (j+1)=(flatE F e).take j++[⟨(F e).1,c⟩]:=take_snoc (by unfold flatE;rw [List.getElem?_map,hc];rfl)
   have hlenF:(flatM F V++(flatE F e).take j).length≤1000000000:=by
    rw [flat_snoc,List.length_append] at hszV
    rw [List.length_append,List.length_take]
    omega
   have bad:¬(goodH ⟨(F e).1,c⟩∧¬hitP (flatM F V++(flatE F e).take j) (F e).1 c)→∀ h',Fn h h'→P (.c (.bool false)) h':=by
    intro hbad h' hf'
    have hnc:¬cleanP (flatM F es):=by
     intro hes
     have h1:=hsub hes
     rw [flat_snoc,←List.take_append_drop (j+1) (flatE F e),←List.append_assoc] at h1
     have h2:=cleanP_left h1
     rw [htk,←List.append_assoc] at h2
     exact hbad (cleanP_snoc.mp h2).2
    have:=hP h' hf'
    rw [decide_eq_false hnc] at this
    exact this
   simp -implicitDefEqProofs only [KK,eq_self,↓reduceIte,reduceLT,reduceEqDiff,reduceAdd,e3,e4,e9,e15,e16,e17,hlt,a1,a2]
   refine node_ok ?_
   by_cases g1:nodeP (F e).1
   ·simp -implicitDefEqProofs only [KK,eq_self,↓reduceIte,reduceLT,reduceEqDiff,reduceAdd,g1]
    refine may_okt (k:=k+5) (x:=c) ?_
    by_cases g2:mayC c
    ·by_cases g3:andI c.o 4=0
     ·have d3:decide (andI c.o 4=0)=true:=decide_eq_true g3
      simp -implicitDefEqProofs only [KK,eq_self,↓reduceIte,reduceLT,reduceEqDiff,reduceAdd,g2,andI_fold,d3]
      refine clashes_ok (k:=k) (c:=c) hou.sl.sv hlenF fun h5 hf5=>?_
      by_cases g4:hitP (flatM F V++(flatE F e).take j) (F e).1 c
      ·simp -implicitDefEqProofs only [KK,eq_self,↓reduceIte,reduceLT,reduceEqDiff,g4]
       exact bad (fun h=>h.2 g4) _ (hf4.trans hf5)
      ·obtain ⟨u',h6,f1,f2,f3,f4⟩:=(hou.new hf5).app (lc:=[[.int .i64 c.f,.int .i64 c.s,.int .i64 c.c,.int .i64 c.o,.int .i64 c.p],[.int .i64 (F e).1,.int .i64 c.f,.int .i64 c.s,.int .i64 c.c,.int .i64 c.o,.int .i64 c.p]]) (x:=.lsl 1 1) (xs:=[[.int .i64 (F e).1,.int .i64 c.f,.int .i64 c.s,.int .i64 c.c,.int .i64 c.o,.int .i64 c.p]]) rfl (by simp) (bytes:=48) (by rw [List.length_map];simp only [room,List.length_singleton];omega)
       simp -implicitDefEqProofs only [KK,eq_self,↓reduceIte,reduceLT,reduceEqDiff,reduceAdd,reduceLeDiff,g4,f1,hw,rd_n]
       refine ⟨n2-1,by omega,j+1,u',h6,_,_,rfl,by omega,by omega,?_,?_,f3.some (hf5.some hit4 (fun e=>e)) (fun e=>by have:=hid4 _ e;omega),(hf4.trans hf5).comp f3 (fun i hi e=>by have:=hid4 _ e;omega),(fun i hi=>(f4 i hi).elim (hid4 i) (fun e=>by have:=hf5.n;omega)),(by have:=hf5.n;have:=f3.n;omega),rfl,rfl,rfl,rfl,rfl,rfl⟩
       ·rw [htk,←List.append_assoc,List.map_append]
        exact f2
       ·rw [htk,←List.append_assoc]
        exact cleanP_snoc.mpr ⟨hcl4,⟨g1,g2,g3⟩,g4⟩
     ·simp -implicitDefEqProofs only [KK,eq_self,↓reduceIte,reduceLT,reduceEqDiff,g2,andI_fold,g3]
      exact bad (fun h=>g3 h.1.2.2) _ hf4
    ·simp -implicitDefEqProofs only [KK,eq_self,↓reduceIte,reduceLT,reduceEqDiff,g2]
     exact bad (fun h=>g2 h.1.2.1) _ hf4
   ·simp -implicitDefEqProofs only [KK,eq_self,↓reduceIte,reduceLT,reduceEqDiff,g1]
    exact bad (fun h=>g1 h.1.1) _ hf4
  ·simp -implicitDefEqProofs only [KK,eq_self,↓reduceIte,reduceLT,reduceEqDiff,e3,e4,e9,e15,e16,e17,hlt,rd_n]
   have htl:(flatE F e).take j=flatE F e:=List.take_of_length_le (by unfold flatE;rw [List.length_map];omega)
   rw [htl,←flat_snoc] at hou hcl4
   refine ⟨n-1,?_,V++[e],u,h4,_,_,rfl,heV,hVe,?_,hou,hcl4,by rw [List.map_append];exact hit4,hf4,hid4,hnn4,rfl,rfl⟩
   ·rw [List.length_append,List.length_singleton] at hlenV;omega
   ·rw [List.length_append,List.length_singleton] at hlenV ⊢;omega
 ·simp -implicitDefEqProofs only [KK,eq_self,↓reduceIte,reduceLT,reduceEqDiff]
  have:=hP h2 hf2
  rw [decide_eq_true ((clean_all hnd hVn hV hall).mpr hcl)] at this
  exact this
end
end
section
set_option maxHeartbeats 4000000
theorem mupd_new {kt:KT} {es:List ME} {h:Hp} {id clock:Nat} {k x:AV} (hm:h.g id=some (.map true es clock)) (hk:okKey kt k=true) (hf:findKey k es 0=some none) :
 mupdT h kt (.v (.c (.map id))) (some k) (some x)=some (h.put id (.map true (es++[⟨k,x,clock⟩]) (clock+1))):=by
 unfold mupdT
 simp only [hm,hk,if_true,hf,Option.map_some]
def awA:Cel:=⟨0,1,0,1,2⟩
def awB:Cel:=⟨0,1,0,2,1⟩
theorem aw1:¬clashP awA awB 1 2:=by decide +kernel
theorem aw2:clashP awA awA 1 3:=by decide +kernel
theorem aw3:goodH ⟨1,awA⟩:=⟨by decide,by decide +kernel,by decide +kernel⟩
theorem aw4:goodH ⟨2,awB⟩:=⟨by decide,by decide +kernel,by decide +kernel⟩
section
variable {k:Nat} {h:Hp} {P:AV→Hp→Prop}
theorem awakeA_ok (hP:∀ h',Fn h h'→P (.c (.bool true)) h'):callW N (k+9) 119 [] h P:=by
 obtain ⟨g1,hg1⟩:∃ g,g=h.push (.map true [] 0):=⟨_,rfl⟩
 have m1:g1.g h.n=some (.map true [] 0):=by rw [hg1,g_push_eq]
 have n1:g1.n=h.n+1:=by rw [hg1,n_push]
 obtain ⟨g2,hg2⟩:∃ g,g=g1.push (.rows true 5 0 0 [[.int .i64 0,.int .i64 1,.int .i64 0,.int .i64 1,.int .i64 2]]):=⟨_,rfl⟩
 have m2:g2.g h.n=some (.map true [] 0):=by rw [hg2,g_push_ne _ _ (by omega)];exact m1
 have n2:g2.n=h.n+1+1:=by rw [hg2,n_push,n1]
 have r2:g2.g (h.n+1)=some (.rows true 5 0 0 [encE awA]):=by rw [hg2,←n1,g_push_eq];rfl
 have u2:=mupd_new (kt:=.int .i64) (k:=.c (.int .i64 1)) (x:=.c (.sl (h.n+1) 0 0 1 (some 1))) m2 rfl rfl
 obtain ⟨g3,hg3⟩:∃ g,g=g2.put h.n (.map true ([]++[⟨.c (.int .i64 1),.c (.sl (h.n+1) 0 0 1 (some 1)),0⟩]) (0+1)):=⟨_,rfl⟩
 have m3:g3.g h.n=some (.map true [⟨.c (.int .i64 1),.c (.sl (h.n+1) 0 0 1 (some 1)),0⟩] 1):=by rw [hg3,g_put_eq,m2];rfl
 have n3:g3.n=h.n+1+1:=by rw [hg3,n_put,n2]
 have r3:g3.g (h.n+1)=some (.rows true 5 0 0 [encE awA]):=by rw [hg3,g_put_ne _ _ (by omega)];exact r2
 rw [←hg3] at u2
 obtain ⟨g4,hg4⟩:∃ g,g=g3.push (.rows true 5 0 0 [[.int .i64 0,.int .i64 1,.int .i64 0,.int .i64 2,.int .i64 1]]):=⟨_,rfl⟩
 have m4:g4.g h.n=some (.map true [⟨.c (.int .i64 1),.c (.sl (h.n+1) 0 0 1 (some 1)),0⟩] 1):=by rw [hg4,g_push_ne _ _ (by omega)];exact m3
 have n4:g4.n=h.n+1+1+1:=by rw [hg4,n_push,n3]
 have r4:g4.g (h.n+1)=some (.rows true 5 0 0 [encE awA]):=by rw [hg4,g_push_ne _ _ (by omega)];exact r3
 have s4:g4.g (h.n+1+1)=some (.rows true 5 0 0 [encE awB]):=by rw [hg4,←n3,g_push_eq];rfl
 have u4:=mupd_new (kt:=.int .i64) (k:=.c (.int .i64 2)) (x:=.c (.sl (h.n+1+1) 0 0 1 (some 1))) m4 rfl rfl
 obtain ⟨g5,hg5⟩:∃ g,g=g4.put h.n (.map true ([⟨.c (.int .i64 1),.c (.sl (h.n+1) 0 0 1 (some 1)),0⟩]++[⟨.c (.int .i64 2),.c (.sl (h.n+1+1) 0 0 1 (some 1)),1⟩]) (1+1)):=⟨_,rfl⟩
 have m5:g5.g h.n=some (.map true [⟨.c (.int .i64 1),.c (.sl (h.n+1) 0 0 1 (some 1)),0⟩,⟨.c (.int .i64 2),.c (.sl (h.n+1+1) 0 0 1 (some 1)),1⟩] 2):=by rw [hg5,g_put_eq,m4];rfl
 have r5:g5.g (h.n+1)=some (.rows true 5 0 0 [encE awA]):=by rw [hg5,g_put_ne _ _ (by omega)];exact r4
 have s5:g5.g (h.n+1+1)=some (.rows true 5 0 0 [encE awB]):=by rw [hg5,g_put_ne _ _ (by omega)];exact s4
 rw [←hg5] at u4
 have f5:Fn h g5:=by
  have f1:Fn h g1:=by rw [hg1];exact Fm.push _ _ _
  have f2:Fn h g2:=f1.trans (by rw [hg2];exact Fm.push _ _ _)
  have f3:Fn h g3:=by rw [hg3];exact f2.putNew _ (Nat.le_refl _)
  have f4:Fn h g4:=f3.trans (by rw [hg4];exact Fm.push _ _ _)
  rw [hg5]
  exact f4.putNew _ (Nat.le_refl _)
 refine call_intro rfl (by simp only [List.length_nil];omega) ?_
 simp -implicitDefEqProofs only [KK,eq_self,↓reduceIte,reduceLT,reduceEqDiff,reduceAdd,reduceLeDiff]
 refine clash_ok (k:=k+5) (a:=awA) (b:=awB) ?_
 rw [decide_eq_false aw1]
 simp -implicitDefEqProofs only [KK,eq_self,↓reduceIte,reduceLT,reduceEqDiff,reduceAdd]
 refine clash_ok (k:=k+5) (a:=awA) (b:=awA) ?_
 rw [decide_eq_true aw2]
 have e1:=hg1.symm
 have e2:=hg2.symm
 have e4:=hg4.symm
 simp -implicitDefEqProofs only [KK,eq_self,↓reduceIte,reduceLT,reduceEqDiff,reduceAdd,e1,e2,n1,u2,e4,n3,u4]
 let F:ME→Int × List Cel:=fun e=>if e.born=0 then (1,[awA]) else (2,[awB])
 have hfl:flatM F [⟨.c (.int .i64 1),.c (.sl (h.n+1) 0 0 1 (some 1)),0⟩,⟨.c (.int .i64 2),.c (.sl (h.n+1+1) 0 0 1 (some 1)),1⟩] = [⟨1,awA⟩,⟨2,awB⟩]:=rfl
 refine clean_ok (k:=k) (F:=F) m5 (by simp) (by simp) ?_ (by rw [hfl];simp) fun h' hf=>?_
 ·intro e he
  rcases List.mem_cons.mp he with rfl|he
  ·exact ⟨rfl,_,rfl,⟨true,0,0,_,r5,Nat.le_refl _,by simp,rfl⟩⟩
  ·have he:=List.mem_singleton.mp he
   subst he
   exact ⟨rfl,_,rfl,⟨true,0,0,_,s5,Nat.le_refl _,by simp,rfl⟩⟩
 ·have hc:cleanP [⟨1,awA⟩,⟨2,awB⟩]:=by
   refine ⟨?_,?_⟩
   ·intro x hx
    rcases List.mem_cons.mp hx with rfl|hx
    ·exact aw3
    ·have hx:=List.mem_singleton.mp hx
     subst hx
     exact aw4
   ·rw [List.pairwise_cons]
    refine ⟨fun b hb=>?_,List.pairwise_singleton _ _⟩
    have hb:=List.mem_singleton.mp hb
    subst hb
    exact aw1
  rw [hfl,decide_eq_true hc]
  simp -implicitDefEqProofs only [KK,eq_self,↓reduceIte,reduceLT,reduceEqDiff]
  exact hP _ (f5.trans hf)
end
end
end Camp
