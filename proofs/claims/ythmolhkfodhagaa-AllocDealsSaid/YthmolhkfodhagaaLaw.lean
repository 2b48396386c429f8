/- The graph of the program: has, Quality, Nodes. The graph of the program: New, Near. The graph of the program: may. The graph of the program: Report, Forget. The reference graph: Has, NewGraph, Quality. The reference graph: Forget, Report. Both graphs, made by the same calls. Ranks of a graph, level by level: plain. -/
import Derived.Test.YthmolhkfodhagaaUseB
import Derived.Test.YthmolhkfodhagaaCode
import Derived.Test.YthmolhkfodhagaaUseA
set_option linter.unnecessarySimpa false
set_option linter.unusedVariables false
set_option linter.unusedSimpArgs false
set_option linter.unusedSectionVars false
namespace Camp
open Go
open Nat (reduceLT reduceEqDiff reduceAdd reduceLeDiff reduceSub reduceMul)
section
set_option maxHeartbeats 4000000
def mq (q:Int→Int→Option Int):AV→Option AV
 | .agg [.int .i64 a,.int .i64 b]=>(q a b).map fun v=>.c (.int .i64 v)
 | _=>none
abbrev kk (a b:Int):AV:=.agg [.int .i64 a,.int .i64 b]
theorem mq_get (q:Int→Int→Option Int) (a b:Int):(mq q (kk a b)).getD (.c (.int .i64 0)) = .c (.int .i64 ((q a b).getD 0)):=by
 simp only [mq]
 cases q a b <;> rfl
def Gr (h:Hp) (g m:Nat) (nn:Int) (q:Int→Int→Option Int):Prop:=
 h.g g=some (.rows true 2 0 0 [[.int .i64 nn,.map m]])∧∃ es clock,h.g m=some (.map true es clock)∧IsMap (.arr 2 .i64) es (mq q)
def qual (q:Int→Int→Option Int) (a b:Int):Int:=min ((q a b).getD 0) ((q b a).getD 0)
section
variable {k g m:Nat} {nn:Int} {q:Int→Int→Option Int} {h:Hp} {P:AV→Hp→Prop}
theorem has_ok {i:Int} (hg:Gr h g m nn q) (hP:P (.c (.bool (decide (0≤i∧i<nn)))) h) :
 callW N (k+1) 18 [.c (.ptr g 0 0 0),.c (.int .i64 i)] h P:=by
 obtain ⟨hg,-⟩:=hg
 refine call_intro rfl (by simp only [List.length_cons,List.length_nil];omega) ?_
 by_cases h1:0≤i
 ·by_cases h2:i<nn
  ·have e:decide (0≤i∧i<nn)=true:=by simp [h1,h2]
   rw [e] at hP
   simp -implicitDefEqProofs only [KK,eq_self,↓reduceIte,reduceLT,reduceEqDiff,reduceAdd,reduceCtorEq,hg,h1,h2]
   exact hP
  ·have e:decide (0≤i∧i<nn)=false:=by simp [h2]
   rw [e] at hP
   simp -implicitDefEqProofs only [KK,eq_self,↓reduceIte,reduceLT,reduceEqDiff,reduceAdd,reduceCtorEq,hg,h1,h2]
   exact hP
 ·have e:decide (0≤i∧i<nn)=false:=by simp [h1]
  rw [e] at hP
  simp -implicitDefEqProofs only [KK,eq_self,↓reduceIte,reduceLT,reduceEqDiff,reduceAdd,reduceCtorEq,h1]
  exact hP
theorem quality_ok {a b:Int} (hg:Gr h g m nn q) (hP:P (.c (.int .i64 (qual q a b))) h) :
 callW N (k+1) 4 [.c (.ptr g 0 0 0),.c (.int .i64 a),.c (.int .i64 b)] h P:=by
 obtain ⟨hg,es,clock,hm,hM⟩:=hg
 have l1:=look_ok (k:=kk a b) hm hM rfl
 have l2:=look_ok (k:=kk b a) hm hM rfl
 refine call_intro rfl (by simp only [List.length_cons,List.length_nil];omega) ?_
 simp -implicitDefEqProofs only [KK,eq_self,↓reduceIte,reduceLT,reduceEqDiff,reduceAdd,reduceLeDiff,reduceCtorEq,hg,l1,l2,mq_get]
 exact hP
end
end
section
set_option maxHeartbeats 4000000
def rI (l:List Int):List (List CV):=l.map fun x=>[.int .i64 x]
def nearL (q:Int→Int→Option Int) (a least:Int) (n:Nat):List Int:=((List.range n).filter fun b:Nat=>decide (0<qual q a b∧least≤qual q a b)).map fun b:Nat=>(b:Int)
theorem nearL_succ (q:Int→Int→Option Int) (a least:Int) (n:Nat):nearL q a least (n+1)=nearL q a least n++(if 0<qual q a n∧least≤qual q a n then [(n:Int)] else []):=by
 unfold nearL
 rw [List.range_succ,List.filter_append,List.map_append]
 congr 1
 by_cases h:0<qual q a n∧least≤qual q a n
 ·simp [h]
 ·rw [if_neg h]
  simp only [List.filter_cons,List.filter_nil,decide_eq_true_eq,h,if_false,List.map_nil]
theorem nearL_len (q:Int→Int→Option Int) (a least:Int) (n:Nat):(nearL q a least n).length≤n:=by
 unfold nearL
 have:=List.length_filter_le (fun b:Nat=>decide (0<qual q a b∧least≤qual q a b)) (List.range n)
 simpa using this
theorem rI_len (l:List Int):(rI l).length=l.length:=by simp [rI]
theorem Gr.new {h h':Hp} {g m:Nat} {nn:Int} {q:Int→Int→Option Int} (k:Gr h g m nn q) (f:Fn h h'):Gr h' g m nn q:=by
 obtain ⟨h1,es,clock,h2,h3⟩:=k
 exact ⟨f.some h1 (fun h=>h),es,clock,f.some h2 (fun h=>h),h3⟩
section
variable {k g m:Nat} {nn:Int} {q:Int→Int→Option Int} {h:Hp} {P:AV→Hp→Prop}
theorem new_ok {nodes:Int} (hP:∀ h' g m,Gr h' g m (max 1 (min nodes 16)) (fun _ _=>none)→Fn h h'→h.n≤g→h.n≤m→P (.c (.ptr g 0 0 0)) h'):callW N (k+1) 2 [.c (.int .i64 nodes)] h P:=by
 refine call_intro rfl (by simp only [List.length_cons,List.length_nil];omega) ?_
 simp -implicitDefEqProofs only [KK,eq_self,↓reduceIte,reduceLT,reduceAdd,reduceLeDiff,reduceCtorEq]
 refine hP _ _ h.n ⟨by rw [←n_push h (.map true [] 0),g_push_eq],[],0,?_,IsMap.nil ?_⟩ ((Fm.push _ _ _).trans (Fm.push _ _ _)) (by omega) (Nat.le_refl _)
 ·rw [g_push_ne _ _ (by rw [n_push];omega),g_push_eq]
 ·intro k
  unfold mq
  split <;> rfl
def NearI (h:Hp) (g:Nat) (a least nn:Int) (q:Int→Int→Option Int) (n:Nat) (s:St):Prop:=
 ∃ (i:Nat) (v:CV) (h':Hp) (l:List (Nat × TV)) (lc:List (List CV)),s=ST 38 l lc h'∧(i:Int)≤nn∧(n:Int)=nn-i∧Own h' 1 v (rI (nearL q a least i))∧Fn h h'∧(∀ j,ownId v j→h.n≤j)∧
  lk l 0 = .v (.c (.ptr g 0 0 0))∧lk l 1 = .v (.c (.int .i64 a))∧lk l 2 = .v (.c (.int .i64 least))∧lk l 7 = .v (.c v)∧lk l 17 = .v (.c (.int .i64 nn))∧lk l 18 = .v (.c (.int .i64 i))
theorem near_ok {a least:Int} (hg:Gr h g m nn q) (hnn:0≤nn∧nn≤16) (hP:∀ v h',Own h' 1 v (rI (if 0≤a∧a<nn then nearL q a least nn.toNat else []))→Fn h h'→(∀ j,ownId v j→h.n≤j)→P (.c v) h') :
 callW N (k+2) 5 [.c (.ptr g 0 0 0),.c (.int .i64 a),.c (.int .i64 least)] h P:=by
 have hgg:=hg.1
 refine call_intro rfl (by simp only [List.length_cons,List.length_nil];omega) ?_
 simp -implicitDefEqProofs only [KK,eq_self,↓reduceIte,reduceLT,reduceEqDiff,reduceAdd,reduceCtorEq]
 refine has_ok hg ?_
 by_cases ha:0≤a∧a<nn
 ·rw [if_pos ha] at hP
  simp -implicitDefEqProofs only [KK,eq_self,↓reduceIte,reduceLT,reduceEqDiff,reduceCtorEq,hgg,ha]
  refine loop_rd (callW_mono N _) (NearI h g a least nn q) (n:=nn.toNat) ⟨0,.nils,h,_,_,rfl,by omega,by omega,rfl,Fm.refl _ _,fun _ h=>h.elim,rfl,rfl,rfl,rfl,rfl,rfl⟩ ?_
  rintro n s ⟨i,v,h',l,lc,rfl,hi,hn,hown,hfn,hid,e0,e1,e2,e7,e17,e18⟩
  have hg':=hg.new hfn
  by_cases hlt:(i:Int)<nn
  ·simp -implicitDefEqProofs only [KK,eq_self,↓reduceIte,reduceLT,reduceEqDiff,reduceCtorEq,e0,e1,e2,e7,e17,e18,hlt]
   refine quality_ok hg' ?_
   have key:∀ v' h'' (l:List (Nat × TV)) lc,Own h'' 1 v' (rI (nearL q a least (i+1)))→Fn h h''→(∀ j,ownId v' j→h.n≤j)→lk l 0 = .v (.c (.ptr g 0 0 0))→lk l 1 = .v (.c (.int .i64 a))→lk l 2 = .v (.c (.int .i64 least))→lk l 7 = .v (.c v')→lk l 17 = .v (.c (.int .i64 nn))→
    lk l 18 = .v (.c (.int .i64 ((i:Int)+1)))→∃ m,m<n∧NearI h g a least nn q m (ST 38 l lc h''):=by
    intro v' h'' l lc k1 k2 k0 k3 k4 k5 k6 k7 k8
    exact ⟨n-1,by omega,i+1,v',h'',l,lc,rfl,by omega,by omega,k1,k2,k0,k3,k4,k5,k6,k7,by rw [k8];rfl⟩
   by_cases c1:0<qual q a i
   ·by_cases c2:least≤qual q a i
    ·have hl:=nearL_len q a least i
     obtain ⟨v',h'',f1,f2,f3,f4⟩:=hown.app (lc:=[[.int .i64 i]]) (x:=.lsl 0 1) (xs:=[[.int .i64 i]]) rfl (by simp) (bytes:=8) (by rw [rI_len];simp [room];omega)
     simp -implicitDefEqProofs (disch:=omega) only [KK,eq_self,↓reduceIte,reduceLT,reduceEqDiff,reduceCtorEq,c1,c2,f1,wrap_i64,rd_n]
     refine key v' h'' _ _ ?_ (hfn.fresh f3 hid) (fun j hj=>(f4 j hj).elim (hid j) (fun h=>Nat.le_trans hfn.n h)) rfl rfl rfl rfl rfl rfl
     rw [nearL_succ,if_pos ⟨c1,c2⟩]
     simpa [rI] using f2
    ·simp -implicitDefEqProofs (disch:=omega) only [KK,eq_self,↓reduceIte,reduceLT,reduceEqDiff,reduceCtorEq,c1,c2,wrap_i64,rd_n]
     refine key v h' _ _ ?_ hfn hid rfl rfl rfl rfl rfl rfl
     rw [nearL_succ,if_neg (by omega),List.append_nil]
     exact hown
   ·simp -implicitDefEqProofs (disch:=omega) only [KK,eq_self,↓reduceIte,reduceLT,reduceEqDiff,reduceCtorEq,c1,wrap_i64,rd_n]
    refine key v h' _ _ ?_ hfn hid rfl rfl rfl rfl rfl rfl
    rw [nearL_succ,if_neg (by omega),List.append_nil]
    exact hown
  ·simp -implicitDefEqProofs only [KK,eq_self,↓reduceIte,reduceLT,reduceEqDiff,reduceCtorEq,e0,e1,e2,e7,e17,e18,hlt]
   refine hP _ _ ?_ hfn hid
   have:nn.toNat=i:=by omega
   rw [this]
   exact hown
 ·rw [if_neg ha] at hP
  simp -implicitDefEqProofs only [KK,eq_self,↓reduceIte,reduceLT,reduceEqDiff,reduceCtorEq,ha]
  exact hP _ _ rfl (Fm.refl _ _) (fun _ h=>h.elim)
end
end
section
set_option maxHeartbeats 4000000
structure Lk where
 a:Int
 b:Int
 q:Int
def rLk (x:Lk):List CV:=[.int .i64 x.a,.int .i64 x.b,.int .i64 x.q]
def rL (L:List Lk):List (List CV):=L.map rLk
theorem rL_len (L:List Lk):(rL L).length=L.length:=by simp [rL]
def good (nn me:Int) (x:Lk):Prop:=x.a=me∧x.b≠me∧(0≤x.b∧x.b<nn)∧0≤x.q∧x.q≤255
def MayL (nn me:Int) (L:List Lk):Prop:=(0≤me∧me<nn)∧L.length≤16∧(∀ x∈L,good nn me x)∧(L.map (·.b)).Nodup
def seenM (B:List Int):AV→Option AV
 | .c (.int .i64 b)=>if b∈B then some (.c (.int .i64 1)) else none
 | _=>none
section
variable {k g m:Nat} {nn:Int} {q:Int→Int→Option Int} {h:Hp} {P:AV→Hp→Prop}
def MayI (h:Hp) (g:Nat) (me nn:Int) (v:CV) (L:List Lk) (n:Nat) (s:St):Prop:=
 ∃ (i sm:Nat) (h':Hp) (l:List (Nat × TV)) (lc:List (List CV)) (es:List ME) (clock:Nat),s=ST 66 l lc h'∧i≤L.length∧n=L.length-i∧Fn h h'∧h.n≤sm∧h'.g sm=some (.map true es clock)∧
  IsMap (.int .i64) es (seenM ((L.take i).map (·.b)))∧(∀ x∈L.take i,good nn me x)∧((L.take i).map (·.b)).Nodup∧
  lk l 0 = .v (.c (.ptr g 0 0 0))∧lk l 1 = .v (.c (.int .i64 me))∧lk l 7 = .v (.c (.map sm))∧lk l 20 = .v (.c v)∧lk l 21 = .v (.c (.int .i64 L.length))∧lk l 22 = .v (.c (.int .i64 i))
theorem take_snoct {α:Type} {L:List α} {i:Nat} {x:α} (h:L[i]? = some x):L.take (i+1)=L.take i++[x]:=by
 rw [List.take_add_one,h]
 rfl
set_option maxHeartbeats 20000000 in
theorem may_ok {me:Int} {v:CV} {L:List Lk} (hg:Gr h g m nn q) (hl:SL h 3 v (rL L)) (h1:MayL nn me L→∀ h',Fn h h'→P (.c (.bool true)) h') (h0:¬MayL nn me L→∀ h',Fn h h'→P (.c (.bool false)) h') :
 callW N (k+2) 17 [.c (.ptr g 0 0 0),.c (.int .i64 me),.c v] h P:=by
 have hlen:∀ h':Hp,lenT h' .sl (.v (.c v))=some (L.length:Int):=fun h'=>by rw [hl.len h',rL_len]
 refine call_intro rfl (by simp only [List.length_cons,List.length_nil];omega) ?_
 simp -implicitDefEqProofs only [KK,eq_self,↓reduceIte,reduceLT,reduceEqDiff,reduceAdd,reduceCtorEq]
 refine has_ok hg ?_
 by_cases ha:0≤me∧me<nn
 ·by_cases hc:(16:Int)<L.length
  ·simp -implicitDefEqProofs only [KK,eq_self,↓reduceIte,reduceLT,reduceEqDiff,reduceCtorEq,ha,hlen,hc]
   exact h0 (fun hm=>by have:=hm.2.1;omega) h (Fm.refl _ _)
  ·simp -implicitDefEqProofs only [KK,eq_self,↓reduceIte,reduceLT,reduceEqDiff,reduceCtorEq,ha,hlen,hc]
   refine loop_rd (callW_mono N _) (MayI h g me nn v L) (n:=L.length) ?_ ?_
   ·refine ⟨0,h.n,_,_,_,[],0,rfl,by omega,by omega,Fm.push _ _ _,Nat.le_refl _,g_push_eq _ _,IsMap.nil ?_,by simp,by simp,rfl,rfl,rfl,rfl,rfl,rfl⟩
    intro k;unfold seenM;split <;> simp
   rintro n s ⟨i,sm,h',l,lc,es,clock,rfl,hi,hn,hfn,hsm,hmap,hM,hgood,hnd,e0,e1,e7,e20,e21,e22⟩
   have hg':=hg.new hfn
   have hl':=hl.new hfn
   by_cases hlt:(i:Int)<L.length
   ·have hi':i<L.length:=by omega
    obtain ⟨x,hx⟩:∃ x,L[i]? = some x:=⟨_,List.getElem?_eq_getElem hi'⟩
    have hrow:(rL L)[((i:Int)).toNat]? = some (rLk x):=by simp [rL,hx]
    obtain ⟨pid,ptok,pj,a1,a2⟩:=hl'.at (by omega) hrow
    rw [show rLk x=[.int .i64 x.a,.int .i64 x.b,.int .i64 x.q] from rfl] at a2
    have l1:=look_ok (k:=.c (.int .i64 x.b)) hmap hM rfl
    have hts:=take_snoct hx
    have hw:=wrap_i64 (n:=(i:Int)+1) (by omega)
    have hwa:=wrap_i64 (n:=1) (by omega)
    have hwb:=wrap_i64 (n:=2) (by omega)
    by_cases hmem:x.b∈(L.take i).map (·.b)
    ·
     have hbad:¬MayL nn me L:=by
      rintro ⟨_,_,_,hndl⟩
      have hsub:((L.take (i+1)).map (·.b)).Nodup:=hndl.sublist ((List.take_sublist _ _).map _)
      rw [hts,List.map_append,List.nodup_append] at hsub
      exact hsub.2.2 x.b hmem x.b (by simp) rfl
     obtain ⟨es',clock',u1,u2⟩:=mupd_ok (M':=setM (seenM ((L.take i).map (·.b))) (.c (.int .i64 x.b)) (some (.c (.int .i64 2)))) (x:=.c (.int .i64 2)) (k:=.c (.int .i64 x.b)) hmap hM rfl (setM_eq _ _ _) (fun k' hk'=>setM_ne _ _ hk')
     have hput:(h'.put sm (.map true es' clock')).g sm=some (.map true es' clock'):=by rw [g_put_eq,hmap];rfl
     have hfn2:Fn h (h'.put sm (.map true es' clock')):=hfn.fresh (Fm.put (S:=fun j=>j=sm) _ _ rfl) (fun j hj=>by omega)
     have hg2:=hg.new hfn2
     have l2:=look_ok (k:=.c (.int .i64 x.b)) hput u2 rfl
     have hv1:(seenM ((L.take i).map (·.b)) (.c (.int .i64 x.b))).getD (.c (.int .i64 0)) = .c (.int .i64 1):=by simp only [seenM,hmem,if_true,Option.getD_some]
     rw [setM_eq] at l2
     by_cases c1:x.a=me
     ·have d1:decide (x.a=me)=true:=by simp [c1]
      by_cases c2:x.b=me
      ·have d2:decide (x.b=me)=true:=by simp [c2]
       simp -implicitDefEqProofs only [KK,eq_self,↓reduceIte,reduceLT,reduceEqDiff,reduceAdd,reduceCtorEq,e0,e1,e7,e20,e21,e22,hlt,a1,a2,l1,hv1,hwb,Int.reduceAdd,u1,d1,d2]
       exact h0 hbad _ hfn2
      ·simp -implicitDefEqProofs only [KK,eq_self,↓reduceIte,reduceLT,reduceEqDiff,reduceAdd,reduceCtorEq,e0,e1,e7,e20,e21,e22,hlt,a1,a2,l1,hv1,hwb,Int.reduceAdd,u1,d1,c2]
       refine has_ok hg2 ?_
       by_cases c3:0≤x.b∧x.b<nn
       ·by_cases c4:x.q<0
        ·simp -implicitDefEqProofs only [KK,eq_self,↓reduceIte,reduceLT,reduceEqDiff,reduceCtorEq,c3,c4]
         exact h0 hbad _ hfn2
        ·by_cases c5:255<x.q
         ·simp -implicitDefEqProofs only [KK,eq_self,↓reduceIte,reduceLT,reduceEqDiff,reduceCtorEq,c3,c4,c5]
          exact h0 hbad _ hfn2
         ·simp -implicitDefEqProofs only [KK,eq_self,↓reduceIte,reduceLT,reduceEqDiff,reduceCtorEq,c3,c4,c5,l2,Option.getD_some,Int.reduceLT]
          exact h0 hbad _ hfn2
       ·simp -implicitDefEqProofs only [KK,eq_self,↓reduceIte,reduceLT,reduceEqDiff,reduceCtorEq,c3]
        exact h0 hbad _ hfn2
     ·simp -implicitDefEqProofs only [KK,eq_self,↓reduceIte,reduceLT,reduceEqDiff,reduceAdd,reduceCtorEq,e0,e1,e7,e20,e21,e22,hlt,a1,a2,l1,hv1,hwb,Int.reduceAdd,u1,c1]
      exact h0 hbad _ hfn2
    ·obtain ⟨es',clock',u1,u2⟩:=mupd_ok (M':=seenM ((L.take (i+1)).map (·.b))) (x:=.c (.int .i64 1)) (k:=.c (.int .i64 x.b)) hmap hM rfl (by rw [hts];simp [seenM]) (fun k' hk'=>by
      rw [hts]
      unfold seenM
      split
      ·rename_i b
       have:b≠x.b:=fun e=>hk' (by rw [e])
       simp [this]
      ·rfl)
     have hput:(h'.put sm (.map true es' clock')).g sm=some (.map true es' clock'):=by rw [g_put_eq,hmap];rfl
     have hfn2:Fn h (h'.put sm (.map true es' clock')):=hfn.fresh (Fm.put (S:=fun j=>j=sm) _ _ rfl) (fun j hj=>by omega)
     have hg2:=hg.new hfn2
     have l2:=look_ok (k:=.c (.int .i64 x.b)) hput u2 rfl
     have hv1:(seenM ((L.take i).map (·.b)) (.c (.int .i64 x.b))).getD (.c (.int .i64 0)) = .c (.int .i64 0):=by simp only [seenM,hmem,if_false,Option.getD_none]
     have hv2:seenM ((L.take (i+1)).map (·.b)) (.c (.int .i64 x.b))=some (.c (.int .i64 1)):=by rw [hts];simp [seenM]
     rw [hv2] at l2
     have hbad:¬good nn me x→¬MayL nn me L:=fun hb hm=>hb (hm.2.2.1 x (List.mem_of_getElem? hx))
     by_cases c1:x.a=me
     ·have d1:decide (x.a=me)=true:=by simp [c1]
      by_cases c2:x.b=me
      ·have d2:decide (x.b=me)=true:=by simp [c2]
       simp -implicitDefEqProofs only [KK,eq_self,↓reduceIte,reduceLT,reduceEqDiff,reduceAdd,reduceCtorEq,e0,e1,e7,e20,e21,e22,hlt,a1,a2,l1,hv1,hwa,Int.reduceAdd,u1,d1,d2]
       exact h0 (hbad fun hb=>hb.2.1 c2) _ hfn2
      ·simp -implicitDefEqProofs only [KK,eq_self,↓reduceIte,reduceLT,reduceEqDiff,reduceAdd,reduceCtorEq,e0,e1,e7,e20,e21,e22,hlt,a1,a2,l1,hv1,hwa,Int.reduceAdd,u1,d1,c2]
       refine has_ok hg2 ?_
       by_cases c3:0≤x.b∧x.b<nn
       ·by_cases c4:x.q<0
        ·simp -implicitDefEqProofs only [KK,eq_self,↓reduceIte,reduceLT,reduceEqDiff,reduceCtorEq,c3,c4]
         exact h0 (hbad fun hb=>by have:=hb.2.2.2.1;omega) _ hfn2
        ·by_cases c5:255<x.q
         ·simp -implicitDefEqProofs only [KK,eq_self,↓reduceIte,reduceLT,reduceEqDiff,reduceCtorEq,c3,c4,c5]
          exact h0 (hbad fun hb=>by have:=hb.2.2.2.2;omega) _ hfn2
         ·simp -implicitDefEqProofs only [KK,eq_self,↓reduceIte,reduceLT,reduceEqDiff,reduceCtorEq,c3,c4,c5,l2,Option.getD_some,Int.reduceLT,hw,rd_n]
          refine ⟨n-1,by omega,i+1,sm,_,_,_,es',clock',rfl,by omega,by omega,hfn2,hsm,hput,u2,?_,?_,rfl,rfl,rfl,rfl,rfl,rfl⟩
          ·intro y hy
           rw [hts] at hy
           rcases List.mem_append.mp hy with hy|hy
           ·exact hgood y hy
           ·simp at hy;subst hy;exact ⟨c1,c2,c3,by omega,by omega⟩
          ·rw [hts,List.map_append,List.nodup_append]
           refine ⟨hnd,by simp,?_⟩
           intro a ha b hb
           simp at hb
           subst hb
           rintro rfl
           exact hmem ha
       ·simp -implicitDefEqProofs only [KK,eq_self,↓reduceIte,reduceLT,reduceEqDiff,reduceCtorEq,c3]
        exact h0 (hbad fun hb=>c3 hb.2.2.1) _ hfn2
     ·simp -implicitDefEqProofs only [KK,eq_self,↓reduceIte,reduceLT,reduceEqDiff,reduceAdd,reduceCtorEq,e0,e1,e7,e20,e21,e22,hlt,a1,a2,l1,hv1,hwa,Int.reduceAdd,u1,c1]
      exact h0 (hbad fun hb=>c1 hb.1) _ hfn2
   ·simp -implicitDefEqProofs only [KK,eq_self,↓reduceIte,reduceLT,reduceEqDiff,reduceCtorEq,e0,e1,e7,e20,e21,e22,hlt]
    have hii:i=L.length:=by omega
    subst hii
    rw [List.take_length] at hgood hnd
    exact h1 ⟨ha,by omega,hgood,hnd⟩ h' hfn
 ·simp -implicitDefEqProofs only [KK,eq_self,↓reduceIte,reduceLT,reduceEqDiff,reduceCtorEq,ha]
  exact h0 (fun hm=>ha hm.1) h (Fm.refl _ _)
end
end
section
set_option maxHeartbeats 4000000
theorem mq_ne {q q':Int→Int→Option Int} {a b:Int} (h:∀ a' b',¬(a'=a∧b'=b)→q' a' b'=q a' b'):∀ k',k'≠kk a b→mq q' k'=mq q k':=by
 intro k' hk
 unfold mq
 split
 ·rename_i x y
  rw [h x y (fun e=>hk (by rw [e.1,e.2]))]
 ·rfl
theorem mq_at (q:Int→Int→Option Int) (a b:Int):mq q (kk a b)=(q a b).map fun v=>.c (.int .i64 v):=rfl
theorem mq_none {q:Int→Int→Option Int} {a b:Int} (h:q a b=none):mq q (kk a b)=none:=by rw [mq_at,h];rfl
theorem mq_some {q:Int→Int→Option Int} {a b v:Int} (h:q a b=some v):mq q (kk a b)=some (.c (.int .i64 v)):=by rw [mq_at,h];rfl
def cutQ (q:Int→Int→Option Int) (me:Int) (i:Nat) (a b:Int):Option Int:=if a=me∧0≤b∧b<i then none else q a b
def repQ (q:Int→Int→Option Int) (nn me:Int) (L:List Lk) (a b:Int):Option Int:=if a=me∧0≤b∧b<nn then (L.find? fun x=>x.b == b).map (·.q) else q a b
def forQ (q:Int→Int→Option Int) (me:Int) (i:Nat) (a b:Int):Option Int:=if (a=me∧0≤b∧b<i)∨(b=me∧0≤a∧a<i) then none else q a b
section
variable {k g m:Nat} {nn:Int} {q:Int→Int→Option Int} {h:Hp} {P:AV→Hp→Prop}
theorem Gr.put {es es':List ME} {clock clock':Nat} {q':Int→Int→Option Int} (hg:Gr h g m nn q) (hM:IsMap (.arr 2 .i64) es' (mq q')):Gr (h.put m (.map true es' clock')) g m nn q':=by
 obtain ⟨h1,es0,c0,h2,_⟩:=hg
 have hne:m≠g:=by rintro rfl;rw [h1] at h2;cases h2
 exact ⟨by rw [g_put_ne _ _ hne];exact h1,es',clock',by rw [g_put_eq,h2];rfl,hM⟩
theorem SL.ne {sz:Nat} {v:CV} {rows:List (List CV)} (hl:SL h sz v rows) (hg:Gr h g m nn q):∀ id tok off len cap,v = .sl id tok off len cap→¬id=m:=by
 rintro id tok off len cap rfl rfl
 obtain ⟨_,es,c,h2,_⟩:=hg
 obtain ⟨wr,cur,lw,rs,h3,_⟩:=hl
 rw [h2] at h3
 cases h3
def RepI (h:Hp) (g m:Nat) (me nn:Int) (q:Int→Int→Option Int) (v:CV) (n:Nat) (s:St):Prop:=
 ∃ (i:Nat) (h':Hp) (l:List (Nat × TV)) (lc:List (List CV)),s=ST 47 l lc h'∧(i:Int)≤nn∧(n:Int)=nn-i∧Gr h' g m nn (cutQ q me i)∧Fm (fun j=>j=m) h h'∧
  lk l 0 = .v (.c (.ptr g 0 0 0))∧lk l 1 = .v (.c (.int .i64 me))∧lk l 2 = .v (.c v)∧lk l 18 = .v (.c (.int .i64 nn))∧lk l 19 = .v (.c (.int .i64 i))
def RepJ (h:Hp) (g m:Nat) (me nn:Int) (q:Int→Int→Option Int) (v:CV) (L:List Lk) (n:Nat) (s:St):Prop:=
 ∃ (i:Nat) (h':Hp) (l:List (Nat × TV)) (lc:List (List CV)),s=ST 47 l lc h'∧i≤L.length∧n=L.length-i∧Gr h' g m nn (repQ q nn me (L.take i))∧Fm (fun j=>j=m) h h'∧
  lk l 0 = .v (.c (.ptr g 0 0 0))∧lk l 1 = .v (.c (.int .i64 me))∧lk l 30 = .v (.c v)∧lk l 31 = .v (.c (.int .i64 L.length))∧lk l 32 = .v (.c (.int .i64 i))
theorem report_ok {me:Int} {v:CV} {L:List Lk} (hg:Gr h g m nn q) (hnn:0≤nn∧nn≤16) (hl:SL h 3 v (rL L))
 (h1:MayL nn me L→∀ h',Gr h' g m nn (repQ q nn me L)→Fm (fun j=>j=m) h h'→P (.c (.int .i64 0)) h') (h0:¬MayL nn me L→∀ h',Fn h h'→P (.c (.int .i64 1)) h') :
 callW N (k+3) 3 [.c (.ptr g 0 0 0),.c (.int .i64 me),.c v] h P:=by
 have hlen:∀ h':Hp,lenT h' .sl (.v (.c v))=some (L.length:Int):=fun h'=>by rw [hl.len h',rL_len]
 refine call_intro rfl (by simp only [List.length_cons,List.length_nil];omega) ?_
 simp -implicitDefEqProofs only [KK,eq_self,↓reduceIte,reduceLT,reduceEqDiff,reduceAdd,reduceCtorEq]
 refine may_ok hg hl ?_ ?_
 ·intro hmay h' hfn
  have hg':=hg.new hfn
  have hgg:=hg'.1
  simp -implicitDefEqProofs only [KK,eq_self,↓reduceIte,reduceLT,reduceEqDiff,reduceCtorEq,hgg]
  refine loop_rd (callW_mono N _) (RepI h g m me nn q v) (n:=nn.toNat) ?_ ?_
  ·refine ⟨0,h',_,_,rfl,by omega,by omega,?_,hfn.mono (fun _ _ h=>h.elim),rfl,rfl,rfl,rfl,rfl⟩
   have:cutQ q me 0=q:=by funext a b;simp only [cutQ];rw [if_neg (by omega)]
   rw [this];exact hg'
  rintro n s ⟨i,h2,l,lc,rfl,hi,hn,hg2,hfm,e0,e1,e2,e18,e19⟩
  have hgg2:=hg2.1
  by_cases hlt:(i:Int)<nn
  ·have hw:=wrap_i64 (n:=(i:Int)+1) (by omega)
   obtain ⟨_,es,clock,hm2,hM2⟩:=hg2
   obtain ⟨es',clock',u1,u2⟩:=mdel_ok (M':=mq (cutQ q me (i+1))) (k:=kk me i) hm2 hM2 rfl (mq_none (by unfold cutQ;rw [if_pos (by omega)])) (mq_ne (by
    intro a' b' hne
    unfold cutQ
    by_cases c:a'=me∧0≤b'∧b'<(i:Int)
    ·rw [if_pos c,if_pos (by omega)]
    ·rw [if_neg c,if_neg (by omega)]))
   simp -implicitDefEqProofs only [KK,eq_self,↓reduceIte,reduceLT,reduceEqDiff,reduceAdd,reduceLeDiff,reduceCtorEq,e0,e1,e2,e18,e19,hlt,hgg2,u1,hw,rd_n]
   exact ⟨n-1,by omega,i+1,_,_,_,rfl,by omega,by omega,Gr.put (es:=es) (clock:=clock) ⟨hgg2,es,clock,hm2,hM2⟩ u2,hfm.trans (Fm.put _ _ rfl),rfl,rfl,rfl,rfl,rfl⟩
  ·simp -implicitDefEqProofs only [KK,eq_self,↓reduceIte,reduceLT,reduceEqDiff,reduceCtorEq,e0,e1,e2,e18,e19,hlt,hlen]
   have hin:nn=(i:Int):=by omega
   refine loop_rd (callW_mono N _) (RepJ h g m me nn q v L) (n:=L.length) ?_ ?_
   ·refine ⟨0,h2,_,_,rfl,by omega,by omega,?_,hfm,rfl,rfl,rfl,rfl,rfl⟩
    have:repQ q nn me (L.take 0)=cutQ q me i:=by
     funext a b
     simp only [repQ,cutQ,hin]
     rfl
    rw [this];exact hg2
   clear hlt e0 e1 e2 e18 e19 hi hn hgg2
   rintro n s ⟨i,h3,l,lc,rfl,hi,hn,hg3,hfm3,e0,e1,e30,e31,e32⟩
   have hgg3:=hg3.1
   have hl3:SL h3 3 v (rL L):=hl.mono hfm3 (hl.ne hg)
   by_cases hlt:(i:Int)<L.length
   ·have hlL:=hmay.2.1
    have hw:=wrap_i64 (n:=(i:Int)+1) (by omega)
    have hi':i<L.length:=by omega
    obtain ⟨x,hx⟩:∃ x,L[i]? = some x:=⟨_,List.getElem?_eq_getElem hi'⟩
    have hrow:(rL L)[((i:Int)).toNat]? = some (rLk x):=by simp [rL,hx]
    obtain ⟨pid,ptok,pj,a1,a2⟩:=hl3.at (by omega) hrow
    rw [show rLk x=[.int .i64 x.a,.int .i64 x.b,.int .i64 x.q] from rfl] at a2
    have hts:=take_snoct hx
    have hgood:=hmay.2.2.1 x (List.mem_of_getElem? hx)
    have hnb:((L.take i).find? fun y=>y.b == x.b)=none:=by
     rw [List.find?_eq_none]
     intro y hy hyb
     have hnd:((L.take (i+1)).map (·.b)).Nodup:=hmay.2.2.2.sublist ((List.take_sublist _ _).map _)
     rw [hts,List.map_append,List.nodup_append] at hnd
     exact hnd.2.2 y.b (List.mem_map_of_mem hy) x.b (by simp) (by simpa using hyb)
    obtain ⟨_,es,clock,hm3,hM3⟩:=hg3
    obtain ⟨es',clock',u1,u2⟩:=mupd_ok (M':=mq (repQ q nn me (L.take (i+1)))) (k:=kk me x.b) (x:=.c (.int .i64 x.q)) hm3 hM3 rfl (mq_some (by
     unfold repQ
     rw [if_pos ⟨rfl,hgood.2.2.1⟩,hts,List.find?_append,hnb]
     simp)) (mq_ne (by
     intro a' b' hne
     unfold repQ
     by_cases c:a'=me∧0≤b'∧b'<nn
     ·rw [if_pos c,if_pos c,hts,List.find?_append]
      have:(List.find? (fun y:Lk=>y.b == b') [x])=none:=by
       rw [List.find?_eq_none]
       intro y hy hyb
       simp at hy
       subst hy
       exact hne ⟨c.1,by simpa using Eq.symm (by simpa using hyb)⟩
      rw [this]
      simp
     ·rw [if_neg c,if_neg c]))
    simp -implicitDefEqProofs only [KK,eq_self,↓reduceIte,reduceLT,reduceEqDiff,reduceAdd,reduceLeDiff,reduceCtorEq,e0,e1,e30,e31,e32,hlt,hgg3,a1,a2,u1,hw,rd_n]
    exact ⟨n-1,by omega,i+1,_,_,_,rfl,by omega,by omega,Gr.put (es:=es) (clock:=clock) ⟨hgg3,es,clock,hm3,hM3⟩ u2,hfm3.trans (Fm.put _ _ rfl),rfl,rfl,rfl,rfl,rfl⟩
   ·simp -implicitDefEqProofs only [KK,eq_self,↓reduceIte,reduceLT,reduceEqDiff,reduceCtorEq,e0,e1,e30,e31,e32,hlt]
    have hii:i=L.length:=by omega
    subst hii
    rw [List.take_length] at hg3
    exact h1 hmay h3 hg3 hfm3
 ·intro hmay h' hfn
  simp -implicitDefEqProofs only [KK,eq_self,↓reduceIte,reduceLT,reduceEqDiff,reduceCtorEq]
  exact h0 hmay h' hfn
def ForI (h:Hp) (g m:Nat) (me nn:Int) (q:Int→Int→Option Int) (n:Nat) (s:St):Prop:=
 ∃ (i:Nat) (h':Hp) (l:List (Nat × TV)) (lc:List (List CV)),s=ST 31 l lc h'∧(i:Int)≤nn∧(n:Int)=nn-i∧Gr h' g m nn (forQ q me i)∧Fm (fun j=>j=m) h h'∧
  lk l 0 = .v (.c (.ptr g 0 0 0))∧lk l 1 = .v (.c (.int .i64 me))∧lk l 12 = .v (.c (.int .i64 nn))∧lk l 13 = .v (.c (.int .i64 i))
theorem forget_ok {me:Int} (hg:Gr h g m nn q) (hnn:0≤nn∧nn≤16) (hP:∀ h',Gr h' g m nn (if 0≤me∧me<nn then forQ q me nn.toNat else q)→Fm (fun j=>j=m) h h'→P (.tup []) h') :
 callW N (k+2) 15 [.c (.ptr g 0 0 0),.c (.int .i64 me)] h P:=by
 have hgg:=hg.1
 refine call_intro rfl (by simp only [List.length_cons,List.length_nil];omega) ?_
 simp -implicitDefEqProofs only [KK,eq_self,↓reduceIte,reduceLT,reduceEqDiff,reduceAdd,reduceCtorEq]
 refine has_ok hg ?_
 by_cases ha:0≤me∧me<nn
 ·rw [if_pos ha] at hP
  simp -implicitDefEqProofs only [KK,eq_self,↓reduceIte,reduceLT,reduceEqDiff,reduceCtorEq,hgg,ha]
  refine loop_rd (callW_mono N _) (ForI h g m me nn q) (n:=nn.toNat) ?_ ?_
  ·refine ⟨0,h,_,_,rfl,by omega,by omega,?_,Fm.refl _ _,rfl,rfl,rfl,rfl⟩
   have:forQ q me 0=q:=by funext a b;simp only [forQ];rw [if_neg (by omega)]
   rw [this];exact hg
  rintro n s ⟨i,h2,l,lc,rfl,hi,hn,hg2,hfm,e0,e1,e12,e13⟩
  have hgg2:=hg2.1
  by_cases hlt:(i:Int)<nn
  ·have hw:=wrap_i64 (n:=(i:Int)+1) (by omega)
   obtain ⟨_,es,clock,hm2,hM2⟩:=hg2
   obtain ⟨es',clock',u1,u2⟩:=mdel_ok (M':=mq (fun a b=>if a=me∧b=i then none else forQ q me i a b)) (k:=kk me i) hm2 hM2 rfl (mq_none (by simp)) (mq_ne (by
    intro a' b' hne
    rw [if_neg hne]))
   have hgA:Gr (h2.put m (.map true es' clock')) g m nn _:=Gr.put (es:=es) (clock:=clock) ⟨hgg2,es,clock,hm2,hM2⟩ u2
   have hggA:=hgA.1
   have hmA:(h2.put m (.map true es' clock')).g m=some (.map true es' clock'):=by rw [g_put_eq,hm2];rfl
   obtain ⟨es2,clock2,u3,u4⟩:=mdel_ok (M':=mq (forQ q me (i+1))) (k:=kk i me) hmA u2 rfl (mq_none (by unfold forQ;rw [if_pos (by omega)])) (mq_ne (by
    intro a' b' hne
    unfold forQ
    by_cases c:a'=me∧b'=(i:Int)
    ·rw [if_pos c,if_pos (by omega)]
    ·rw [if_neg c]
     by_cases c2:(a'=me∧0≤b'∧b'<(i:Int))∨(b'=me∧0≤a'∧a'<(i:Int))
     ·rw [if_pos c2,if_pos (by omega)]
     ·rw [if_neg c2,if_neg (by omega)]))
   simp -implicitDefEqProofs only [KK,eq_self,↓reduceIte,reduceLT,reduceEqDiff,reduceAdd,reduceLeDiff,reduceCtorEq,e0,e1,e12,e13,hlt,hgg2,u1,hggA,u3,hw,rd_n]
   exact ⟨n-1,by omega,i+1,_,_,_,rfl,by omega,by omega,Gr.put (es:=es') (clock:=clock') hgA u4,(hfm.trans (Fm.put _ _ rfl)).trans (Fm.put _ _ rfl),rfl,rfl,rfl,rfl⟩
  ·simp -implicitDefEqProofs only [KK,eq_self,↓reduceIte,reduceLT,reduceEqDiff,reduceCtorEq,e0,e1,e12,e13,hlt]
   refine hP _ ?_ hfm
   have:nn.toNat=i:=by omega
   rw [this]
   exact hg2
 ·rw [if_neg ha] at hP
  simp -implicitDefEqProofs only [KK,eq_self,↓reduceIte,reduceLT,reduceEqDiff,reduceCtorEq,ha]
  exact hP _ hg (Fm.refl _ _)
end
end
section
set_option maxHeartbeats 4000000
def gridL (q:Nat→Nat→Int):List CV:=(List.range 256).map fun i=>.int .i64 (q (i / 16) (i % 16))
def RG (h:Hp) (r:Nat) (nn:Int) (q:Nat→Nat→Int):Prop:=h.g r=some (.rows true 257 0 0 [.int .i64 nn::gridL q])
def rqual (nn:Int) (q:Nat→Nat→Int) (a b:Int):Int:=if (0≤a∧a<nn)∧(0≤b∧b<nn) then min (q a.toNat b.toNat) (q b.toNat a.toNat) else 0
theorem gridL_at (q:Nat→Nat→Int) {a b:Nat} (ha:a<16) (hb:b<16):(gridL q)[a * 16+b]? = some (.int .i64 (q a b)):=by
 unfold gridL
 rw [List.getElem?_map,List.getElem?_range (by omega)]
 simp only [Option.map_some]
 rw [show (a * 16+b) / 16=a by omega,show (a * 16+b) % 16=b by omega]
theorem gcell_at (nn:Int) (q:Nat→Nat→Int) {a b:Nat} (ha:a<16) (hb:b<16):(CV.int .i64 nn::gridL q)[1+a * 16+b * 1]? = some (.int .i64 (q a b)):=by
 rw [show 1+a * 16+b * 1=(a * 16+b)+1 by omega,List.getElem?_cons_succ,gridL_at q ha hb]
theorem iaA_pt {n sz id tok j off:Nat} {i:Int} (h:0≤i∧i<n):iaddrAV n sz (.v (.c (.ptr id tok j off))) i=some (.v (.c (.ptr id tok j (off+i.toNat * sz)))):=by
 simp [iaddrAV,h]
theorem iaA_lt {n sz b off:Nat} {i:Int} (h:0≤i∧i<n):iaddrAV n sz (.lp b off) i=some (.lp b (off+i.toNat * sz)):=by
 simp [iaddrAV,h]
section
variable {k r:Nat} {nn:Int} {q:Nat→Nat→Int} {h:Hp} {P:AV→Hp→Prop}
theorem rhas_ok {i:Int} (hg:RG h r nn q) (hP:P (.c (.bool (decide (0≤i∧i<nn)))) h) :
 callW N (k+1) 22 [.c (.ptr r 0 0 0),.c (.int .i64 i)] h P:=by
 have hgg:h.g r=_:=hg
 refine call_intro rfl (by simp only [List.length_cons,List.length_nil];omega) ?_
 by_cases h1:0≤i
 ·by_cases h2:i<nn
  ·have e:decide (0≤i∧i<nn)=true:=by simp [h1,h2]
   rw [e] at hP
   simp -implicitDefEqProofs only [KK,eq_self,↓reduceIte,reduceLT,reduceEqDiff,reduceAdd,reduceCtorEq,hgg,h1,h2]
   exact hP
  ·have e:decide (0≤i∧i<nn)=false:=by simp [h2]
   rw [e] at hP
   simp -implicitDefEqProofs only [KK,eq_self,↓reduceIte,reduceLT,reduceEqDiff,reduceAdd,reduceCtorEq,hgg,h1,h2]
   exact hP
 ·have e:decide (0≤i∧i<nn)=false:=by simp [h1]
  rw [e] at hP
  simp -implicitDefEqProofs only [KK,eq_self,↓reduceIte,reduceLT,reduceEqDiff,reduceAdd,reduceCtorEq,h1]
  exact hP
set_option maxRecDepth 100000 in
theorem rnew_ok {nodes:Int} (hP:∀ h' r,RG h' r (max 1 (min nodes 16)) (fun _ _=>0)→Fn h h'→h.n≤r→P (.c (.ptr r 0 0 0)) h'):callW N (k+1) 19 [.c (.int .i64 nodes)] h P:=by
 refine call_intro rfl (by simp only [List.length_cons,List.length_nil];omega) ?_
 simp -implicitDefEqProofs only [KK,eq_self,↓reduceIte,reduceLT,reduceAdd,reduceLeDiff,reduceCtorEq]
 refine hP _ h.n ?_ (Fm.push _ _ _) (Nat.le_refl _)
 unfold RG
 rw [g_push_eq]
 rfl
theorem rqual_ok {a b:Int} (hg:RG h r nn q) (hnn:nn≤16) (hP:P (.c (.int .i64 (rqual nn q a b))) h) :
 callW N (k+2) 11 [.c (.ptr r 0 0 0),.c (.int .i64 a),.c (.int .i64 b)] h P:=by
 have hgg:h.g r=_:=hg
 refine call_intro rfl (by simp only [List.length_cons,List.length_nil];omega) ?_
 simp -implicitDefEqProofs only [KK,eq_self,↓reduceIte,reduceLT,reduceEqDiff,reduceAdd,reduceCtorEq]
 refine rhas_ok hg ?_
 by_cases ha:0≤a∧a<nn
 ·simp -implicitDefEqProofs only [KK,eq_self,↓reduceIte,reduceLT,reduceEqDiff,reduceCtorEq,ha]
  refine rhas_ok hg ?_
  by_cases hb:0≤b∧b<nn
  ·have i1:=iaA_pt (n:=16) (sz:=16) (id:=r) (tok:=0) (j:=0) (off:=1) (i:=a) (by omega)
   have i2:=iaA_pt (n:=16) (sz:=1) (id:=r) (tok:=0) (j:=0) (off:=1+a.toNat * 16) (i:=b) (by omega)
   have i3:=iaA_pt (n:=16) (sz:=16) (id:=r) (tok:=0) (j:=0) (off:=1) (i:=b) (by omega)
   have i4:=iaA_pt (n:=16) (sz:=1) (id:=r) (tok:=0) (j:=0) (off:=1+b.toNat * 16) (i:=a) (by omega)
   have g1:=gcell_at nn q (a:=a.toNat) (b:=b.toNat) (by omega) (by omega)
   have g2:=gcell_at nn q (a:=b.toNat) (b:=a.toNat) (by omega) (by omega)
   rw [show rqual nn q a b=_ from if_pos ⟨ha,hb⟩] at hP
   simp -implicitDefEqProofs only [KK,eq_self,↓reduceIte,reduceLT,reduceEqDiff,reduceCtorEq,hb,hgg,i1,i2,i3,i4,g1,g2]
   exact hP
  ·rw [show rqual nn q a b=0 from if_neg (fun h=>hb h.2)] at hP
   simp -implicitDefEqProofs only [KK,eq_self,↓reduceIte,reduceLT,reduceEqDiff,reduceCtorEq,hb]
   exact hP
 ·rw [show rqual nn q a b=0 from if_neg (fun h=>ha h.1)] at hP
  simp -implicitDefEqProofs only [KK,eq_self,↓reduceIte,reduceLT,reduceEqDiff,reduceCtorEq,ha]
  exact hP
def rnearL (nn:Int) (q:Nat→Nat→Int) (a least:Int) (n:Nat):List Int:=((List.range n).filter fun b:Nat=>decide (0<rqual nn q a b∧least≤rqual nn q a b)).map fun b:Nat=>(b:Int)
theorem rnearL_succ (nn:Int) (q:Nat→Nat→Int) (a least:Int) (n:Nat):rnearL nn q a least (n+1)=rnearL nn q a least n++(if 0<rqual nn q a n∧least≤rqual nn q a n then [(n:Int)] else []):=by
 unfold rnearL
 rw [List.range_succ,List.filter_append,List.map_append]
 congr 1
 by_cases h:0<rqual nn q a n∧least≤rqual nn q a n
 ·simp [h]
 ·rw [if_neg h]
  simp only [List.filter_cons,List.filter_nil,decide_eq_true_eq,h,if_false,List.map_nil]
theorem rnearL_len (nn:Int) (q:Nat→Nat→Int) (a least:Int) (n:Nat):(rnearL nn q a least n).length≤n:=by
 unfold rnearL
 have:=List.length_filter_le (fun b:Nat=>decide (0<rqual nn q a b∧least≤rqual nn q a b)) (List.range n)
 simpa using this
theorem RG.new {h':Hp} (k:RG h r nn q) (f:Fn h h'):RG h' r nn q:=f.some k (fun h=>h)
def RnI (h:Hp) (r:Nat) (a least nn:Int) (q:Nat→Nat→Int) (n:Nat) (s:St):Prop:=
 ∃ (i:Nat) (v:CV) (h':Hp) (l:List (Nat × TV)) (lc:List (List CV)),s=ST 34 l lc h'∧(i:Int)≤nn∧(n:Int)=nn-i∧Own h' 1 v (rI (rnearL nn q a least i))∧Fn h h'∧(∀ j,ownId v j→h.n≤j)∧
  lk l 0 = .v (.c (.ptr r 0 0 0))∧lk l 1 = .v (.c (.int .i64 a))∧lk l 2 = .v (.c (.int .i64 least))∧lk l 7 = .v (.c v)∧lk l 13 = .v (.c (.int .i64 nn))∧lk l 14 = .v (.c (.int .i64 i))
theorem rnear_ok {a least:Int} (hg:RG h r nn q) (hnn:0≤nn∧nn≤16) (hP:∀ v h',Own h' 1 v (rI (rnearL nn q a least nn.toNat))→Fn h h'→(∀ j,ownId v j→h.n≤j)→P (.c v) h') :
 callW N (k+3) 12 [.c (.ptr r 0 0 0),.c (.int .i64 a),.c (.int .i64 least)] h P:=by
 have hgg:h.g r=_:=hg
 refine call_intro rfl (by simp only [List.length_cons,List.length_nil];omega) ?_
 simp -implicitDefEqProofs only [KK,eq_self,↓reduceIte,reduceLT,reduceEqDiff,reduceAdd,reduceCtorEq,hgg]
 refine loop_rd (callW_mono N _) (RnI h r a least nn q) (n:=nn.toNat) ⟨0,.nils,h,_,_,rfl,by omega,by omega,rfl,Fm.refl _ _,fun _ h=>h.elim,rfl,rfl,rfl,rfl,rfl,rfl⟩ ?_
 rintro n s ⟨i,v,h',l,lc,rfl,hi,hn,hown,hfn,hid,e0,e1,e2,e7,e17,e18⟩
 have hg':=hg.new hfn
 by_cases hlt:(i:Int)<nn
 ·simp -implicitDefEqProofs only [KK,eq_self,↓reduceIte,reduceLT,reduceEqDiff,reduceCtorEq,e0,e1,e2,e7,e17,e18,hlt]
  refine rqual_ok hg' hnn.2 ?_
  have key:∀ v' h'' (l:List (Nat × TV)) lc,Own h'' 1 v' (rI (rnearL nn q a least (i+1)))→Fn h h''→(∀ j,ownId v' j→h.n≤j)→lk l 0 = .v (.c (.ptr r 0 0 0))→lk l 1 = .v (.c (.int .i64 a))→lk l 2 = .v (.c (.int .i64 least))→lk l 7 = .v (.c v')→lk l 13 = .v (.c (.int .i64 nn))→
   lk l 14 = .v (.c (.int .i64 ((i:Int)+1)))→∃ m,m<n∧RnI h r a least nn q m (ST 34 l lc h''):=by
   intro v' h'' l lc k1 k2 k0 k3 k4 k5 k6 k7 k8
   exact ⟨n-1,by omega,i+1,v',h'',l,lc,rfl,by omega,by omega,k1,k2,k0,k3,k4,k5,k6,k7,by rw [k8];rfl⟩
  by_cases c1:0<rqual nn q a i
  ·by_cases c2:least≤rqual nn q a i
   ·have hl:=rnearL_len nn q a least i
    obtain ⟨v',h'',f1,f2,f3,f4⟩:=hown.app (lc:=[[.int .i64 i]]) (x:=.lsl 0 1) (xs:=[[.int .i64 i]]) rfl (by simp) (bytes:=8) (by rw [rI_len];simp [room];omega)
    simp -implicitDefEqProofs (disch:=omega) only [KK,eq_self,↓reduceIte,reduceLT,reduceEqDiff,reduceCtorEq,c1,c2,f1,wrap_i64,rd_n]
    refine key v' h'' _ _ ?_ (hfn.fresh f3 hid) (fun j hj=>(f4 j hj).elim (hid j) (fun h=>Nat.le_trans hfn.n h)) rfl rfl rfl rfl rfl rfl
    rw [rnearL_succ,if_pos ⟨c1,c2⟩]
    simpa [rI] using f2
   ·simp -implicitDefEqProofs (disch:=omega) only [KK,eq_self,↓reduceIte,reduceLT,reduceEqDiff,reduceCtorEq,c1,c2,wrap_i64,rd_n]
    refine key v h' _ _ ?_ hfn hid rfl rfl rfl rfl rfl rfl
    rw [rnearL_succ,if_neg (by omega),List.append_nil]
    exact hown
  ·simp -implicitDefEqProofs (disch:=omega) only [KK,eq_self,↓reduceIte,reduceLT,reduceEqDiff,reduceCtorEq,c1,wrap_i64,rd_n]
   refine key v h' _ _ ?_ hfn hid rfl rfl rfl rfl rfl rfl
   rw [rnearL_succ,if_neg (by omega),List.append_nil]
   exact hown
 ·simp -implicitDefEqProofs only [KK,eq_self,↓reduceIte,reduceLT,reduceEqDiff,reduceCtorEq,e0,e1,e2,e7,e17,e18,hlt]
  refine hP _ _ ?_ hfn hid
  have:nn.toNat=i:=by omega
  rw [this]
  exact hown
end
end
section
set_option maxHeartbeats 4000000
theorem gridL_len (q:Nat→Nat→Int):(gridL q).length=256:=by simp [gridL]
theorem gridL_get (q:Nat→Nat→Int) {i:Nat} (h:i<256):(gridL q)[i]? = some (.int .i64 (q (i / 16) (i % 16))):=by
 unfold gridL
 rw [List.getElem?_map,List.getElem?_range h]
 rfl
theorem gridL_none (q:Nat→Nat→Int) {i:Nat} (h:256≤i):(gridL q)[i]? = none:=List.getElem?_eq_none (by rw [gridL_len];exact h)
theorem splice_grid {q q':Nat→Nat→Int} {o:Nat} {cs:List CV} {x:CV} (ho:o+cs.length≤256) (hc:∀ i,i<cs.length→cs[i]? = some (.int .i64 (q' ((o+i) / 16) ((o+i) % 16))))
 (hq:∀ i,i<256→(i<o∨o+cs.length≤i)→q' (i / 16) (i % 16)=q (i / 16) (i % 16)):splice (x::gridL q) (1+o) cs=x::gridL q':=by
 have hs:splice (x::gridL q) (1+o) cs=x::splice (gridL q) o cs:=by
  unfold splice
  rw [show 1+o=o+1 by omega,show o+1+cs.length=(o+cs.length)+1 by omega]
  rfl
 rw [hs]
 congr 1
 apply List.ext_getElem?
 intro i
 unfold splice
 by_cases h1:i<o
 ·rw [List.append_assoc,List.getElem?_append_left (by rw [List.length_take,gridL_len];omega),List.getElem?_take,if_pos h1,gridL_get q (by omega),gridL_get q' (by omega),hq i (by omega) (.inl h1)]
 ·by_cases h2:i<o+cs.length
  ·rw [List.append_assoc,List.getElem?_append_right (by rw [List.length_take,gridL_len];omega),List.length_take,gridL_len,Nat.min_eq_left (by omega),List.getElem?_append_left (by omega),hc _ (by omega),gridL_get q' (by omega),show o+(i-o)=i by omega]
  ·rw [List.getElem?_append_right (by rw [List.length_append,List.length_take,gridL_len];omega),List.length_append,List.length_take,gridL_len,Nat.min_eq_left (by omega),List.getElem?_drop,show o+cs.length+(i-(o+cs.length))=i by omega]
   by_cases h3:i<256
   ·rw [gridL_get q h3,gridL_get q' h3,hq i h3 (.inr (by omega))]
   ·rw [gridL_none q (by omega),gridL_none q' (by omega)]
def rforQ (q:Nat→Nat→Int) (me i:Nat) (a b:Nat):Int:=if a=me∨(b=me∧a<i) then 0 else q a b
section
variable {k r:Nat} {nn:Int} {q:Nat→Nat→Int} {h:Hp} {P:AV→Hp→Prop}
theorem RG.put {q':Nat→Nat→Int} {R:List CV} (hg:RG h r nn q) (he:R = .int .i64 nn::gridL q'):RG (h.put r (.rows true 257 0 0 [R])) r nn q':=by
 have hgg:h.g r=_:=hg
 unfold RG
 rw [g_put_eq,hgg,he]
 rfl
def RfI (h:Hp) (r:Nat) (me nn:Int) (q:Nat→Nat→Int) (n:Nat) (s:St):Prop:=
 ∃ (i:Nat) (h':Hp) (l:List (Nat × TV)) (lc:List (List CV)),s=ST 26 l lc h'∧i≤16∧n=16-i∧RG h' r nn (rforQ q me.toNat i)∧Fm (fun j=>j=r) h h'∧
  lk l 0 = .v (.c (.ptr r 0 0 0))∧lk l 1 = .v (.c (.int .i64 me))∧lk l 15 = .v (.c (.int .i64 i))
set_option maxRecDepth 100000 in
theorem rforget_ok {me:Int} (hg:RG h r nn q) (hnn:0≤nn∧nn≤16) (hP:∀ h',RG h' r nn (if 0≤me∧me<nn then rforQ q me.toNat 16 else q)→Fm (fun j=>j=r) h h'→P (.tup []) h') :
 callW N (k+2) 20 [.c (.ptr r 0 0 0),.c (.int .i64 me)] h P:=by
 have hgg:h.g r=_:=hg
 refine call_intro rfl (by simp only [List.length_cons,List.length_nil];omega) ?_
 simp -implicitDefEqProofs only [KK,eq_self,↓reduceIte,reduceLT,reduceEqDiff,reduceAdd,reduceCtorEq]
 refine rhas_ok hg ?_
 by_cases ha:0≤me∧me<nn
 ·rw [if_pos ha] at hP
  have i1:=iaA_pt (n:=16) (sz:=16) (id:=r) (tok:=0) (j:=0) (off:=1) (i:=me) (by omega)
  simp -implicitDefEqProofs only [KK,eq_self,↓reduceIte,reduceLT,reduceEqDiff,reduceAdd,reduceLeDiff,reduceCtorEq,hgg,ha,i1]
  refine ⟨by rw [gridL_len];omega,?_⟩
  refine loop_rd (callW_mono N _) (RfI h r me nn q) (n:=16) ?_ ?_
  ·refine ⟨0,_,_,_,rfl,by omega,by omega,RG.put hg ?_,Fm.put _ _ rfl,rfl,rfl,rfl⟩
   refine Eq.trans ?_ (splice_grid (q:=q) (o:=me.toNat * 16) (cs:=[.int .i64 0,.int .i64 0,.int .i64 0,.int .i64 0,.int .i64 0,.int .i64 0,.int .i64 0,.int .i64 0,.int .i64 0,.int .i64 0,.int .i64 0,.int .i64 0,.int .i64 0,.int .i64 0,.int .i64 0,.int .i64 0]) (by simp only [List.length_cons,List.length_nil];omega) ?_ ?_)
   ·rw [splice,List.append_assoc]
    rfl
   ·intro i hi
    simp only [List.length_cons,List.length_nil] at hi
    have:rforQ q me.toNat 0 ((me.toNat * 16+i) / 16) ((me.toNat * 16+i) % 16)=0:=by
     unfold rforQ
     rw [if_pos (.inl (by omega))]
    rw [this]
    match i,hi with
    | 0,_|1,_|2,_|3,_|4,_|5,_|6,_|7,_|8,_|9,_|10,_|11,_|12,_|13,_|14,_|15,_=>rfl
    | n+16,hn=>exact absurd hn (by omega)
   ·intro i hi h2
    simp only [List.length_cons,List.length_nil] at h2
    unfold rforQ
    rw [if_neg (by omega)]
  rintro n s ⟨i,h2,l,lc,rfl,hi,hn,hg2,hfm,e0,e1,e15⟩
  have hgg2:h2.g r=_:=hg2
  by_cases hlt:(i:Int)<16
  ·have hw:=wrap_i64 (n:=(i:Int)+1) (by omega)
   have i2:=iaA_pt (n:=16) (sz:=16) (id:=r) (tok:=0) (j:=0) (off:=1) (i:=(i:Int)) (by omega)
   have i3:=iaA_pt (n:=16) (sz:=1) (id:=r) (tok:=0) (j:=0) (off:=1+(i:Int).toNat * 16) (i:=me) (by omega)
   simp -implicitDefEqProofs only [KK,eq_self,↓reduceIte,reduceLT,reduceEqDiff,reduceLeDiff,reduceCtorEq,e0,e1,e15,hlt,hgg2,i2,i3,hw,rd_n]
   refine ⟨by rw [gridL_len];omega,?_⟩
   refine ⟨n-1,by omega,i+1,_,_,_,rfl,by omega,by omega,RG.put hg2 ?_,hfm.trans (Fm.put _ _ rfl),rfl,rfl,rfl⟩
   refine Eq.trans ?_ (splice_grid (q:=rforQ q me.toNat i) (o:=i * 16+me.toNat) (cs:=[.int .i64 0]) (by simp only [List.length_cons,List.length_nil];omega) ?_ ?_)
   ·rw [splice,List.append_assoc,show 1+(i:Int).toNat * 16+me.toNat * 1=1+(i * 16+me.toNat) by omega]
    rfl
   ·intro j hj
    simp only [List.length_cons,List.length_nil] at hj
    obtain rfl:j=0:=by omega
    have:rforQ q me.toNat (i+1) ((i * 16+me.toNat+0) / 16) ((i * 16+me.toNat+0) % 16)=0:=by
     unfold rforQ
     rw [if_pos (.inr (by omega))]
    rw [this]
    rfl
   ·intro j hj h3
    simp only [List.length_cons,List.length_nil] at h3
    unfold rforQ
    by_cases c1:j / 16=me.toNat∨(j % 16=me.toNat∧j / 16<i)
    ·rw [if_pos c1,if_pos (by omega)]
    ·rw [if_neg c1,if_neg (by omega)]
  ·simp -implicitDefEqProofs only [KK,eq_self,↓reduceIte,reduceLT,reduceEqDiff,reduceCtorEq,e0,e1,e15,hlt]
   have:i=16:=by omega
   subst this
   exact hP _ hg2 hfm
 ·rw [if_neg ha] at hP
  simp -implicitDefEqProofs only [KK,eq_self,↓reduceIte,reduceLT,reduceEqDiff,reduceCtorEq,ha]
  exact hP _ hg (Fm.refl _ _)
def rowLt (f:Nat→Int):List CV:=(List.range 16).map fun b=>.int .i64 (f b)
def seenL (f:Nat→Bool):List CV:=(List.range 16).map fun b=>.bool (f b)
def rf (L:List Lk) (b:Nat):Int:=((L.find? fun x=>x.b == (b:Int)).map (·.q)).getD 0
def rs (L:List Lk) (b:Nat):Bool:=decide ((b:Int)∈L.map (·.b))
theorem rowL_lent (f:Nat→Int):(rowLt f).length=16:=by simp [rowLt]
theorem seenL_len (f:Nat→Bool):(seenL f).length=16:=by simp [seenL]
theorem seenL_at (f:Nat→Bool) {b:Nat} (h:b<16):(seenL f)[b * 1]? = some (.bool (f b)):=by
 unfold seenL
 rw [List.getElem?_map,List.getElem?_range (by omega)]
 simp
theorem set16t (g g':Nat→CV) {b:Nat} (hb:b<16) (he:∀ j,j<16→j≠b→g' j=g j):((List.range 16).map g).take (b * 1)++g' b::((List.range 16).map g).drop (b * 1+1)=(List.range 16).map g':=by
 rw [Nat.mul_one]
 apply List.ext_getElem?
 intro i
 rw [List.getElem?_map]
 by_cases h1:i<b
 ·rw [List.getElem?_append_left (by simp;omega),List.getElem?_take,if_pos h1,List.getElem?_map,List.getElem?_range (by omega)]
  simp [he i (by omega) (by omega)]
 ·rw [List.getElem?_append_right (by simp;omega),List.length_take,List.length_map,List.length_range,Nat.min_eq_left (by omega)]
  by_cases h2:i=b
  ·subst h2
   rw [Nat.sub_self,List.getElem?_cons_zero,List.getElem?_range (by omega)]
   rfl
  ·rw [show i-b=(i-b-1)+1 by omega,List.getElem?_cons_succ,List.getElem?_drop,show b+1+(i-b-1)=i by omega,List.getElem?_map]
   by_cases h3:i<16
   ·rw [List.getElem?_range h3]
    simp [he i h3 h2]
   ·rw [List.getElem?_eq_none (by simp;omega)]
    rfl
theorem rf_snoc_eq (L:List Lk) (x:Lk) (h:x.b∉L.map (·.b)) (hb:0≤x.b):rf (L++[x]) x.b.toNat=x.q:=by
 unfold rf
 rw [show ((x.b.toNat:Nat):Int)=x.b by omega,List.find?_append,List.find?_eq_none.mpr]
 ·simp
 ·intro y hy hyb
  exact h (List.mem_map.mpr ⟨y,hy,by simpa using hyb⟩)
theorem rf_snoc_ne (L:List Lk) (x:Lk) (hb:0≤x.b) {j:Nat} (hj:j≠x.b.toNat):rf (L++[x]) j=rf L j:=by
 unfold rf
 rw [List.find?_append]
 have:List.find? (fun y:Lk=>y.b == (j:Int)) [x] = none:=by
  rw [List.find?_eq_none]
  intro y hy hyb
  simp at hy
  subst hy
  have:y.b=(j:Int):=by simpa using hyb
  omega
 rw [this]
 simp
theorem rs_snoc (L:List Lk) (x:Lk) (j:Nat):rs (L++[x]) j=(rs L j || decide (x.b=(j:Int))):=by
 unfold rs
 simp [List.mem_append,eq_comm]
def RrI (h:Hp) (r:Nat) (me nn:Int) (v:CV) (L:List Lk) (n:Nat) (s:St):Prop:=
 ∃ (i:Nat) (l:List (Nat × TV)),s=ST 75 l [rowLt (rf (L.take i)),seenL (rs (L.take i))] h∧i≤L.length∧n=L.length-i∧(∀ x∈L.take i,good nn me x)∧((L.take i).map (·.b)).Nodup∧
  lk l 0 = .v (.c (.ptr r 0 0 0))∧lk l 1 = .v (.c (.int .i64 me))∧lk l 7 = .lp 0 0∧lk l 8 = .lp 1 0∧lk l 21 = .v (.c v)∧lk l 22 = .v (.c (.int .i64 L.length))∧lk l 23 = .v (.c (.int .i64 i))
def rrepQ (q:Nat→Nat→Int) (me:Nat) (L:List Lk) (a b:Nat):Int:=if a=me then rf L b else q a b
set_option maxRecDepth 100000 in
theorem rreport_ok {me:Int} {v:CV} {L:List Lk} (hg:RG h r nn q) (hnn:0≤nn∧nn≤16) (hl:SL h 3 v (rL L))
 (h1:MayL nn me L→∀ h',RG h' r nn (rrepQ q me.toNat L)→Fm (fun j=>j=r) h h'→P (.c (.int .i64 0)) h') (h0:¬MayL nn me L→P (.c (.int .i64 1)) h) :
 callW N (k+2) 21 [.c (.ptr r 0 0 0),.c (.int .i64 me),.c v] h P:=by
 have hgg:h.g r=_:=hg
 have hlen:∀ h':Hp,lenT h' .sl (.v (.c v))=some (L.length:Int):=fun h'=>by rw [hl.len h',rL_len]
 refine call_intro rfl (by simp only [List.length_cons,List.length_nil];omega) ?_
 simp -implicitDefEqProofs only [KK,eq_self,↓reduceIte,reduceLT,reduceEqDiff,reduceAdd,reduceCtorEq]
 refine rhas_ok hg ?_
 by_cases ha:0≤me∧me<nn
 ·by_cases hc:(16:Int)<L.length
  ·simp -implicitDefEqProofs only [KK,eq_self,↓reduceIte,reduceLT,reduceEqDiff,reduceCtorEq,ha,hlen,hc]
   exact h0 (fun hm=>by have:=hm.2.1;omega)
  ·simp -implicitDefEqProofs only [KK,eq_self,↓reduceIte,reduceLT,reduceEqDiff,reduceAdd,reduceCtorEq,ha,hlen,hc]
   refine loop_rd (callW_mono N _) (RrI h r me nn v L) (n:=L.length) ?_ ?_
   ·exact ⟨0,_,rfl,by omega,by omega,by simp,by simp,rfl,rfl,rfl,rfl,rfl,rfl,rfl⟩
   rintro n s ⟨i,l,rfl,hi,hn,hgood,hnd,e0,e1,e7,e8,e21,e22,e23⟩
   by_cases hlt:(i:Int)<L.length
   ·have hi':i<L.length:=by omega
    obtain ⟨x,hx⟩:∃ x,L[i]? = some x:=⟨_,List.getElem?_eq_getElem hi'⟩
    have hrow:(rL L)[((i:Int)).toNat]? = some (rLk x):=by simp [rL,hx]
    obtain ⟨pid,ptok,pj,a1,a2⟩:=hl.at (by omega) hrow
    rw [show rLk x=[.int .i64 x.a,.int .i64 x.b,.int .i64 x.q] from rfl] at a2
    have hts:=take_snoct hx
    have hw:=wrap_i64 (n:=(i:Int)+1) (by omega)
    have hbad:¬good nn me x→¬MayL nn me L:=fun hb hm=>hb (hm.2.2.1 x (List.mem_of_getElem? hx))
    by_cases c1:x.a=me
    ·have d1:decide (x.a=me)=true:=by simp [c1]
     simp -implicitDefEqProofs only [KK,eq_self,↓reduceIte,reduceLT,reduceEqDiff,reduceAdd,reduceCtorEq,e0,e1,e7,e8,e21,e22,e23,hlt,a1,a2,d1]
     refine rhas_ok hg ?_
     by_cases c3:0≤x.b∧x.b<nn
     ·by_cases c2:x.b=me
      ·have d2:decide (x.b=me)=true:=by simp [c2]
       simp -implicitDefEqProofs only [KK,eq_self,↓reduceIte,reduceLT,reduceEqDiff,reduceAdd,reduceCtorEq,c3,d2]
       exact h0 (hbad fun hb=>hb.2.1 c2)
      ·by_cases c4:x.q<0
       ·simp -implicitDefEqProofs only [KK,eq_self,↓reduceIte,reduceLT,reduceEqDiff,reduceAdd,reduceCtorEq,c3,c2,c4]
        exact h0 (hbad fun hb=>by have:=hb.2.2.2.1;omega)
       ·by_cases c5:255<x.q
        ·simp -implicitDefEqProofs only [KK,eq_self,↓reduceIte,reduceLT,reduceEqDiff,reduceAdd,reduceCtorEq,c3,c2,c4,c5]
         exact h0 (hbad fun hb=>by have:=hb.2.2.2.2;omega)
        ·have j1:=iaA_lt (n:=16) (sz:=1) (b:=1) (off:=0) (i:=x.b) (by omega)
         have j2:=iaA_lt (n:=16) (sz:=1) (b:=0) (off:=0) (i:=x.b) (by omega)
         have s1:=seenL_at (rs (L.take i)) (b:=x.b.toNat) (by omega)
         have hb':((x.b.toNat:Nat):Int)=x.b:=by omega
         by_cases hmem:x.b∈(L.take i).map (·.b)
         ·have hsn:rs (L.take i) x.b.toNat=true:=by unfold rs;rw [hb'];simpa using hmem
          rw [hsn] at s1
          simp -implicitDefEqProofs only [KK,eq_self,↓reduceIte,reduceLT,reduceEqDiff,reduceAdd,reduceCtorEq,c3,c2,c4,c5,j1,s1]
          refine h0 ?_
          rintro ⟨_,_,_,hndl⟩
          have hsub:((L.take (i+1)).map (·.b)).Nodup:=hndl.sublist ((List.take_sublist _ _).map _)
          rw [hts,List.map_append,List.nodup_append] at hsub
          exact hsub.2.2 x.b hmem x.b (by simp) rfl
         ·have hsn:rs (L.take i) x.b.toNat=false:=by unfold rs;rw [hb'];simpa using hmem
          rw [hsn] at s1
          simp -implicitDefEqProofs only [KK,eq_self,↓reduceIte,reduceLT,reduceEqDiff,reduceAdd,reduceLeDiff,reduceCtorEq,c3,c2,c4,c5,j1,j2,s1,hw,rd_n]
          refine ⟨by rw [seenL_len];omega,by rw [rowL_lent];omega,?_⟩
          have r1:(rowLt (rf (L.take i))).take (x.b.toNat * 1)++CV.int .i64 x.q::(rowLt (rf (L.take i))).drop (x.b.toNat * 1+1)=rowLt (rf (L.take (i+1))):=by
           have hq:=rf_snoc_eq (L.take i) x hmem c3.1
           rw [←hts] at hq
           rw [←hq]
           refine set16t (fun b=>.int .i64 (rf (L.take i) b)) (fun b=>.int .i64 (rf (L.take (i+1)) b)) (by omega) ?_
           intro j _ hj
           rw [hts,rf_snoc_ne _ _ c3.1 hj]
          have r2:(seenL (rs (L.take i))).take (x.b.toNat * 1)++CV.bool true::(seenL (rs (L.take i))).drop (x.b.toNat * 1+1)=seenL (rs (L.take (i+1))):=by
           have hq:rs (L.take (i+1)) x.b.toNat=true:=by rw [hts,rs_snoc];simp;right;omega
           rw [←hq]
           refine set16t (fun b=>.bool (rs (L.take i) b)) (fun b=>.bool (rs (L.take (i+1)) b)) (by omega) ?_
           intro j _ hj
           rw [hts,rs_snoc]
           have:decide (x.b=(j:Int))=false:=by simp;omega
           rw [this,Bool.or_false]
          rw [r1,r2]
          refine ⟨n-1,by omega,i+1,_,rfl,by omega,by omega,?_,?_,rfl,rfl,rfl,rfl,rfl,rfl,rfl⟩
          ·intro y hy
           rw [hts] at hy
           rcases List.mem_append.mp hy with hy|hy
           ·exact hgood y hy
           ·simp at hy;subst hy;exact ⟨c1,c2,c3,by omega,by omega⟩
          ·rw [hts,List.map_append,List.nodup_append]
           refine ⟨hnd,by simp,?_⟩
           intro a ha b hb
           simp at hb
           subst hb
           rintro rfl
           exact hmem ha
     ·simp -implicitDefEqProofs only [KK,eq_self,↓reduceIte,reduceLT,reduceEqDiff,reduceAdd,reduceCtorEq,c3]
      exact h0 (hbad fun hb=>c3 hb.2.2.1)
    ·simp -implicitDefEqProofs only [KK,eq_self,↓reduceIte,reduceLT,reduceEqDiff,reduceAdd,reduceCtorEq,e0,e1,e7,e8,e21,e22,e23,hlt,a1,a2,c1]
     exact h0 (hbad fun hb=>c1 hb.1)
   ·simp -implicitDefEqProofs only [KK,eq_self,↓reduceIte,reduceLT,reduceEqDiff,reduceAdd,reduceLeDiff,reduceCtorEq,e0,e1,e7,e8,e21,e22,e23,hlt]
    have hii:i=L.length:=by omega
    subst hii
    rw [List.take_length] at hgood hnd
    have i1:=iaA_pt (n:=16) (sz:=16) (id:=r) (tok:=0) (j:=0) (off:=1) (i:=me) (by omega)
    have htk:(rowLt (rf L)).take 16=rowLt (rf L):=List.take_of_length_le (by rw [rowL_lent];omega)
    have hrl:=rowL_lent (rf L)
    simp -implicitDefEqProofs only [KK,eq_self,↓reduceIte,reduceLT,reduceEqDiff,reduceLeDiff,List.take_length,hrl,htk,i1,hgg]
    refine ⟨by rw [gridL_len];omega,?_⟩
    refine h1 ⟨ha,by omega,hgood,hnd⟩ _ (RG.put hg ?_) (Fm.put _ _ rfl)
    refine Eq.trans ?_ (splice_grid (q:=q) (o:=me.toNat * 16) (cs:=rowLt (rf L)) (by rw [rowL_lent];omega) ?_ ?_)
    ·rw [splice,List.append_assoc,rowL_lent]
     rfl
    ·intro j hj
     rw [rowL_lent] at hj
     unfold rowLt rrepQ
     rw [List.getElem?_map,List.getElem?_range hj,show (me.toNat * 16+j) / 16=me.toNat by omega,show (me.toNat * 16+j) % 16=j by omega,if_pos rfl]
     rfl
    ·intro j hj h3
     rw [rowL_lent] at h3
     unfold rrepQ
     rw [if_neg (by omega)]
 ·simp -implicitDefEqProofs only [KK,eq_self,↓reduceIte,reduceLT,reduceEqDiff,reduceCtorEq,ha]
  exact h0 (fun hm=>ha hm.1)
end
end
section
set_option maxHeartbeats 4000000
structure Cl where
 f:Bool
 me:Int
 v:CV
 L:List Lk
def rC (C:List Cl):List (List CV):=C.map fun c=>[.bool c.f,.int .i64 c.me,c.v]
structure Rl (nn:Int) (q:Int→Int→Option Int) (Q:Nat→Nat→Int):Prop where
 out:∀ a b,¬((0≤a∧a<nn)∧(0≤b∧b<nn))→q a b=none
 diag:∀ a,q a a=none
 le:∀ a b v,q a b=some v→v≤255
 eq:∀ a b:Int,0≤a∧a<nn→0≤b∧b<nn→(q a b).getD 0=Q a.toNat b.toNat
theorem Rl.zero (nn:Int):Rl nn (fun _ _=>none) (fun _ _=>0):=⟨fun _ _ _=>rfl,fun _=>rfl,(by intro _ _ _ h;cases h),fun _ _ _ _=>rfl⟩
theorem Rl.rep {nn me:Int} {q:Int→Int→Option Int} {Q:Nat→Nat→Int} {L:List Lk} (h:Rl nn q Q) (hL:MayL nn me L):Rl nn (repQ q nn me L) (rrepQ Q me.toNat L):=by
 have hm:=hL.1
 constructor
 ·intro a b hab
  unfold repQ
  rw [if_neg (fun hh=>hab ⟨by omega,hh.2⟩)]
  exact h.out a b hab
 ·intro a
  unfold repQ
  split
  ·rename_i e
   rw [List.find?_eq_none.mpr]
   ·rfl
   ·intro x hx hxa
    have:=(hL.2.2.1 x hx).2.1
    have:x.b=a:=by simpa using hxa
    omega
  ·exact h.diag a
 ·intro a b v hv
  unfold repQ at hv
  split at hv
  ·rw [Option.map_eq_some_iff] at hv
   obtain ⟨x,hx,rfl⟩:=hv
   exact (hL.2.2.1 x (List.mem_of_find?_eq_some hx)).2.2.2.2
  ·exact h.le a b v hv
 ·intro a b ha hb
  unfold repQ rrepQ
  by_cases e:a=me
  ·rw [if_pos ⟨e,hb⟩,if_pos (by omega)]
   unfold rf
   rw [show ((b.toNat:Nat):Int)=b by omega]
  ·rw [if_neg (fun hh=>e hh.1),if_neg (by omega)]
   exact h.eq a b ha hb
theorem Rl.forg {nn me:Int} {q:Int→Int→Option Int} {Q:Nat→Nat→Int} (h:Rl nn q Q) (hm:0≤me∧me<nn) (h16:nn≤16):Rl nn (forQ q me nn.toNat) (rforQ Q me.toNat 16):=by
 constructor
 ·intro a b hab
  unfold forQ
  split
  ·rfl
  ·exact h.out a b hab
 ·intro a
  unfold forQ
  split
  ·rfl
  ·exact h.diag a
 ·intro a b v hv
  unfold forQ at hv
  split at hv
  ·cases hv
  ·exact h.le a b v hv
 ·intro a b ha hb
  unfold forQ rforQ
  by_cases e:a=me∨b=me
  ·rw [if_pos (by omega),if_pos (by omega)]
   rfl
  ·rw [if_neg (by omega),if_neg (by omega)]
   exact h.eq a b ha hb
theorem Rl.qual {nn:Int} {q:Int→Int→Option Int} {Q:Nat→Nat→Int} (h:Rl nn q Q) (a b:Int):rqual nn Q a b=qual q a b:=by
 unfold rqual Camp.qual
 by_cases hab:(0≤a∧a<nn)∧(0≤b∧b<nn)
 ·rw [if_pos hab,h.eq a b hab.1 hab.2,h.eq b a hab.2 hab.1]
 ·rw [if_neg hab,h.out a b hab,h.out b a (fun hh=>hab ⟨hh.2,hh.1⟩)]
  rfl
section
variable {k g m r:Nat} {nn:Int} {q:Int→Int→Option Int} {Q:Nat→Nat→Int} {h:Hp} {P:AV→Hp→Prop}
theorem Gr.ner (hg:Gr h g m nn q) (hr:RG h r nn Q):¬g=r∧¬m=r:=by
 obtain ⟨h1,es,c,h2,_⟩:=hg
 have hr:h.g r=_:=hr
 constructor
 ·rintro rfl
  rw [h1] at hr
  simp at hr
 ·rintro rfl
  rw [h2] at hr
  cases hr
theorem Gr.own' {S:Nat→Prop} {h':Hp} (hg:Gr h g m nn q) (f:Fm S h h') (hs:¬S g∧¬S m):Gr h' g m nn q:=by
 obtain ⟨h1,es,clock,h2,h3⟩:=hg
 exact ⟨f.some h1 hs.1,es,clock,f.some h2 hs.2,h3⟩
theorem RG.own {S:Nat→Prop} {h':Hp} (hg:RG h r nn Q) (f:Fm S h h') (hs:¬S r):RG h' r nn Q:=f.some hg hs
theorem SL.old {sz:Nat} {v:CV} {rows:List (List CV)} (hl:SL h sz v rows):∀ id tok off len cap,v = .sl id tok off len cap→id<h.n:=by
 rintro id tok off len cap rfl
 obtain ⟨wr,cur,lw,rs,h3,_⟩:=hl
 exact lt_of_g h3
def MdI (h:Hp) (g m r:Nat) (nn:Int) (v:CV) (C:List Cl) (n:Nat) (s:St):Prop:=
 ∃ (i:Nat) (h':Hp) (l:List (Nat × TV)) (lc:List (List CV)) (q:Int→Int→Option Int) (Q:Nat→Nat→Int),s=ST 58 l [] h'∧i≤C.length∧n=C.length-i∧Gr h' g m nn q∧RG h' r nn Q∧Rl nn q Q∧Fn h h'∧
  lk l 7 = .v (.c (.ptr g 0 0 0))∧lk l 8 = .v (.c (.ptr r 0 0 0))∧lk l 15 = .v (.c v)∧lk l 16 = .v (.c (.int .i64 C.length))∧lk l 17 = .v (.c (.int .i64 i))
theorem made_ok {nodes:Int} {v:CV} {C:List Cl} (hl:SL h 3 v (rC C)) (hC:∀ c∈C,SL h 3 c.v (rL c.L))
 (hP:∀ h' g m r nn q Q,Gr h' g m nn q→RG h' r nn Q→Rl nn q Q→1≤nn∧nn≤16→Fn h h'→P (.tup [.c (.ptr g 0 0 0),.c (.ptr r 0 0 0),.c (.int .i64 0)]) h') :
 callW N (k+4) 7 [.c (.int .i64 nodes),.c v] h P:=by
 have hcl:(rC C).length=C.length:=by simp [rC]
 have hlen:∀ h':Hp,lenT h' .sl (.v (.c v))=some (C.length:Int):=fun h'=>by rw [hl.len h',hcl]
 refine call_intro rfl (by simp only [List.length_cons,List.length_nil];omega) ?_
 simp -implicitDefEqProofs only [KK,eq_self,↓reduceIte,reduceLT,reduceEqDiff,reduceAdd,reduceCtorEq]
 refine new_ok (k:=k+2) ?_
 intro h1 g m hg hf hng hnm
 simp -implicitDefEqProofs only [KK,eq_self,↓reduceIte,reduceLT,reduceCtorEq]
 refine rnew_ok (k:=k+2) ?_
 intro h2 r hr hf2 hnr
 obtain ⟨nn,hnn⟩:∃ nn,nn=max 1 (min nodes 16):=⟨_,rfl⟩
 have hn1:1≤nn∧nn≤16:=by omega
 rw [←hnn] at hg hr
 have hg2:=hg.new hf2
 have hfn:=hf.trans hf2
 have hnr':h.n≤r:=Nat.le_trans hf.n hnr
 simp -implicitDefEqProofs only [KK,eq_self,↓reduceIte,reduceLT,reduceEqDiff,reduceCtorEq,hlen]
 refine loop_rd (callW_mono N _) (MdI h g m r nn v C) (n:=C.length) ?_ ?_
 ·exact ⟨0,h2,_,[],_,_,rfl,by omega,by omega,hg2,hr,Rl.zero nn,hfn,rfl,rfl,rfl,rfl,rfl⟩
 clear hg hf hr hg2 hfn hf2
 rintro n s ⟨i,h3,l,lc,q,Q,rfl,hi,hn,hg,hr,hR,hfn,e7,e8,e15,e16,e17⟩
 by_cases hlt:(i:Int)<C.length
 ·have hi':i<C.length:=by omega
  obtain ⟨x,hx⟩:∃ x,C[i]? = some x:=⟨_,List.getElem?_eq_getElem hi'⟩
  have hrow:(rC C)[((i:Int)).toNat]? = some [.bool x.f,.int .i64 x.me,x.v]:=by simp [rC,hx]
  obtain ⟨pid,ptok,pj,a1,a2⟩:=(hl.new hfn).at (by omega) hrow
  have hxl:=hC x (List.mem_of_getElem? hx)
  have hlx:∀ h':Hp,lenT h' .sl (.v (.c x.v))=some (x.L.length:Int):=fun h'=>by rw [hxl.len h',rL_len]
  by_cases c1:(60:Int)≤i
  ·simp -implicitDefEqProofs only [KK,eq_self,↓reduceIte,reduceLT,reduceEqDiff,reduceAdd,reduceCtorEq,e7,e8,e15,e16,e17,hlt,a1,a2,c1]
   exact hP _ _ _ _ _ _ _ hg hr hR hn1 hfn
  ·have hw:=wrap_i64 (n:=(i:Int)+1) (by omega)
   by_cases c2:(60:Int)<x.L.length
   ·simp -implicitDefEqProofs only [KK,eq_self,↓reduceIte,reduceLT,reduceEqDiff,reduceAdd,reduceCtorEq,e7,e8,e15,e16,e17,hlt,a1,a2,c1,hlx,c2]
    exact hP _ _ _ _ _ _ _ hg hr hR hn1 hfn
   ·cases hxf:x.f with
    | true=>
     rw [hxf] at a2
     simp -implicitDefEqProofs only [KK,eq_self,↓reduceIte,reduceLT,reduceEqDiff,reduceAdd,e7,e8,e15,e16,e17,hlt,a1,a2,c1,hlx,c2]
     refine forget_ok hg (by omega) ?_
     intro h4 hg4 hf4
     simp -implicitDefEqProofs only [KK,eq_self,↓reduceIte,reduceLT,reduceEqDiff]
     refine rforget_ok (hr.own hf4 (fun e=>(hg.ner hr).2 e.symm)) (by omega) ?_
     intro h5 hr5 hf5
     simp -implicitDefEqProofs only [KK,eq_self,↓reduceIte,reduceLT,reduceEqDiff,hw,rd_n]
     have hg5:=hg4.own' hf5 ⟨(hg.ner hr).1,(hg.ner hr).2⟩
     have hfn5:Fn h h5:=(hfn.fresh hf4 (fun j hj=>by subst hj;exact hnm)).fresh hf5 (fun j hj=>by subst hj;exact hnr')
     by_cases hme:0≤x.me∧x.me<nn
     ·rw [if_pos hme] at hg5 hr5
      exact ⟨n-1,by omega,i+1,_,_,[],_,_,rfl,by omega,by omega,hg5,hr5,hR.forg hme hn1.2,hfn5,rfl,rfl,rfl,rfl,rfl⟩
     ·rw [if_neg hme] at hg5 hr5
      exact ⟨n-1,by omega,i+1,_,_,[],_,_,rfl,by omega,by omega,hg5,hr5,hR,hfn5,rfl,rfl,rfl,rfl,rfl⟩
    | false=>
     rw [hxf] at a2
     simp -implicitDefEqProofs only [KK,eq_self,↓reduceIte,reduceLT,reduceEqDiff,reduceAdd,e7,e8,e15,e16,e17,hlt,a1,a2,c1,hlx,c2]
     have hx3:=hxl.new hfn
     refine report_ok hg (by omega) hx3 ?_ ?_
     ·intro hmay h4 hg4 hf4
      have hr4:=hr.own hf4 (fun e=>(hg.ner hr).2 e.symm)
      have hx4:=hx3.mono hf4 (hx3.ne hg)
      simp -implicitDefEqProofs only [KK,eq_self,↓reduceIte,reduceLT,reduceEqDiff]
      refine rreport_ok (k:=k+1) hr4 (by omega) hx4 ?_ (fun hn=>absurd hmay hn)
      intro _ h5 hr5 hf5
      simp -implicitDefEqProofs only [KK,eq_self,↓reduceIte,reduceLT,reduceEqDiff,hw,rd_n]
      have hg5:=hg4.own' hf5 ⟨(hg.ner hr).1,(hg.ner hr).2⟩
      have hfn5:Fn h h5:=(hfn.fresh hf4 (fun j hj=>by subst hj;exact hnm)).fresh hf5 (fun j hj=>by subst hj;exact hnr')
      exact ⟨n-1,by omega,i+1,_,_,[],_,_,rfl,by omega,by omega,hg5,hr5,hR.rep hmay,hfn5,rfl,rfl,rfl,rfl,rfl⟩
     ·intro hmay h4 hf4
      simp -implicitDefEqProofs only [KK,eq_self,↓reduceIte,reduceLT,reduceEqDiff]
      refine rreport_ok (k:=k+1) (hr.new hf4) (by omega) (hx3.new hf4) (fun hn=>absurd hn hmay) ?_
      intro _
      simp -implicitDefEqProofs only [KK,eq_self,↓reduceIte,reduceLT,reduceEqDiff,hw,rd_n]
      exact ⟨n-1,by omega,i+1,_,_,[],_,_,rfl,by omega,by omega,hg.new hf4,hr.new hf4,hR,hfn.trans hf4,rfl,rfl,rfl,rfl,rfl⟩
 ·simp -implicitDefEqProofs only [KK,eq_self,↓reduceIte,reduceLT,reduceEqDiff,e7,e8,e15,e16,e17,hlt]
  exact hP _ _ _ _ _ _ _ hg hr hR hn1 hfn
end
end
section
section
variable (q:Int→Int→Option Int) (least:Int) (nn:Nat)
abbrev nr (a:Int):List Int:=nearL q a least nn
def ints:List Int:=(List.range nn).map fun b:Nat=>(b:Int)
def dn:Nat→Int→Option Nat
 | 0,b=>if b=0 then some 0 else none
 | d+1,b=>match dn d b with
  | some r=>some r
  | none=>if (ints nn).any (fun a=>decide (dn d a=some d) && decide (b∈nr q least nn a)) then some (d+1) else none
def lv (d:Nat):List Int:=(ints nn).filter fun b=>decide (dn q least nn d b=some d)
abbrev rk (b:Int):Option Nat:=dn q least nn nn b
def ordL (d:Nat):List Int:=(List.range d).flatMap (lv q least nn)
def below (x y:Option Nat):Bool:=match x,y with
 | some a,some b=>decide (a+1=b)
 | _,_=>false
def cand (f:Int→Option Nat) (n:Int):List Int:=(nr q least nn n).filter fun b=>below (f b) (f n)
end
section
variable {q:Int→Int→Option Int} {least:Int} {nn:Nat}
theorem mem_ints {b:Int}:b∈ints nn↔0≤b∧b<nn:=by
 unfold ints
 rw [List.mem_map]
 constructor
 ·rintro ⟨x,hx,rfl⟩
  have:=List.mem_range.mp hx
  omega
 ·rintro ⟨h1,h2⟩
  exact ⟨b.toNat,List.mem_range.mpr (by omega),by omega⟩
theorem mem_nr {a b:Int}:b∈nr q least nn a↔(0≤b∧b<nn)∧0<qual q a b∧least≤qual q a b:=by
 unfold nr nearL
 rw [List.mem_map]
 constructor
 ·rintro ⟨x,hx,rfl⟩
  rw [List.mem_filter,List.mem_range,decide_eq_true_eq] at hx
  exact ⟨by omega,hx.2⟩
 ·rintro ⟨h1,h2⟩
  refine ⟨b.toNat,?_,by omega⟩
  rw [List.mem_filter,List.mem_range,decide_eq_true_eq,show ((b.toNat:Nat):Int)=b by omega]
  exact ⟨by omega,h2⟩
theorem qual_cm (q:Int→Int→Option Int) (a b:Int):qual q a b=qual q b a:=Int.min_comm _ _
theorem nr_comm {a b:Int} (ha:0≤a∧a<nn) (h:b∈nr q least nn a):a∈nr q least nn b:=by
 rw [mem_nr] at h ⊢
 rw [qual_cm q b a]
 exact ⟨ha,h.2⟩
theorem nr_asc (a:Int):(nr q least nn a).Pairwise (· < ·):=by
 unfold nr nearL
 rw [List.pairwise_map]
 exact (List.Pairwise.filter _ List.pairwise_lt_range).imp fun h=>by omega
theorem dn_succ {d:Nat} {b:Int} {r:Nat}:dn q least nn (d+1) b=some r↔dn q least nn d b=some r∨(dn q least nn d b=none∧r=d+1∧∃ a:Int,(0≤a∧a<nn)∧dn q least nn d a=some d∧b∈nr q least nn a):=by
 have e:((ints nn).any fun a=>decide (dn q least nn d a=some d) && decide (b∈nr q least nn a))=true↔∃ a:Int,(0≤a∧a<nn)∧dn q least nn d a=some d∧b∈nr q least nn a:=by
  rw [List.any_eq_true]
  constructor
  ·rintro ⟨a,h1,h2⟩
   rw [Bool.and_eq_true,decide_eq_true_eq,decide_eq_true_eq] at h2
   exact ⟨a,mem_ints.mp h1,h2⟩
  ·rintro ⟨a,h1,h2⟩
   exact ⟨a,mem_ints.mpr h1,by rw [Bool.and_eq_true,decide_eq_true_eq,decide_eq_true_eq];exact h2⟩
 simp only [dn]
 cases hd:dn q least nn d b with
 | some x=>simp
 | none=>
  simp only [reduceCtorEq,false_or,true_and]
  split
  ·rename_i h
   have:=e.mp h
   constructor
   ·intro h';exact ⟨(Option.some.inj h').symm,this⟩
   ·rintro ⟨rfl,_⟩;rfl
  ·rename_i h
   constructor
   ·intro h';cases h'
   ·rintro ⟨_,h'⟩;exact absurd (e.mpr h') h
theorem dn_keep {d:Nat} {b:Int} {r:Nat} (h:dn q least nn d b=some r):∀ k,dn q least nn (d+k) b=some r
 | 0=>h
 | k+1=>dn_succ.mpr (.inl (dn_keep h k))
theorem dn_zero {b:Int} {r:Nat}:dn q least nn 0 b=some r↔b=0∧r=0:=by
 simp only [dn]
 split
 ·rename_i h
  simp [h,eq_comm]
 ·rename_i h
  simp [h]
theorem dn_le {d:Nat} {b:Int} {r:Nat} (h:dn q least nn d b=some r):r≤d:=by
 induction d with
 | zero=>have:=dn_zero.mp h;omega
 | succ d ih=>
  rcases dn_succ.mp h with h|⟨_,h,_⟩
  ·have:=ih h;omega
  ·omega
theorem dn_range {d:Nat} {b:Int} {r:Nat} (hn:1≤nn) (h:dn q least nn d b=some r):0≤b∧b<nn:=by
 induction d with
 | zero=>have:=dn_zero.mp h;omega
 | succ d ih=>
  rcases dn_succ.mp h with h|⟨_,_,a,_,_,h⟩
  ·exact ih h
  ·exact (mem_nr.mp h).1
theorem dn_at {d:Nat} {b:Int} {r:Nat} (h:dn q least nn d b=some r):dn q least nn r b=some r:=by
 induction d with
 | zero=>have:=dn_zero.mp h;rw [this.2] at h ⊢;exact h
 | succ d ih=>
  rcases dn_succ.mp h with h'|⟨_,h',_⟩
  ·exact ih h'
  ·rw [h'] at h ⊢;exact h
theorem mem_lv (hn:1≤nn) {d:Nat} {b:Int}:b∈lv q least nn d↔dn q least nn d b=some d:=by
 unfold lv
 rw [List.mem_filter,decide_eq_true_eq]
 exact ⟨fun h=>h.2,fun h=>⟨mem_ints.mpr (dn_range hn h),h⟩⟩
theorem ints_asc:(ints nn).Pairwise (· < ·):=by
 unfold ints
 rw [List.pairwise_map]
 exact List.pairwise_lt_range.imp fun h=>by omega
theorem lv_asc (d:Nat):(lv q least nn d).Pairwise (· < ·):=List.Pairwise.filter _ ints_asc
theorem dn_stay (hn:1≤nn) {d:Nat} (h:lv q least nn d=[]):∀ k b,dn q least nn (d+k) b=dn q least nn d b:=by
 intro k
 induction k with
 | zero=>intro b;rfl
 | succ k ih=>
  intro b
  cases hb:dn q least nn d b with
  | some r=>exact dn_keep hb (k+1)
  | none=>
   cases hc:dn q least nn (d+(k+1)) b with
   | none=>rfl
   | some r=>
    rw [←Nat.add_assoc] at hc
    rcases dn_succ.mp hc with h'|⟨_,_,a,ha,h',_⟩
    ·rw [ih,hb] at h';cases h'
    ·rw [ih] at h'
     have h1:=dn_le h'
     have h2:k=0:=by omega
     subst h2
     have:=(mem_lv hn).mpr h'
     rw [h] at this
     cases this
theorem lv_none (hn:1≤nn) {d:Nat} (h:lv q least nn d=[]) (k:Nat):lv q least nn (d+k)=[]:=by
 cases k with
 | zero=>exact h
 | succ k=>
  rw [List.eq_nil_iff_forall_not_mem]
  intro b hb
  have h1:=(mem_lv hn).mp hb
  rw [dn_stay hn h] at h1
  have:=dn_le h1
  omega
theorem filter_two {α:Type} {p r:α→Bool} (h:∀ x,¬(p x=true∧r x=true)):∀ l:List α,(l.filter p).length+(l.filter r).length=(l.filter fun x=>p x || r x).length
 | []=>rfl
 | a::l=>by
  have ih:=filter_two h l
  have ha:=h a
  rw [List.filter_cons,List.filter_cons,List.filter_cons]
  cases hp:p a <;> cases hr:r a
  ·simpa using ih
  ·simp;omega
  ·simp;omega
  ·exact absurd ⟨hp,hr⟩ ha
theorem cnt_le (hn:1≤nn):∀ d,lv q least nn d≠[]→d+1≤((ints nn).filter fun b=>(dn q least nn d b).isSome).length:=by
 intro d
 induction d with
 | zero=>
  intro h
  have:lv q least nn 0=(ints nn).filter fun b=>(dn q least nn 0 b).isSome:=by
   unfold lv
   apply List.filter_congr
   intro b _
   rw [Bool.eq_iff_iff,decide_eq_true_eq,Option.isSome_iff_exists]
   exact ⟨fun h=>⟨0,h⟩,fun ⟨r,h⟩=>by rw [h,(dn_zero.mp h).2]⟩
  rw [←this]
  exact List.length_pos_iff.mpr h
 | succ d ih=>
  intro h
  have h0:lv q least nn d≠[]:=fun e=>h (lv_none hn e 1)
  have h1:=ih h0
  have e:((ints nn).filter fun b=>(dn q least nn (d+1) b).isSome)=(ints nn).filter fun b=>(dn q least nn d b).isSome || decide (dn q least nn (d+1) b=some (d+1)):=by
   apply List.filter_congr
   intro b _
   rw [Bool.eq_iff_iff,Bool.or_eq_true,decide_eq_true_eq,Option.isSome_iff_exists,Option.isSome_iff_exists]
   constructor
   ·rintro ⟨r,hr⟩
    rcases dn_succ.mp hr with h|⟨_,h,_⟩
    ·exact .inl ⟨r,h⟩
    ·right;rw [hr,h]
   ·rintro (⟨r,hr⟩|hr)
    ·exact ⟨r,dn_keep hr 1⟩
    ·exact ⟨_,hr⟩
  rw [e,←filter_two]
  ·have:1≤((ints nn).filter fun b=>decide (dn q least nn (d+1) b=some (d+1))).length:=List.length_pos_iff.mpr h
   omega
  ·rintro b ⟨k1,k2⟩
   rw [Option.isSome_iff_exists] at k1
   obtain ⟨r,hr⟩:=k1
   rw [decide_eq_true_eq,dn_keep hr 1] at k2
   have:=dn_le hr
   have:=Option.some.inj k2
   omega
theorem lv_lt (hn:1≤nn) {d:Nat} (h:lv q least nn d≠[]):d<nn:=by
 have h1:=cnt_le hn d h
 have h2:=List.length_filter_le (fun b=>(dn q least nn d b).isSome) (ints nn)
 have h3:(ints nn).length=nn:=by simp [ints]
 omega
theorem lv_nil (hn:1≤nn) {d:Nat} (h:nn≤d):lv q least nn d=[]:=by
 rcases Classical.em (lv q least nn d=[]) with e|e
 ·exact e
 ·have:=lv_lt hn e;omega
theorem rk_lv (hn:1≤nn) {b:Int} {r:Nat}:rk q least nn b=some r↔b∈lv q least nn r:=by
 rw [mem_lv hn]
 constructor
 ·exact dn_at
 ·intro h
  have h1:lv q least nn r≠[]:=fun e=>by have:=(mem_lv hn).mpr h;rw [e] at this;cases this
  have h2:=lv_lt hn h1
  have:=dn_keep h (nn-r)
  rwa [show r+(nn-r)=nn by omega] at this
theorem rk_stay (hn:1≤nn) {d:Nat} (h:lv q least nn d=[]) (b:Int):dn q least nn d b=rk q least nn b:=by
 rcases Nat.le_total d nn with k|k
 ·have:=dn_stay hn h (nn-d) b
  rw [show d+(nn-d)=nn by omega] at this
  exact this.symm
 ·have:=dn_stay hn (lv_nil (q:=q) (least:=least) hn (Nat.le_refl nn)) (d-nn) b
  rwa [show nn+(d-nn)=d by omega] at this
theorem rk_range (hn:1≤nn) {b:Int} {r:Nat} (h:rk q least nn b=some r):(0≤b∧b<nn)∧r<nn:=by
 refine ⟨dn_range hn h,lv_lt (q:=q) (least:=least) hn fun e=>?_⟩
 have:=(rk_lv hn).mp h
 rw [e] at this
 cases this
theorem rk_root (hn:1≤nn):rk q least nn 0=some 0:=(rk_lv hn).mpr ((mem_lv hn).mpr (dn_zero.mpr ⟨rfl,rfl⟩))
theorem rk_zero (hn:1≤nn) {b:Int} (h:rk q least nn b=some 0):b=0:=(dn_zero.mp ((mem_lv hn).mp ((rk_lv hn).mp h))).1
theorem rk_step (hn:1≤nn) {a b:Int} {r:Nat} (h:rk q least nn a=some r) (hb:b∈nr q least nn a):∃ r',rk q least nn b=some r'∧r'≤r+1:=by
 have hr:=rk_range hn h
 have h1:=(mem_lv hn).mp ((rk_lv hn).mp h)
 cases hd:dn q least nn r b with
 | some x=>
  have:=dn_keep hd (nn-r)
  rw [show r+(nn-r)=nn by omega] at this
  exact ⟨x,this,by have:=dn_le hd;omega⟩
 | none=>
  have h2:dn q least nn (r+1) b=some (r+1):=dn_succ.mpr (.inr ⟨hd,rfl,a,hr.1,h1,hb⟩)
  exact ⟨r+1,(rk_lv hn).mpr ((mem_lv hn).mpr h2),Nat.le_refl _⟩
theorem rk_pred (hn:1≤nn) {b:Int} {r:Nat} (h:rk q least nn b=some (r+1)):∃ a,rk q least nn a=some r∧b∈nr q least nn a:=by
 have h1:=(mem_lv hn).mp ((rk_lv hn).mp h)
 rcases dn_succ.mp h1 with h2|⟨_,_,a,ha,h2,h3⟩
 ·have:=dn_le h2;omega
 ·exact ⟨a,(rk_lv hn).mpr ((mem_lv hn).mpr h2),h3⟩
theorem ordL_succ (d:Nat):ordL q least nn (d+1)=ordL q least nn d++lv q least nn d:=by simp [ordL,List.range_succ]
theorem mem_ordL (hn:1≤nn) {d:Nat} {b:Int}:b∈ordL q least nn d↔∃ r,r<d∧rk q least nn b=some r:=by
 unfold ordL
 rw [List.mem_flatMap]
 exact ⟨fun ⟨r,h1,h2⟩=>⟨r,List.mem_range.mp h1,(rk_lv hn).mpr h2⟩,fun ⟨r,h1,h2⟩=>⟨r,List.mem_range.mpr h1,(rk_lv hn).mp h2⟩⟩
theorem lv_nodup (d:Nat):(lv q least nn d).Nodup:=(lv_asc d).imp fun h=>by omega
theorem ordL_nodup (hn:1≤nn):∀ d,(ordL q least nn d).Nodup
 | 0=>by simp [ordL]
 | d+1=>by
  rw [ordL_succ,List.nodup_append]
  refine ⟨ordL_nodup hn d,lv_nodup d,?_⟩
  intro a ha b hb e
  subst e
  obtain ⟨r,h1,h2⟩:=(mem_ordL hn).mp ha
  rw [(rk_lv hn).mpr hb] at h2
  have:=Option.some.inj h2
  omega
theorem ordL_stay (hn:1≤nn) {d:Nat} (h:lv q least nn d=[]):ordL q least nn d=ordL q least nn nn:=by
 have key:∀ k,ordL q least nn (d+k)=ordL q least nn d:=by
  intro k
  induction k with
  | zero=>rfl
  | succ k ih=>rw [←Nat.add_assoc,ordL_succ,ih,lv_none hn h k,List.append_nil]
 have key2:∀ k,ordL q least nn (nn+k)=ordL q least nn nn:=by
  intro k
  induction k with
  | zero=>rfl
  | succ k ih=>rw [←Nat.add_assoc,ordL_succ,ih,lv_nil hn (by omega),List.append_nil]
 rcases Nat.le_total d nn with k|k
 ·have:=key (nn-d)
  rwa [show d+(nn-d)=nn by omega,eq_comm] at this
 ·have:=key2 (d-nn)
  rwa [show nn+(d-nn)=d by omega] at this
theorem ordL_len (hn:1≤nn) (d:Nat):(ordL q least nn d).length≤nn:=by
 have h3:(ints nn).length=nn:=by simp [ints]
 have hsub:∀ {l m:List Int},l.Nodup→(∀ x∈l,x∈m)→l.length≤m.length:=by
  intro l
  induction l with
  | nil=>intro m _ _;simp
  | cons a l ih=>
   intro m hn hm
   rw [List.nodup_cons] at hn
   have ha:=hm a (by simp)
   have:=ih (m:=m.erase a) hn.2 (fun x hx=>(List.mem_erase_of_ne (fun e=>hn.1 (by rw [←e];exact hx))).mpr (hm x (by simp [hx])))
   rw [List.length_erase_of_mem ha] at this
   have:=List.length_pos_of_mem ha
   rw [List.length_cons]
   omega
 refine Nat.le_trans (hsub (m:=ints nn) (ordL_nodup hn d) fun x hx=>?_) (Nat.le_of_eq h3)
 ·obtain ⟨r,_,h⟩:=(mem_ordL hn).mp hx
  exact mem_ints.mpr (rk_range hn h).1
theorem asc_eq:∀ {L M:List Int},L.Pairwise (· < ·)→M.Pairwise (· < ·)→(∀ x,x∈L↔x∈M)→L=M
 | [],[],_,_,_=>rfl
 | [],y::M,_,_,h=>by have:=(h y).mpr (by simp);cases this
 | x::L,[],_,_,h=>by have:=(h x).mp (by simp);cases this
 | x::L,y::M,hL,hM,h=>by
  rw [List.pairwise_cons] at hL hM
  have hxy:x=y:=by
   have h1:=(h x).mp (by simp)
   have h2:=(h y).mpr (by simp)
   rcases List.mem_cons.mp h1 with h1|h1
   ·exact h1
   rcases List.mem_cons.mp h2 with h2|h2
   ·exact h2.symm
   have:=hL.1 y h2
   have:=hM.1 x h1
   omega
  subst hxy
  congr 1
  refine asc_eq hL.2 hM.2 fun z=>?_
  have h1:=h z
  simp only [List.mem_cons] at h1
  constructor
  ·intro hz
   rcases h1.mp (.inr hz) with e|e
   ·subst e;have:=hL.1 z hz;omega
   ·exact e
  ·intro hz
   rcases h1.mpr (.inr hz) with e|e
   ·subst e;have:=hM.1 z hz;omega
   ·exact e
theorem asc_of {T:List Int} (h1:T.Pairwise fun x y=>¬y<x) (h2:T.Nodup):T.Pairwise (· < ·):=by
 induction T with
 | nil=>exact List.Pairwise.nil
 | cons x T ih=>
  rw [List.pairwise_cons] at h1 ⊢
  rw [List.nodup_cons] at h2
  exact ⟨fun y hy=>by have:=h1.1 y hy;have:x≠y:=fun e=>h2.1 (by rw [e];exact hy);omega,ih h1.2 h2.2⟩
theorem mem_cand {f:Int→Option Nat} {n b:Int}:b∈cand q least nn f n↔b∈nr q least nn n∧∃ r,f b=some r∧f n=some (r+1):=by
 unfold cand
 rw [List.mem_filter]
 constructor
 ·rintro ⟨h1,h2⟩
  refine ⟨h1,?_⟩
  unfold below at h2
  split at h2
  ·rename_i x y e1 e2
   have:=of_decide_eq_true h2
   exact ⟨x,e1,by rw [e2,←this]⟩
  ·cases h2
 ·rintro ⟨h1,r,h2,h3⟩
  refine ⟨h1,?_⟩
  rw [h2,h3]
  simp [below]
theorem cand_some (hn:1≤nn) {n:Int} {r:Nat} (h:rk q least nn n=some (r+1)):cand q least nn (rk q least nn) n≠[]:=by
 obtain ⟨a,h1,h2⟩:=rk_pred hn h
 have:=mem_cand.mpr ⟨nr_comm (rk_range hn h1).1 h2,r,h1,h⟩
 intro e
 rw [e] at this
 cases this
end
end
end Camp
