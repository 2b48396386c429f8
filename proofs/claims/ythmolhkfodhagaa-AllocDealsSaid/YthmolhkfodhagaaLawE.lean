/- Dealing: put, link. Dealing: link. Dealing: who gets what; the loop over all that are in the tree. Cells by node: a map of slices that grow. Dealing: cells by node, each node's in order. Dealing: plain: what is dealt may be; with as many slots as links all get theirs; in one slot nobody does. Cells in order: plain. The answer's cells: may, ends, clash; few. The reference's tree: what reads it. The reference's tree: how it is made. The reference's tree is made. The reference's Less and Sorted. -/
import Derived.Test.YthmolhkfodhagaaLawC
import Derived.Test.YthmolhkfodhagaaUseB
import Derived.Test.YthmolhkfodhagaaLawD
import Derived.Test.YthmolhkfodhagaaUseA
set_option linter.unnecessarySimpa false
set_option linter.unusedVariables false
set_option linter.unusedSimpArgs false
set_option linter.unusedSectionVars false
namespace Camp
open Go
open Nat (reduceLT reduceEqDiff reduceAdd reduceLeDiff reduceSub reduceMul)
section
set_option maxHeartbeats 4000000
def cntN (L:List Hd) (i:Nat):Nat:=(L.filter fun x=>decide (x.n=(i:Int))).length
theorem cntN_snoc (L:List Hd) (x:Hd) (i:Nat):cntN (L++[x]) i=cntN L i+if x.n=(i:Int) then 1 else 0:=by
 unfold cntN
 rw [List.filter_append,List.length_append]
 by_cases h:x.n=(i:Int)
 ·rw [if_pos h,List.filter_cons_of_pos (by simpa using h)];rfl
 ·rw [if_neg h,List.filter_cons_of_neg (by simpa using h)];rfl
theorem cntN_le (L:List Hd) (i:Nat):cntN L i≤L.length:=List.length_filter_le _ _
def cntC (L:List Hd):List CV:=(List.range 16).map fun i=>.int .i64 ((cntN L i:Nat):Int)
def rowD (fr len ch:Int) (v:CV) (L:List Hd):List CV:=.int .i64 fr::.int .i64 len::.int .i64 ch::v::cntC L
theorem cntC_len (L:List Hd):(cntC L).length=16:=by simp [cntC]
theorem cntC_get (L:List Hd) {x:Nat} (hx:x<16):(cntC L)[x]? = some (.int .i64 ((cntN L x:Nat):Int)):=by
 simp [cntC,hx]
theorem rowD_get (fr len ch:Int) (v:CV) (L:List Hd) {x:Nat} (hx:x<16):(rowD fr len ch v L)[4+x]? = some (.int .i64 ((cntN L x:Nat):Int)):=by
 rw [Nat.add_comm,←cntC_get L hx]
 rfl
theorem cntC_put (L:List Hd) {x:Nat} (hx:x<16) (c:Cel):(cntC L).take x++[CV.int .i64 ((cntN L x:Nat)+1:Int)]++(cntC L).drop (x+1)=cntC (L++[⟨(x:Int),c⟩]):=by
 apply List.ext_getElem?
 intro i
 by_cases hi:i<16
 ·rw [cntC_get _ hi,cntN_snoc]
  rcases Nat.lt_trichotomy i x with h|h|h
  ·rw [List.append_assoc,List.getElem?_append_left (by rw [List.length_take,cntC_len];omega),List.getElem?_take,if_pos h,cntC_get _ hi,if_neg (show ¬(x:Int)=(i:Int) by omega)]
   rfl
  ·subst h
   rw [List.append_assoc,List.getElem?_append_right (by rw [List.length_take,cntC_len];omega),List.length_take,cntC_len,Nat.min_eq_left (by omega),Nat.sub_self,if_pos rfl]
   simp
  ·rw [List.getElem?_append_right (by rw [List.length_append,List.length_take,cntC_len];simp;omega),List.length_append,List.length_take,cntC_len,List.length_singleton,List.getElem?_drop,if_neg (show ¬(x:Int)=(i:Int) by omega)]
   rw [show x+1+(i-(min x 16+1))=i by omega,cntC_get _ hi]
   rfl
 ·rw [List.getElem?_eq_none (by simp [cntC_len];omega),List.getElem?_eq_none (by rw [cntC_len];omega)]
structure Dl (new:Bool) (h:Hp) (d:Nat) (fr len ch:Int) (v:CV) (L:List Hd):Prop where
 row:h.g d=some (.rows true 20 0 0 [rowD fr len ch v L])
 g:Gw new h 6 v (L.map encH)
 id:∀ j,ownId v j→j≠d
theorem Dl.old {new:Bool} {h:Hp} {d:Nat} {fr len ch:Int} {v:CV} {L:List Hd} (k:Dl new h d fr len ch v L):Dl false h d fr len ch v L:=⟨k.row,k.g.old,k.id⟩
theorem Dl.fresh {new:Bool} {h h':Hp} {d:Nat} {fr len ch:Int} {v:CV} {L:List Hd} (k:Dl new h d fr len ch v L) (f:Fn h h'):Dl new h' d fr len ch v L:=⟨f.some k.row (fun e=>e),k.g.mono f (fun _ _ e=>e),k.id⟩
section
variable {k:Nat} {h:Hp} {P:AV→Hp→Prop} {new:Bool} {d:Nat} {fr len ch:Int} {v:CV} {L:List Hd}
theorem dput_ok {n:Nat} {c:Cel} (hD:Dl new h d fr len ch v L) (hn:n<16) (hL:L.length≤1000000)
 (hP:∀ v' h',Dl true h' d fr len ch v' (L++[⟨(n:Int),c⟩])→Gw false h' 6 v (L.map encH)→(new=true→∀ b u R,Gw b h 6 u R→(∀ j,ownId u j→j≠d)→R.length≤L.length→Gw false h' 6 u R)→Fm (fun j=>j=d∨ownId v j) h h'→(∀ j,ownId v' j→ownId v j∨h.n≤j)→P (.tup []) h') :
 callW N (k+1) 255 [.c (.ptr d 0 0 0),.c (.int .i64 n),.agg (encE c)] h P:=by
 have he:encE c=[.int .i64 c.f,.int .i64 c.s,.int .i64 c.c,.int .i64 c.o,.int .i64 c.p]:=rfl
 have hd:=hD.row
 have hdn:=lt_of_g hd
 obtain ⟨h1,hh1⟩:∃ h1,h1=h.reserve 1:=⟨_,rfl⟩
 have f1:Fn h h1:=by rw [hh1];exact Fm.reserve _ _ _
 have d1:h1.g h.n=some .dead:=by rw [hh1,g_reserve,if_pos (by omega)]
 obtain ⟨h2,hh2⟩:∃ h2,h2=h1.put h.n (.rows true 6 0 0 [[.int .i64 n,.int .i64 c.f,.int .i64 c.s,.int .i64 c.c,.int .i64 c.o,.int .i64 c.p]]):=⟨_,rfl⟩
 have f2:Fn h h2:=by rw [hh2];exact f1.putNew _ (Nat.le_refl _)
 have hx:sliceRows h2 [[CV.int .i64 c.f,.int .i64 c.s,.int .i64 c.c,.int .i64 c.o,.int .i64 c.p]] 6 (.v (.c (.sl h.n 0 0 1 (some 1))))=some [[.int .i64 n,.int .i64 c.f,.int .i64 c.s,.int .i64 c.c,.int .i64 c.o,.int .i64 c.p]]:=by
  have:h2.g h.n=some (.rows true 6 0 0 [[.int .i64 n,.int .i64 c.f,.int .i64 c.s,.int .i64 c.c,.int .i64 c.o,.int .i64 c.p]]):=by rw [hh2,g_put_eq,d1];rfl
  simp [sliceRows,g_def,this]
 obtain ⟨v',h3,a1,a2,a3,a4,a5,a6⟩:=(hD.g.mono f2 (fun _ _ e=>e)).app hx (by simp) (bytes:=48) (by rw [List.length_map];simp only [room,List.length_singleton];omega)
 have hd1:=f1.some hd (fun e=>e)
 have hd2:=f2.some hd (fun e=>e)
 have hd3:=a5.some hd2 (fun e=>hD.id _ e rfl)
 have r1:(rowD fr len ch v L)[3]? = some v:=rfl
 have hf1:=hh1.symm
 have hf2:=hh2.symm
 obtain ⟨h4,hh4⟩:∃ h4,h4=h3.put d (.rows true 20 0 0 [rowD fr len ch v' L]):=⟨_,rfl⟩
 have s1:(rowD fr len ch v L).take 3++v'::(rowD fr len ch v L).drop 4=rowD fr len ch v' L:=rfl
 have s2:(rowD fr len ch v L).length=20:=by simp [rowD,cntC_len]
 have hf4:=hh4.symm
 have g4:h4.g d=some (.rows true 20 0 0 [rowD fr len ch v' L]):=by rw [hh4,g_put_eq,hd3];rfl
 have ia:iaddrAV 16 1 (.v (.c (.ptr d 0 0 4))) n=some (.v (.c (.ptr d 0 0 (4+n)))):=by
  unfold iaddrAV
  rw [if_pos (by omega)]
  simp
 have r2:=rowD_get fr len ch v' L hn
 have w1:=wrap_i64 (n:=((cntN L n:Nat):Int)+1) (by have:=cntN_le L n;omega)
 have s3:(rowD fr len ch v' L).take (4+n)++.int .i64 ((cntN L n:Nat)+1:Int)::(rowD fr len ch v' L).drop (4+n+1)=rowD fr len ch v' (L++[⟨(n:Int),c⟩]):=by
  have e1:(rowD fr len ch v' L).take (4+n)=[.int .i64 fr,.int .i64 len,.int .i64 ch,v']++(cntC L).take n:=by
   rw [Nat.add_comm];rfl
  have e2:(rowD fr len ch v' L).drop (4+n+1)=(cntC L).drop (n+1):=by
   rw [show 4+n+1=(n+1)+4 by omega];rfl
  rw [e1,e2]
  have:=cntC_put L hn c
  rw [List.append_assoc] at this
  rw [List.append_assoc]
  show _++(_++_)=[CV.int .i64 fr,.int .i64 len,.int .i64 ch,v']++cntC (L++[⟨(n:Int),c⟩])
  rw [←this]
  rfl
 have s4:(rowD fr len ch v' L).length=20:=by simp [rowD,cntC_len]
 have s5:4+n+1≤20:=by omega
 refine call_intro rfl (by simp only [List.length_cons,List.length_nil];omega) ?_
 generalize hR:rowD fr len ch v L=R at *
 generalize hR2:rowD fr len ch v' L=R2 at *
 simp -implicitDefEqProofs only [KK,eq_self,↓reduceIte,reduceLT,reduceEqDiff,reduceAdd,reduceLeDiff,reduceCtorEq,he,hf1,d1,hd1,hf2,a1,hd3,r1,s1,s2,hf4,g4,ia,r2,w1,s3,s4,s5]
 subst hR hR2
 have hne:∀ j,ownId v' j→j≠d:=fun j hj e=>(a6 j hj).elim (fun e'=>hD.id _ e' e) (fun e'=>by have:=f2.n;omega)
 have f34:Fm (fun j=>j=d) h3 (h4.put d (.rows true 20 0 0 [rowD fr len ch v' (L++[⟨(n:Int),c⟩])])):=by
  rw [hh4];exact (Fm.put (S:=fun j=>j=d) _ _ rfl).trans (Fm.put _ _ rfl)
 refine hP v' _ ⟨?_,?_,hne⟩ (a3.mono f34 hD.id) (fun hn b u R hu hj hR=>?_) ?_ (fun j hj=>(a6 j hj).imp (fun e=>e) (fun e=>by have:=f2.n;omega))
 ·rw [g_put_eq,g4];rfl
 ·rw [List.map_append]
  exact a2.mono f34 hne
 ·exact (a4 hn b u R (hu.mono f2 (fun _ _ e=>e)) (by rw [List.length_map];exact hR)).mono f34 hj
 ·exact ((f2.mono (fun _ _ e=>e.elim)).trans (a5.mono (fun j _ e=>.inr e))).trans (f34.mono (fun j _ e=>.inl e))
end
end
section
set_option maxHeartbeats 4000000
def freeD (fr:Int) (L:List Hd) (a b:Int) (o:Int) (s c:Nat):Prop:=¬hitP L a ⟨fr,s,c,1,b⟩∧¬hitP L b ⟨fr,s,c,o,a⟩
def twoD (fr:Int) (a b:Int) (o:Int) (s c:Nat):List Hd:=[⟨a,⟨fr,s,c,1,b⟩⟩,⟨b,⟨fr,s,c,o,a⟩⟩]
section
variable {k:Nat} {h:Hp} {P:AV→Hp→Prop} {new:Bool} {d:Nat} {fr:Int} {v:CV} {L:List Hd}
def LkL (d a b:Nat) (op:Int) (ln j:Nat) (l:List (Nat × TV)):Prop:=
 lk l 0 = .v (.c (.ptr d 0 0 0))∧lk l 1 = .v (.c (.int .i64 a))∧lk l 2 = .v (.c (.int .i64 b))∧lk l 3 = .v (.c (.int .i64 op))∧lk l 32 = .v (.c (.int .i64 ln))∧lk l 33 = .v (.c (.int .i64 j))
def LkA (h:Hp) (d a b:Nat) (op fr o:Int) (L:List Hd) (ln cn:Nat) (n:Nat) (s:St):Prop:=
 ∃ (j:Nat) (h':Hp) (l:List (Nat × TV)) (lc:List (List CV)),s=ST 89 l lc h'∧j≤ln∧n=ln-j∧Fn h h'∧(∀ s c,s<j→c<cn→¬freeD fr L a b o s c)∧LkL d a b op ln j l
def LkB (h:Hp) (d a b:Nat) (op fr o:Int) (L:List Hd) (ln cn j:Nat) (n:Nat) (s:St):Prop:=
 ∃ (i:Nat) (h':Hp) (l:List (Nat × TV)) (lc:List (List CV)),s=ST 89 l lc h'∧i≤cn∧n=cn-i∧Fn h h'∧(∀ c,c<i→¬freeD fr L a b o j c)∧LkL d a b op ln j l∧
  lk l 9 = .v (.c (.int .i64 j))∧lk l 39 = .v (.c (.int .i64 cn))∧lk l 40 = .v (.c (.int .i64 i))
theorem dlink_ok {a b ln cn:Nat} {op o:Int} (ho:IntKind.wrap .i64 (BitVec.ofInt IntKind.i64.bits 2 ||| BitVec.ofInt IntKind.i64.bits op).toNat=o) (hD:Dl new h d fr ln cn v L) (ha:a<16) (hb:b<16)
 (hln:ln≤1000) (hcn:cn≤16) (hL:L.length≤100000)
 (hP0:∀ h',Fn h h'→(64≤cntN L a∨64≤cntN L b∨∀ s c,s<ln→c<cn→¬freeD fr L a b o s c)→P (.c (.bool false)) h')
 (hP1:∀ h' v' s c,s<ln→c<cn→cntN L a<64→cntN L b<64→freeD fr L a b o s c→(∀ s' c',c'<cn→s'<s∨s'=s∧c'<c→¬freeD fr L a b o s' c')→
  Dl true h' d fr ln cn v' (L++twoD fr a b o s c)→Gw false h' 6 v (L.map encH)→Fm (fun j=>j=d∨ownId v j) h h'→(∀ j,ownId v' j→ownId v j∨h.n≤j)→P (.c (.bool true)) h') :
 callW N (k+8) 253 [.c (.ptr d 0 0 0),.c (.int .i64 a),.c (.int .i64 b),.c (.int .i64 op)] h P:=by
 have hd:=hD.row
 have ia:iaddrAV 16 1 (.v (.c (.ptr d 0 0 4))) a=some (.v (.c (.ptr d 0 0 (4+a)))):=by
  unfold iaddrAV
  rw [if_pos (by omega)]
  simp
 have ib:iaddrAV 16 1 (.v (.c (.ptr d 0 0 4))) b=some (.v (.c (.ptr d 0 0 (4+b)))):=by
  unfold iaddrAV
  rw [if_pos (by omega)]
  simp
 have ra:=rowD_get fr ln cn v L ha
 have rb:=rowD_get fr ln cn v L hb
 have r0:(rowD fr ln cn v L)[0]? = some (.int .i64 fr):=rfl
 have r1:(rowD fr ln cn v L)[1]? = some (.int .i64 ln):=rfl
 have r2:(rowD fr ln cn v L)[2]? = some (.int .i64 cn):=rfl
 have r3:(rowD fr ln cn v L)[3]? = some v:=rfl
 generalize hR:rowD fr ln cn v L=R at *
 refine call_intro rfl (by simp only [List.length_cons,List.length_nil];omega) ?_
 by_cases ca:(64:Int)≤((cntN L a:Nat):Int)
 ·simp -implicitDefEqProofs only [KK,eq_self,↓reduceIte,reduceLT,reduceEqDiff,reduceAdd,reduceCtorEq,hd,ia,ra,ca]
  exact hP0 _ (Fm.refl _ _) (.inl (by omega))
 by_cases cb:(64:Int)≤((cntN L b:Nat):Int)
 ·simp -implicitDefEqProofs only [KK,eq_self,↓reduceIte,reduceLT,reduceEqDiff,reduceAdd,reduceCtorEq,hd,ia,ib,ra,rb,ca,cb]
  exact hP0 _ (Fm.refl _ _) (.inr (.inl (by omega)))
 simp -implicitDefEqProofs only [KK,eq_self,↓reduceIte,reduceLT,reduceEqDiff,reduceAdd,reduceCtorEq,hd,ia,ib,ra,rb,ca,cb,r1]
 refine loop_rd (callW_mono N _) (LkA h d a b op fr o L ln cn) (n:=ln) ⟨0,h,_,_,rfl,by omega,by omega,Fm.refl _ _,fun s c hs=>by omega,rfl,rfl,rfl,rfl,rfl,rfl⟩ ?_
 rintro n s ⟨j,h1,l,lc,rfl,hj,hn,f1,hno,e0,e1,e2,e3,e32,e33⟩
 have hd1:=f1.some hd (fun e=>e)
 by_cases hlt:(j:Int)<ln
 ·simp -implicitDefEqProofs only [KK,eq_self,↓reduceIte,reduceLT,reduceEqDiff,reduceCtorEq,e0,e1,e2,e3,e32,e33,hlt,hd1,r2]
  refine loop_rd (callW_mono N _) (LkB h d a b op fr o L ln cn j) (n:=cn) ⟨0,h1,_,_,rfl,by omega,by omega,f1,fun c hs=>by omega,⟨rfl,rfl,rfl,rfl,rfl,rfl⟩,rfl,rfl,rfl⟩ ?_
  clear e0 e1 e2 e3 e32 e33 hd1
  rintro n2 s ⟨i,h2,l,lc,rfl,hi,hn2,f2,hno2,⟨e0,e1,e2,e3,e32,e33⟩,e9,e39,e40⟩
  have hd2:=f2.some hd (fun e=>e)
  have hw:=wrap_i64 (n:=(i:Int)+1) (by omega)
  have hw2:=wrap_i64 (n:=(j:Int)+1) (by omega)
  by_cases hlt2:(i:Int)<cn
  ·simp -implicitDefEqProofs only [KK,eq_self,↓reduceIte,reduceLT,reduceEqDiff,reduceAdd,reduceLeDiff,reduceCtorEq,e0,e1,e2,e3,e32,e33,e9,e39,e40,hlt2,hd2,r0,r3,ho]
   refine clashes_ok (k:=k) (c:=⟨fr,j,i,1,b⟩) (hD.fresh f2).g.sv (by omega) fun h3 f3=>?_
   have f3:=f2.trans f3
   have hd3:=f3.some hd (fun e=>e)
   have no:¬freeD fr L a b o j i→∀ c,c<i+1→¬freeD fr L a b o j c:=by
    intro hnf c hc
    rcases Nat.lt_or_ge c i with h|h
    ·exact hno2 c h
    ·rw [show c=i by omega];exact hnf
   by_cases c1:hitP L a ⟨fr,j,i,1,b⟩
   ·simp -implicitDefEqProofs only [KK,eq_self,↓reduceIte,reduceLT,reduceEqDiff,reduceAdd,reduceCtorEq,c1,hw,rd_n]
    exact ⟨n2-1,by omega,i+1,h3,_,_,rfl,by omega,by omega,f3,no (fun h=>h.1 c1),⟨rfl,rfl,rfl,rfl,rfl,rfl⟩,rfl,rfl,rfl⟩
   ·simp -implicitDefEqProofs only [KK,eq_self,↓reduceIte,reduceLT,reduceEqDiff,reduceAdd,reduceCtorEq,c1,hd3,r3]
    refine clashes_ok (k:=k) (c:=⟨fr,j,i,o,a⟩) (hD.fresh f3).g.sv (by omega) fun h4 f4=>?_
    have f4:=f3.trans f4
    have hD4:=hD.fresh f4
    by_cases c2:hitP L b ⟨fr,j,i,o,a⟩
    ·simp -implicitDefEqProofs only [KK,eq_self,↓reduceIte,reduceLT,reduceEqDiff,reduceAdd,reduceCtorEq,c2,hw,rd_n]
     exact ⟨n2-1,by omega,i+1,h4,_,_,rfl,by omega,by omega,f4,no (fun h=>h.2 c2),⟨rfl,rfl,rfl,rfl,rfl,rfl⟩,rfl,rfl,rfl⟩
    ·simp -implicitDefEqProofs only [KK,eq_self,↓reduceIte,reduceLT,reduceEqDiff,reduceAdd,reduceCtorEq,c2]
     subst hR
     refine dput_ok (k:=k+6) (c:=⟨fr,j,i,1,b⟩) hD4 ha (by omega) fun v1 h5 hD5 k5 _ f5 q5=>?_
     simp -implicitDefEqProofs only [KK,eq_self,↓reduceIte,reduceLT,reduceEqDiff,reduceAdd,reduceCtorEq]
     refine dput_ok (k:=k+6) (c:=⟨fr,j,i,o,a⟩) hD5 hb (by rw [List.length_append];simp;omega) fun v2 h6 hD6 _ k6 f6 q6=>?_
     simp -implicitDefEqProofs only [KK,eq_self,↓reduceIte,reduceLT,reduceAdd]
     refine hP1 h6 v2 j i (by omega) (by omega) (by omega) (by omega) ⟨c1,c2⟩ (fun s' c' hc' hs=>?_) ?_ (k6 rfl _ _ _ k5 hD4.id (by rw [List.length_map,List.length_append];omega)) ((f4.mono (fun _ _ e=>e.elim)).trans (f5.comp f6 (fun j hj e=>e.imp (fun e=>e) (fun e=>(q5 j e).elim (fun e=>e) (fun e=>by omega))))) (fun j hj=>(q6 j hj).elim (fun e=>(q5 j e).imp (fun e=>e) (fun e=>by have:=f4.n;omega)) (fun e=>.inr (by have:=f4.n;have:=f5.n;omega)))
     ·rcases hs with hs|⟨rfl,hs⟩
      ·exact hno s' c' hs hc'
      ·exact hno2 c' hs
     ·unfold twoD
      rw [List.append_assoc] at hD6
      exact hD6
  ·simp -implicitDefEqProofs only [KK,eq_self,↓reduceIte,reduceLT,reduceEqDiff,reduceCtorEq,e0,e1,e2,e3,e32,e33,e9,e39,e40,hlt2,hw2,rd_n]
   exact ⟨n-1,by omega,j+1,h2,_,_,rfl,by omega,by omega,f2,fun s c hs hc=>by
    rcases Nat.lt_or_ge s j with h|h
    ·exact hno s c h hc
    ·rw [show s=j by omega];exact hno2 c (by omega),rfl,rfl,rfl,rfl,rfl,rfl⟩
 ·simp -implicitDefEqProofs only [KK,eq_self,↓reduceIte,reduceLT,reduceEqDiff,reduceCtorEq,e0,e1,e2,e3,e32,e33,hlt]
  exact hP0 _ f1 (.inr (.inr fun s c hs hc=>hno s c (by omega) hc))
end
def plcs (ln cn:Nat):List (Nat × Nat):=(List.range ln).flatMap fun s=>(List.range cn).map fun c=>(s,c)
theorem range_cut {n s:Nat} (h:s<n):∃ R,List.range n=List.range s++s::R:=by
 obtain ⟨m,rfl⟩:∃ m,n=s+(m+1):=⟨n-s-1,by omega⟩
 refine ⟨((List.range m).map Nat.succ).map (s+·),?_⟩
 rw [List.range_add,List.range_succ_eq_map,List.map_cons,Nat.add_zero]
theorem plcs_cut {ln cn s c:Nat} (hs:s<ln) (hc:c<cn):∃ R,plcs ln cn=((plcs s cn)++(List.range c).map fun c=>(s,c))++(s,c)::R:=by
 obtain ⟨R1,h1⟩:=range_cut hs
 obtain ⟨R2,h2⟩:=range_cut hc
 refine ⟨R2.map (fun c=>(s,c))++R1.flatMap fun s=>(List.range cn).map fun c=>(s,c),?_⟩
 unfold plcs
 rw [h1,List.flatMap_append,List.flatMap_cons]
 conv=>lhs;rhs;lhs;rw [h2]
 simp
theorem mem_plcs {ln cn:Nat} {x:Nat × Nat}:x∈plcs ln cn↔x.1<ln∧x.2<cn:=by
 obtain ⟨s,c⟩:=x
 simp [plcs]
open Classical in
noncomputable def place (fr:Int) (L:List Hd) (a b:Nat) (o:Int) (ln cn:Nat):Option (Nat × Nat):=
 if 64≤cntN L a∨64≤cntN L b then none else (plcs ln cn).find? fun x=>decide (freeD fr L a b o x.1 x.2)
theorem place_none {fr:Int} {L:List Hd} {a b:Nat} {o:Int} {ln cn:Nat} (h:64≤cntN L a∨64≤cntN L b∨∀ s c,s<ln→c<cn→¬freeD fr L a b o s c):place fr L a b o ln cn=none:=by
 unfold place
 split
 ·rfl
 ·rename_i hn
  rw [List.find?_eq_none]
  intro x hx
  have:=mem_plcs.mp hx
  rcases h with h|h|h
  ·exact absurd (.inl h) hn
  ·exact absurd (.inr h) hn
  ·simpa using h _ _ this.1 this.2
theorem place_some {fr:Int} {L:List Hd} {a b:Nat} {o:Int} {ln cn s c:Nat} (hs:s<ln) (hc:c<cn) (ha:cntN L a<64) (hb:cntN L b<64) (hf:freeD fr L a b o s c) (hm:∀ s' c',c'<cn→s'<s∨s'=s∧c'<c→¬freeD fr L a b o s' c'):place fr L a b o ln cn=some (s,c):=by
 unfold place
 rw [if_neg (by omega),List.find?_eq_some_iff_append]
 obtain ⟨R,hR⟩:=plcs_cut hs hc
 refine ⟨by simpa using hf,_,R,hR,fun x hx=>?_⟩
 have:¬freeD fr L a b o x.1 x.2:=by
  rcases List.mem_append.mp hx with hx|hx
  ·have:=mem_plcs.mp hx
   exact hm _ _ this.2 (.inl this.1)
  ·obtain ⟨c',hc',rfl⟩:=List.mem_map.mp hx
   rw [List.mem_range] at hc'
   exact hm _ _ (by omega) (.inr ⟨rfl,hc'⟩)
 simpa using this
theorem Fm.trans' {S T:Nat→Prop} {a b c:Hp} (h:Fm S a b) (k:Fm T b c):Fm (fun j=>S j∨T j) a c:=(h.mono fun _ _ e=>.inl e).trans (k.mono fun _ _ e=>.inr e)
noncomputable def bothF (fr:Int) (L:List Hd) (n p ln cn:Nat):Option (List Hd):=
 (place fr L n p 2 ln cn).bind fun x=>(place fr (L++twoD fr n p 2 x.1 x.2) p n 10 ln cn).map fun y=>(L++twoD fr n p 2 x.1 x.2)++twoD fr p n 10 y.1 y.2
section
variable {k:Nat} {h:Hp} {P:AV→Hp→Prop} {new:Bool} {d:Nat} {fr:Int} {v:CV} {L:List Hd}
theorem both_ok {a b ln cn:Nat} (hD:Dl new h d fr ln cn v L) (ha:a<16) (hb:b<16) (hln:ln≤1000) (hcn:cn≤16) (hL:L.length≤90000)
 (hP0:∀ h',bothF fr L a b ln cn=none→Dl false h' d fr ln cn v L→Fm (fun j=>j=d∨ownId v j) h h'→P (.c (.bool false)) h')
 (hP1:∀ h' v' L',bothF fr L a b ln cn=some L'→Dl false h' d fr ln cn v' L'→Fm (fun j=>j=d∨ownId v j) h h'→(∀ j,ownId v' j→ownId v j∨h.n≤j)→P (.c (.bool true)) h') :
 callW N (k+9) 250 [.c (.ptr d 0 0 0),.c (.int .i64 a),.c (.int .i64 b)] h P:=by
 have hd:=hD.row
 have s4:(rowD fr ln cn v L).length=20:=by simp [rowD,cntC_len]
 have s5:(rowD fr ln cn v L).take 20=rowD fr ln cn v L:=List.take_of_length_le (by omega)
 have s6:(rowD fr ln cn v L).drop 20=[]:=List.drop_of_length_le (by omega)
 refine call_intro rfl (by simp only [List.length_cons,List.length_nil];omega) ?_
 generalize hR:rowD fr ln cn v L=R at *
 simp -implicitDefEqProofs only [KK,eq_self,↓reduceIte,reduceLT,reduceEqDiff,reduceAdd,reduceCtorEq,hd,s4,s5]
 refine dlink_ok (k:=k) (o:=2) (by decide) hD ha hb hln hcn (by omega) (fun h1 f1 hno=>?_) fun h1 v1 s c hs hc ca cb hfr hmin hD1 k1 f1 q1=>?_
 ·have hb1:bothF fr L a b ln cn=none:=by unfold bothF;rw [place_none hno];rfl
  have hd1:=f1.some hd (fun e=>e)
  simp -implicitDefEqProofs only [KK,eq_self,↓reduceIte,reduceLT,reduceEqDiff,reduceCtorEq,hd1,s4,s5,s6]
  refine hP0 _ hb1 ⟨by rw [g_put_eq,hd1,hR];rfl,hD.g.old.mono (f1.trans' (Fm.put (S:=fun j=>j=d) _ _ rfl)) (fun j hj e=>e.elim (fun e=>e) (hD.id j hj)),hD.id⟩ ((f1.mono (fun _ _ e=>e.elim)).trans (Fm.put _ _ (.inl rfl)))
 ·have p1:=place_some hs hc ca cb hfr hmin
  simp -implicitDefEqProofs only [KK,eq_self,↓reduceIte,reduceLT,reduceEqDiff,reduceCtorEq]
  refine dlink_ok (k:=k) (o:=10) (by decide) hD1 hb ha hln hcn (by rw [List.length_append];simp [twoD];omega) (fun h2 f2 hno=>?_) fun h2 v2 s2 c2 hs2 hc2 ca2 cb2 hfr2 hmin2 hD2 k2 f2 q2=>?_
  ·have hb1:bothF fr L a b ln cn=none:=by unfold bothF;rw [p1,Option.bind_some,place_none hno];rfl
   have hd2:=f2.some hD1.row (fun e=>e)
   have s7:(rowD fr ln cn v1 (L++twoD fr a b 2 s c)).length=20:=by simp [rowD,cntC_len]
   have s8:(rowD fr ln cn v1 (L++twoD fr a b 2 s c)).drop 20=[]:=List.drop_of_length_le (by omega)
   generalize rowD fr ln cn v1 (L++twoD fr a b 2 s c)=R2 at *
   simp -implicitDefEqProofs only [KK,eq_self,↓reduceIte,reduceLT,reduceEqDiff,reduceCtorEq,hd2,s4,s5,s7,s8]
   refine hP0 _ hb1 ⟨by rw [g_put_eq,hd2,hR];rfl,k1.mono (f2.trans' (Fm.put (S:=fun j=>j=d) _ _ rfl)) (fun j hj e=>e.elim (fun e=>e) (hD.id j hj)),hD.id⟩ ((f1.trans (f2.mono (fun _ _ e=>e.elim))).trans (Fm.put _ _ (.inl rfl)))
  ·have p2:=place_some hs2 hc2 ca2 cb2 hfr2 hmin2
   have hb1:bothF fr L a b ln cn=some ((L++twoD fr a b 2 s c)++twoD fr b a 10 s2 c2):=by unfold bothF;rw [p1,Option.bind_some,p2];rfl
   simp -implicitDefEqProofs only [KK,eq_self,↓reduceIte,reduceLT,reduceEqDiff,reduceCtorEq]
   exact hP1 h2 v2 _ hb1 hD2.old (f1.comp f2 (fun j hj e=>e.imp (fun e=>e) (fun e=>(q1 j e).elim (fun e=>e) (fun e=>by omega)))) (fun j hj=>(q2 j hj).elim (q1 j) (fun e=>.inr (by have:=f1.n;omega)))
end
end
section
set_option maxHeartbeats 4000000
noncomputable def dstep (fr:Int) (ln cn:Nat) (par:Int→List Int) (s:List Hd × List Int) (n:Int):List Hd × List Int:=
 if n=0 then s else
 match par n with
 | []=>(s.1,s.2++[n])
 | p::_=>match bothF fr s.1 n.toNat p.toNat ln cn with
  | some L=>(L,s.2)
  | none=>(s.1,s.2++[n])
noncomputable def dealF (fr:Int) (ln cn:Nat) (par:Int→List Int) (ol:List Int):List Hd × List Int:=ol.foldl (dstep fr ln cn par) ([],[])
theorem dealF_snoc (fr:Int) (ln cn:Nat) (par:Int→List Int) (ol:List Int) (x:Int):dealF fr ln cn par (ol++[x])=dstep fr ln cn par (dealF fr ln cn par ol) x:=by simp [dealF]
theorem bothF_len {fr:Int} {L L':List Hd} {n p ln cn:Nat} (h:bothF fr L n p ln cn=some L'):L'.length=L.length+4:=by
 unfold bothF at h
 rw [Option.bind_eq_some_iff] at h
 obtain ⟨x,_,h⟩:=h
 rw [Option.map_eq_some_iff] at h
 obtain ⟨y,_,rfl⟩:=h
 simp [twoD]
theorem dealS_len (fr:Int) (ln cn:Nat) (par:Int→List Int):∀ (ol:List Int) (s:List Hd × List Int),(ol.foldl (dstep fr ln cn par) s).1.length≤s.1.length+4 * ol.length∧(ol.foldl (dstep fr ln cn par) s).2.length≤s.2.length+ol.length
 | [],s=>⟨Nat.le_refl _,Nat.le_refl _⟩
 | x::ol,s=>by
  have ih:=dealS_len fr ln cn par ol (dstep fr ln cn par s x)
  have h1:(dstep fr ln cn par s x).1.length≤s.1.length+4∧(dstep fr ln cn par s x).2.length≤s.2.length+1:=by
   unfold dstep
   split
   ·omega
   ·split
    ·simp only [List.length_append,List.length_singleton];omega
    ·split
     ·rename_i h
      have:=bothF_len h
      simp only
      omega
     ·simp only [List.length_append,List.length_singleton];omega
  rw [List.foldl_cons,List.length_cons]
  omega
theorem dealF_len (fr:Int) (ln cn:Nat) (par:Int→List Int) (ol:List Int):(dealF fr ln cn par ol).1.length≤4 * ol.length∧(dealF fr ln cn par ol).2.length≤ol.length:=by
 have:=dealS_len fr ln cn par ol ([],[])
 simpa [dealF] using this
theorem SL.ltn {h:Hp} {sz:Nat} {v:CV} {rows:List (List CV)} (k:SL h sz v rows) {j:Nat} (hj:ownId v j):j<h.n:=by
 cases v <;> simp only [ownId] at hj
 case sl id tok off len cap=>
  obtain ⟨_,_,_,_,h1,_⟩:=k
  subst hj
  exact lt_of_g h1
section
variable {k:Nat} {h:Hp} {P:AV→Hp→Prop} {fr:Int} {ln cn:Nat} {t d:Nat} {f:Int→Option Nat} {par:Int→List Int} {ol:List Int}
structure DeS (h0 h:Hp) (d:Nat) (fr:Int) (ln cn:Nat) (par:Int→List Int) (ol:List Int) (w v nv:CV) (i:Nat):Prop where
 dl:Dl false h d fr ln cn v (dealF fr ln cn par (ol.take i)).1
 no:Ow h 1 nv (rI (dealF fr ln cn par (ol.take i)).2)
 fn:Fn h0 h
 so:SL h 1 w (rI ol)
 lo:h0.n≤d
 sw:∀ j,ownId w j→j≠d∧¬ownId v j∧¬ownId nv j
 sv:∀ j,ownId v j→h0.n≤j∧¬ownId nv j
 sn:∀ j,ownId nv j→h0.n≤j∧j≠d
theorem DeS.fresh {h0 h1 h2:Hp} {w v nv:CV} {i:Nat} (k:DeS h0 h1 d fr ln cn par ol w v nv i) (f2:Fn h1 h2):DeS h0 h2 d fr ln cn par ol w v nv i:=
 ⟨k.dl.fresh f2,k.no.new f2,k.fn.trans f2,k.so.new f2,k.lo,k.sw,k.sv,k.sn⟩
theorem DeS.add {h0 h1 h2:Hp} {w v nv nv':CV} {i:Nat} {x:Int} (k:DeS h0 h1 d fr ln cn par ol w v nv i) (hd:dealF fr ln cn par (ol.take (i+1))=((dealF fr ln cn par (ol.take i)).1,(dealF fr ln cn par (ol.take i)).2++[x]))
 (ho:Ow h2 1 nv' (rI ((dealF fr ln cn par (ol.take i)).2++[x]))) (f:Fm (ownId nv) h1 h2) (hq:∀ j,ownId nv' j→ownId nv j∨h1.n≤j):DeS h0 h2 d fr ln cn par ol w v nv' (i+1):=by
 have hdn:=lt_of_g k.dl.row
 have hvn:∀ j,ownId v j→j<h1.n:=fun j hj=>k.dl.g.lt hj
 have hwn:∀ j,ownId w j→j<h1.n:=fun j hj=>k.so.ltn hj
 refine ⟨?_,by rw [hd];exact ho,k.fn.fresh f (fun j hj=>(k.sn j hj).1),k.so.mono f (fun id _ _ _ _ e hj=>(k.sw id (by rw [e];rfl)).2.2 hj),k.lo,fun j hj=>⟨(k.sw j hj).1,(k.sw j hj).2.1,fun e=>(hq j e).elim (k.sw j hj).2.2 (fun e=>by have:=hwn j hj;omega)⟩,
  fun j hj=>⟨(k.sv j hj).1,fun e=>(hq j e).elim (k.sv j hj).2 (fun e=>by have:=hvn j hj;omega)⟩,fun j hj=>(hq j hj).elim (k.sn j) (fun e=>⟨by have:=k.fn.n;omega,by omega⟩)⟩
 rw [hd]
 exact ⟨f.some k.dl.row (fun e=>(k.sn _ e).2 rfl),k.dl.g.mono f (fun j hj=>(k.sv j hj).2),k.dl.id⟩
theorem DeS.both {h0 h1 h2:Hp} {w v v' nv:CV} {i:Nat} {L:List Hd} (k:DeS h0 h1 d fr ln cn par ol w v nv i) (hd:dealF fr ln cn par (ol.take (i+1))=(L,(dealF fr ln cn par (ol.take i)).2))
 (ho:Dl false h2 d fr ln cn v' L) (f:Fm (fun j=>j=d∨ownId v j) h1 h2) (hq:∀ j,ownId v' j→ownId v j∨h1.n≤j):DeS h0 h2 d fr ln cn par ol w v' nv (i+1):=by
 have hwn:∀ j,ownId w j→j<h1.n:=fun j hj=>k.so.ltn hj
 have hnn:∀ j,ownId nv j→j<h1.n:=fun j hj=>k.no.lt hj
 refine ⟨by rw [hd];exact ho,?_,k.fn.fresh f (fun j hj=>hj.elim (fun e=>by rw [e];exact k.lo) (fun e=>(k.sv j e).1)),k.so.mono f (fun id _ _ _ _ e hj=>?_),k.lo,fun j hj=>⟨(k.sw j hj).1,fun e=>(hq j e).elim (k.sw j hj).2.1 (fun e=>by have:=hwn j hj;omega),(k.sw j hj).2.2⟩,
  fun j hj=>(hq j hj).elim (k.sv j) (fun e=>⟨by have:=k.fn.n;omega,fun e'=>by have:=hnn j e';omega⟩),k.sn⟩
 ·rw [hd]
  exact k.no.mono f (fun j hj e=>e.elim (k.sn j hj).2 (fun e=>(k.sv j e).2 hj))
 ·have:=k.sw id (by rw [e];rfl)
  exact hj.elim this.1 this.2.1
def DeA (h0:Hp) (t d:Nat) (fr:Int) (ln cn:Nat) (par:Int→List Int) (ol:List Int) (w:CV) (n:Nat) (s:St):Prop:=
 ∃ (i:Nat) (h':Hp) (v nv:CV) (l:List (Nat × TV)) (lc:List (List CV)),s=ST 116 l lc h'∧i≤ol.length∧n=ol.length-i∧DeS h0 h' d fr ln cn par ol w v nv i∧
  lk l 0 = .v (.c (.ptr t 0 0 0))∧lk l 10 = .v (.c (.ptr d 0 0 0))∧lk l 11 = .v (.c nv)∧lk l 52 = .v (.c w)∧lk l 53 = .v (.c (.int .i64 ol.length))∧lk l 54 = .v (.c (.int .i64 i))
end
end
section
set_option maxHeartbeats 4000000
abbrev kI (n:Int):AV:=.c (.int .i64 n)
def celsN (L:List Hd) (n:Int):List Cel:=(L.filter fun x=>decide (x.n=n)).map (·.c)
theorem celsN_snoc (L:List Hd) (x:Hd) (n:Int):celsN (L++[x]) n=if n=x.n then celsN L x.n++[x.c] else celsN L n:=by
 unfold celsN
 rw [List.filter_append,List.map_append]
 by_cases h:n=x.n
 ·subst h
  rw [if_pos rfl,List.filter_cons_of_pos (by simp)]
  rfl
 ·rw [if_neg h,List.filter_cons_of_neg (by simp;exact fun e=>h e.symm)]
  simp
structure MS (h:Hp) (b m:Nat) (es:List ME) (clock:Nat) (Lk:Int→List Cel):Prop where
 hm:h.g m=some (.map true es clock)
 en:Ents (.int .i64) es clock
 each:∀ e∈es,∃ n v,e.key=kI n∧e.val = .c v∧Ow h 5 v ((Lk n).map encE)∧Lk n≠[]∧∀ j,ownId v j→b≤j∧j≠m
 sep:∀ e∈es,∀ e'∈es,e.key≠e'.key→∀ v v',e.val = .c v→e'.val = .c v'→∀ j,ownId v j→¬ownId v' j
 all:∀ n,Lk n≠[]→∃ e∈es,e.key=kI n
section
variable {h:Hp} {b m clock:Nat} {es:List ME} {Lk:Int→List Cel}
theorem MS.nil {h:Hp} {b m clock:Nat} (hm:h.g m=some (.map true [] clock)):MS h b m [] clock fun _=>[]:=
 ⟨hm,Ents.nil _ _,by simp,by simp,fun n h=>absurd rfl h⟩
theorem MS.new (k:MS h b m es clock Lk) {h':Hp} (f:Fn h h'):MS h' b m es clock Lk:=
 ⟨f.some k.hm (fun e=>e),k.en,fun e he=>by obtain ⟨n,v,h1,h2,h3,h4,h5⟩:=k.each e he;exact ⟨n,v,h1,h2,h3.new f,h4,h5⟩,k.sep,k.all⟩
theorem MS.look (k:MS h b m es clock Lk) (n:Int):(Lk n=[]∧lookT h (.int .i64) (.v (.c (.map m))) (some (kI n))=some none)∨
 ∃ e∈es,∃ v,e.key=kI n∧e.val = .c v∧Ow h 5 v ((Lk n).map encE)∧Lk n≠[]∧(∀ j,ownId v j→b≤j∧j≠m)∧lookT h (.int .i64) (.v (.c (.map m))) (some (kI n))=some (some (.c v)):=by
 have hl:=look_ok (k:=kI n) k.hm (funOf_is k.en) rfl
 by_cases hx:∃ e∈es,e.key=kI n
 ·obtain ⟨e,he,hk⟩:=hx
  obtain ⟨n',v,h1,h2,h3,h4,h5⟩:=k.each e he
  have hn:n'=n:=by rw [hk] at h1;injection h1 with h1;injection h1 with _ h1;exact h1.symm
  subst hn
  have:=((funOf_is k.en).vals (kI n') (.c v)).mpr ⟨e,he,hk,h2⟩
  rw [this] at hl
  exact .inr ⟨e,he,v,hk,h2,h3,h4,h5,hl⟩
 ·have hL:Lk n=[]:=by
   cases hq:Lk n with
   | nil=>rfl
   | cons a l=>exact absurd (k.all n (by rw [hq];simp)) hx
  have:funOf es (kI n)=none:=by
   cases hf:funOf es (kI n) with
   | none=>rfl
   | some v=>
    obtain ⟨e,he,h1,_⟩:=((funOf_is k.en).vals _ _).mp hf
    exact absurd ⟨e,he,h1⟩ hx
  rw [this] at hl
  exact .inl ⟨hL,hl⟩
theorem MS.add (k:MS h b m es clock Lk) {h2 h3:Hp} (f2:Fn h h2) {n:Int} {c:Cel} {cur v':CV} (hcur:cur = .nils∨∃ e∈es,e.key=kI n∧e.val = .c cur) (f3:Fm (ownId cur) h2 h3) (ho:Ow h3 5 v' ((Lk n++[c]).map encE)) (hq:∀ j,ownId v' j→ownId cur j∨h2.n≤j) (hb:b≤h.n) :
 ∃ es' clock',mupdT h3 (.int .i64) (.v (.c (.map m))) (some (kI n)) (some (.c v'))=some (h3.put m (.map true es' clock'))∧es'.length≤es.length+1∧MS (h3.put m (.map true es' clock')) b m es' clock' fun n'=>if n'=n then Lk n++[c] else Lk n':=by
 have hmn:=lt_of_g k.hm
 have hcb:∀ j,ownId cur j→b≤j∧j≠m:=by
  rcases hcur with rfl|⟨e,he,hk,hv⟩
  ·exact fun _ e=>e.elim
  ·obtain ⟨n',v,h1,h2,h3,h4,h5⟩:=k.each e he
   rw [hv] at h2
   injection h2 with h2
   rw [h2];exact h5
 have hcl:∀ j,ownId cur j→j<h.n:=by
  rcases hcur with rfl|⟨e,he,hk,hv⟩
  ·exact fun _ e=>e.elim
  ·obtain ⟨n',v,h1,h2,h3,h4,h5⟩:=k.each e he
   rw [hv] at h2
   injection h2 with h2
   rw [h2];exact fun j hj=>h3.lt hj
 have hm3:h3.g m=some (.map true es clock):=f3.some (f2.some k.hm (fun e=>e)) (fun e=>(hcb _ e).2 rfl)
 obtain ⟨es',clock',u1,u2,u3,u4,u5,u6⟩:=mupd_bk (k:=kI n) (x:=.c v') hm3 k.en rfl
 have hv'm:∀ j,ownId v' j→b≤j∧j≠m:=fun j hj=>(hq j hj).elim (hcb j) (fun e=>⟨by have:=f2.n;omega,by have:=f2.n;omega⟩)
 have old:∀ e0∈es,e0.key≠kI n→∀ v,e0.val = .c v→∀ j,ownId v j→¬ownId cur j:=by
  intro e0 he0 hk0 v hv j hj
  rcases hcur with rfl|⟨e,he,hk,hv2⟩
  ·exact fun e=>e
  ·exact k.sep e0 he0 e he (by rw [hk];exact hk0) v cur hv hv2 j hj
 refine ⟨es',clock',u1,u3,⟨by rw [g_put_eq,hm3];rfl,u2,fun e he=>?_,fun e he e' he' hne v w hv hw j hj=>?_,fun n' hn'=>?_⟩⟩
 ·rcases u4 e he with ⟨h1,h2⟩|⟨h1,e0,he0,h2,h4⟩
  ·refine ⟨n,v',h1,h2,?_,by rw [if_pos rfl];simp,hv'm⟩
   rw [if_pos rfl]
   exact ho.mono (Fm.put (S:=fun j=>j=m) _ _ rfl) (fun j hj=>(hv'm j hj).2)
  ·obtain ⟨n0,v,q1,q2,q3,q4,q5⟩:=k.each e0 he0
   have hnn:¬n0=n:=by rintro rfl;exact h1 (by rw [←h2];exact q1)
   refine ⟨n0,v,by rw [←h2];exact q1,by rw [←h4];exact q2,?_,by rw [if_neg hnn];exact q4,q5⟩
   rw [if_neg hnn]
   exact ((q3.new f2).mono f3 (fun j hj=>old e0 he0 (by rw [h2];exact h1) v q2 j hj)).mono (Fm.put (S:=fun j=>j=m) _ _ rfl) (fun j hj=>(q5 j hj).2)
 ·rcases u4 e he with ⟨h1,h2⟩|⟨h1,e0,he0,h2,h4⟩ <;> rcases u4 e' he' with ⟨h1',h2'⟩|⟨h1',e0',he0',h2',h4'⟩
  ·exact absurd (h1.trans h1'.symm) hne
  ·rw [h2] at hv
   injection hv with hv
   subst hv
   have hw0:e0'.val = .c w:=h4'.trans hw
   intro hj'
   obtain ⟨n0,v0,q1,q2,q3,q4,q5⟩:=k.each e0' he0'
   rw [hw0] at q2
   injection q2 with q2
   subst q2
   rcases hq j hj with e|e
   ·exact old e0' he0' (by rw [h2'];exact h1') w hw0 j hj' e
   ·have:=q3.lt hj';have:=f2.n;omega
  ·rw [h2'] at hw
   injection hw with hw
   subst hw
   have hv0:e0.val = .c v:=h4.trans hv
   intro hj'
   obtain ⟨n0,v0,q1,q2,q3,q4,q5⟩:=k.each e0 he0
   rw [hv0] at q2
   injection q2 with q2
   subst q2
   rcases hq j hj' with e|e
   ·exact old e0 he0 (by rw [h2];exact h1) v hv0 j hj e
   ·have:=q3.lt hj;have:=f2.n;omega
  ·exact k.sep e0 he0 e0' he0' (by rw [h2,h2'];exact hne) v w (h4.trans hv) (h4'.trans hw) j hj
 ·by_cases hnn:n'=n
  ·subst hnn
   obtain ⟨e,he,h1,_⟩:=u5
   exact ⟨e,he,h1⟩
  ·simp only [if_neg hnn] at hn'
   obtain ⟨e,he,h1⟩:=k.all n' hn'
   obtain ⟨e',he',h2,_⟩:=u6 e he (by rw [h1];intro e;injection e with e;injection e with _ e;exact hnn e)
   exact ⟨e',he',h2.trans h1⟩
theorem MS.upd (k:MS h b m es clock Lk) {h':Hp} {e:ME} {n:Int} {v:CV} {T:List Cel} (he:e∈es) (hk:e.key=kI n) (hv:e.val = .c v) (f:Fm (ownId v) h h') (ho:Ow h' 5 v (T.map encE)) (hT:T.Perm (Lk n)) :
 MS h' b m es clock fun n'=>if n'=n then T else Lk n':=by
 obtain ⟨n0,v0,q1,q2,q3,q4,q5⟩:=k.each e he
 have hn:n0=n:=by rw [hk] at q1;injection q1 with q1;injection q1 with _ q1;exact q1.symm
 subst hn
 rw [hv] at q2
 injection q2 with q2
 subst q2
 have hT0:T≠[]:=fun e=>q4 (by rw [e] at hT;exact List.Perm.eq_nil (hT.symm))
 refine ⟨f.some k.hm (fun e=>(q5 _ e).2 rfl),k.en,fun e' he'=>?_,k.sep,fun n' hn'=>?_⟩
 ·obtain ⟨n',w,r1,r2,r3,r4,r5⟩:=k.each e' he'
  by_cases hnn:n'=n0
  ·subst hnn
   have:=uniq_key k.en.uniq he he' (hk.trans r1.symm)
   subst this
   rw [hv] at r2
   injection r2 with r2
   subst r2
   exact ⟨n',v,r1,hv,by rw [if_pos rfl];exact ho,by rw [if_pos rfl];exact hT0,r5⟩
  ·refine ⟨n',w,r1,r2,?_,by rw [if_neg hnn];exact r4,r5⟩
   rw [if_neg hnn]
   exact r3.mono f (fun j hj hj'=>k.sep e' he' e he (by rw [r1,hk];intro e;injection e with e;injection e with _ e;exact hnn e) w v r2 hv j hj hj')
 ·by_cases hnn:n'=n0
  ·subst hnn;exact k.all n' q4
  ·simp only [if_neg hnn] at hn';exact k.all n' hn'
theorem Ow.arr {α:Type} {enc:α→List CV} {sz:Nat} {v:CV} {L:List α} (ho:Ow h sz v (L.map enc)) (hL:L≠[]):∃ id tok rest,v = .sl id tok 0 L.length none∧Ar enc sz h id tok rest L:=by
 cases v <;> simp only [Ow] at ho
 case nils=>exact absurd (List.map_eq_nil_iff.mp ho) hL
 case sl id tok off len cap=>
  obtain ⟨rfl,rfl,lw,rs,h1,h2,h3,h4⟩:=ho
  have hlen:len=L.length:=by
   have:=congrArg List.length h4
   rw [List.length_map,List.length_take] at this
   omega
  subst hlen
  exact ⟨id,tok,rs.drop L.length,rfl,lw,h2,by rw [h1];congr 2;rw [h4,List.take_append_drop]⟩
theorem Ar.ow {α:Type} {enc:α→List CV} {sz id tok:Nat} {rest:List (List CV)} {L:List α} (k:Ar enc sz h id tok rest L):Ow h sz (.sl id tok 0 L.length none) (L.map enc):=by
 obtain ⟨lw,h1,h2⟩:=k
 refine ⟨rfl,rfl,lw,_,h2,h1,by rw [List.length_append,List.length_map];omega,?_⟩
 rw [List.take_append_of_le_length (by rw [List.length_map];omega),List.take_of_length_le (by rw [List.length_map];omega)]
end
end
section
set_option maxHeartbeats 4000000
def lessC (x y:Cel):Bool:=lessB x.f x.s x.c x.o x.p y.f y.s y.c y.o y.p
def ltC (x y:Cel):Prop:=lessC x y=true
theorem ltC_iff {x y:Cel}:ltC x y↔(x.f<y.f∨(x.f=y.f∧(x.s<y.s∨(x.s=y.s∧(x.c<y.c∨(x.c=y.c∧(x.o<y.o∨(x.o=y.o∧x.p<y.p)))))))):=by
 unfold ltC lessC lessB
 rw [decide_eq_true_eq]
theorem swoC:SWO ltC:=by
 refine ⟨fun x=>?_,fun {x y z}=>?_,fun {x y z}=>?_⟩
 ·rw [ltC_iff];omega
 ·rw [ltC_iff,ltC_iff,ltC_iff];omega
 ·rw [ltC_iff,ltC_iff,ltC_iff];omega
theorem dealS_sub (fr:Int) (ln cn:Nat) (par:Int→List Int):∀ (ol:List Int) (s:List Hd × List Int),∃ R,(ol.foldl (dstep fr ln cn par) s).2=s.2++R∧R.Sublist ol
 | [],s=>⟨[],by simp,List.Sublist.refl _⟩
 | x::ol,s=>by
  obtain ⟨R,h1,h2⟩:=dealS_sub fr ln cn par ol (dstep fr ln cn par s x)
  have hs:(dstep fr ln cn par s x).2=s.2∨(dstep fr ln cn par s x).2=s.2++[x]:=by
   unfold dstep
   split
   ·exact .inl rfl
   ·split
    ·exact .inr rfl
    ·split
     ·exact .inl rfl
     ·exact .inr rfl
  rw [List.foldl_cons,h1]
  rcases hs with hs|hs
  ·exact ⟨R,by rw [hs],h2.cons _⟩
  ·exact ⟨x::R,by rw [hs];simp,h2.cons_cons _⟩
theorem dealF_nodup {fr:Int} {ln cn:Nat} {par:Int→List Int} {ol:List Int} (h:ol.Nodup):(dealF fr ln cn par ol).2.Nodup:=by
 obtain ⟨R,h1,h2⟩:=dealS_sub fr ln cn par ol ([],[])
 unfold dealF
 rw [h1]
 exact h2.nodup h
theorem celsN_len (L:List Hd) (n:Int):(celsN L n).length≤L.length:=by
 unfold celsN
 rw [List.length_map]
 exact List.length_filter_le _ _
section
variable {k:Nat} {h:Hp} {P:AV→Hp→Prop} {fr:Int} {ln cn:Nat} {t d:Nat} {f:Int→Option Nat} {par:Int→List Int} {ol:List Int}
theorem cless_ok {x y:Cel} (hP:P (.c (.bool (lessC x y))) h):callW N (k+1) 156 [.agg (encE x),.agg (encE y)] h P:=
 ⟨lessN,rfl,(show 2≤3 by omega),_,_,rfl,rfl,rfl,.inr rfl,_,rfl,hP⟩
theorem cmpA:CmpOkt ltC 251 2:=by
 intro F x y h' Q hF hQ
 obtain ⟨k,rfl⟩:∃ k,F=k+2:=⟨F-2,by omega⟩
 have henc:∀ x,(encE x).length=5:=fun _=>rfl
 have htk:∀ x,(encE x).take 5=encE x:=fun _=>rfl
 refine call_intro rfl (by simp only [List.length_cons,List.length_nil];omega) ?_
 simp -implicitDefEqProofs only [KK,eq_self,↓reduceIte,reduceLT,reduceEqDiff,reduceAdd,reduceCtorEq,henc,htk]
 refine cless_ok (k:=k) ?_
 by_cases c:ltC x y
 ·have c':lessC x y=true:=c
  rw [c']
  simp -implicitDefEqProofs only [KK,eq_self,↓reduceIte,reduceLT,reduceAdd]
  exact hQ _ ⟨fun _=>c,fun _=>by omega⟩
 ·have c':lessC x y=false:=by simpa [ltC] using c
  rw [c']
  simp -implicitDefEqProofs only [KK,eq_self,↓reduceIte,reduceLT,reduceAdd]
  exact hQ _ ⟨fun e=>by omega,fun e=>absurd e c⟩
def MpJ (h5:Hp) (v nv:CV) (L:List Hd) (n:Nat) (s:St):Prop:=
 ∃ (i:Nat) (es:List ME) (clock:Nat) (h':Hp) (l:List (Nat × TV)) (lc:List (List CV)),s=ST 116 l lc h'∧i≤L.length∧n=L.length-i∧Fn h5 h'∧MS h' h5.n h5.n es clock (celsN (L.take i))∧es.length≤i∧
  lk l 11 = .v (.c nv)∧lk l 15 = .v (.c (.map h5.n))∧lk l 88 = .v (.c v)∧lk l 89 = .v (.c (.int .i64 L.length))∧lk l 90 = .v (.c (.int .i64 i))
def SoJ (h5 h6:Hp) (nv:CV) (T:List Int) (es:List ME) (clock:Nat) (Lk:Int→List Cel) (n:Nat) (s:St):Prop:=
 ∃ (V:List ME) (Lk':Int→List Cel) (h':Hp) (l:List (Nat × TV)) (lc:List (List CV)),s=ST 116 l lc h'∧(∀ e∈V,e∈es)∧(V.map (·.born)).Nodup∧n=es.length-V.length∧Fn h5 h'∧MS h' h5.n h5.n es clock Lk'∧(∀ n,(Lk' n).Perm (Lk n))∧
  (∀ e∈V,∀ n,e.key=kI n→(Lk' n).Pairwise fun a b=>¬ltC b a)∧h'.g h6.n=some (.miter (some h5.n) clock (V.map (·.born)) clock)∧SL h' 1 nv (rI T)∧lk l 11 = .v (.c nv)∧lk l 15 = .v (.c (.map h5.n))∧lk l 107 = .v (.c (.it h6.n))
theorem deal_ok (hT:TrF h t f par ol) (hol:ol.length≤16) (hnd:ol.Nodup) (hn:∀ n∈ol,0≤n∧n<16) (hp:∀ n p,p∈par n→0≤p∧p<16) (hpl:∀ n,(par n).length≤2) (hfr:0≤fr∧fr<4) (hln:1≤ln∧ln≤200) (hcn:1≤cn∧cn≤16)
 (hP:∀ h' b m es clock Lk nv T,Fn h h'→MS h' b m es clock Lk→(∀ n,(Lk n).Perm (celsN (dealF fr ln cn par ol).1 n)∧(Lk n).Pairwise fun a b=>¬ltC b a)→SL h' 1 nv (rI T)→T.Perm (dealF fr ln cn par ol).2→T.Pairwise (· < ·)→P (.tup [.c (.map m),.c nv]) h') :
 callW N (k+100) 246 [.c (.ptr t 0 0 0),.c (.int .i64 fr),.c (.int .i64 ln),.c (.int .i64 cn)] h P:=by
 have c1:¬fr<0:=by omega
 have c2:¬(4:Int)≤fr:=by omega
 have c3:¬(ln:Int)<1:=by omega
 have c4:¬(200:Int)<ln:=by omega
 have c5:¬(cn:Int)<1:=by omega
 have c6:¬(16:Int)<cn:=by omega
 obtain ⟨h1,hh1⟩:∃ h1,h1=h.push (.rows true 20 0 0 [rowD fr ln cn .nils []]):=⟨_,rfl⟩
 have f1:Fn h h1:=by rw [hh1];exact Fm.push _ _ _
 have g1:h1.g h.n=some (.rows true 20 0 0 [rowD fr ln cn .nils []]):=by rw [hh1,g_push_eq]
 have n1:h1.n=h.n+1:=by rw [hh1,n_push]
 have hfold:h.push (.rows true 20 0 0 [[.int .i64 fr,.int .i64 ln,.int .i64 cn,.nils,.int .i64 0,.int .i64 0,.int .i64 0,.int .i64 0,.int .i64 0,.int .i64 0,.int .i64 0,.int .i64 0,.int .i64 0,.int .i64 0,.int .i64 0,.int .i64 0,.int .i64 0,.int .i64 0,.int .i64 0,.int .i64 0]])=h1:=hh1.symm
 refine call_intro rfl (by simp only [List.length_cons,List.length_nil];omega) ?_
 simp -implicitDefEqProofs only [KK,eq_self,↓reduceIte,reduceLT,reduceEqDiff,reduceAdd,reduceLeDiff,reduceCtorEq,c1,c2,c3,c4,c5,c6,hfold]
 refine order_ok (k:=k+97) (hT.new f1) (by omega) fun h2 w hw f2=>?_
 have hlw:∀ h':Hp,lenT h' .sl (.v (.c w))=some (ol.length:Int):=fun h'=>by rw [hw.len h',rI_len]
 simp -implicitDefEqProofs only [KK,eq_self,↓reduceIte,reduceLT,reduceEqDiff,reduceCtorEq,hlw]
 refine loop_rd (callW_mono N _) (DeA h t h.n fr ln cn par ol w) (n:=ol.length) ⟨0,h2,.nils,.nils,_,_,rfl,by omega,by omega,⟨⟨f2.some g1 (fun e=>e),rfl,fun _ e=>e.elim⟩,rfl,f1.trans f2,hw,Nat.le_refl _,fun j hj=>⟨?_,fun e=>e,fun e=>e⟩,fun _ e=>e.elim,fun _ e=>e.elim⟩,rfl,rfl,rfl,rfl,rfl,rfl⟩ ?_
 ·rintro rfl
  have hg:=f2.some g1 (fun e=>e)
  cases w <;> simp only [ownId] at hj
  case sl id tok off len cap=>
   obtain ⟨_,_,_,_,q1,_⟩:=hw
   rw [←hj,hg] at q1
   injection q1 with q1
   injection q1 with _ q1
   cases q1
 rintro n s ⟨i,h3,v,nv,l,lc,rfl,hi,hni,hS,e0,e10,e11,e52,e53,e54⟩
 by_cases hlt:(i:Int)<ol.length
 ·have hil:i<ol.length:=by omega
  obtain ⟨x,hx⟩:=some_at (L:=ol) (i:=i) hil
  have hxm:x∈ol:=List.mem_of_getElem? hx
  have hrow:(rI ol)[(i:Int).toNat]? = some [.int .i64 x]:=by simp [rI,hx]
  obtain ⟨p1,p2,p3,a1,a2⟩:=hS.so.at (by omega) hrow
  have hw':=wrap_i64 (n:=(i:Int)+1) (by omega)
  have hst:dealF fr ln cn par (ol.take (i+1))=dstep fr ln cn par (dealF fr ln cn par (ol.take i)) x:=by rw [take_snoc hx,dealF_snoc]
  simp -implicitDefEqProofs only [KK,eq_self,↓reduceIte,reduceLT,reduceEqDiff,reduceCtorEq,e0,e10,e11,e52,e53,e54,hlt,a1,a2]
  refine parents_ok (k:=k+97) (hT.new hS.fn) (by have:=hpl x;omega) fun h4 u hu f4=>?_
  have hS:=hS.fresh f4
  have hlu:∀ h':Hp,lenT h' .sl (.v (.c u))=some ((par x).length:Int):=fun h'=>by rw [hu.len h',rI_len]
  have z0:decide ((0:Int)=0)=true:=rfl
  have hli:=dealF_len fr ln cn par (ol.take i)
  have hti:(ol.take i).length≤16:=by rw [List.length_take];omega
  have app:∃ nv' h5,appT h4 [[CV.int .i64 x]] 1 8 (.v (.c nv)) (.lsl 0 1)=some (nv',h5)∧Ow h5 1 nv' (rI ((dealF fr ln cn par (ol.take i)).2++[x]))∧Fm (ownId nv) h4 h5∧(∀ j,ownId nv' j→ownId nv j∨h4.n≤j):=by
   obtain ⟨nv',h5,k1,k2,k3,k4⟩:=hS.no.app (lc:=[[.int .i64 x]]) (x:=.lsl 0 1) (xs:=[[.int .i64 x]]) rfl (by simp) (bytes:=8) (by rw [rI_len];simp only [room,List.length_singleton];omega)
   exact ⟨nv',h5,k1,by simpa [rI] using k2,k3,k4⟩
  by_cases cx:x=0
  ·have dx:decide (x=0)=true:=decide_eq_true cx
   simp -implicitDefEqProofs only [KK,eq_self,↓reduceIte,reduceLT,reduceEqDiff,reduceCtorEq,dx,hw',rd_n]
   refine ⟨n-1,by omega,i+1,h4,v,nv,_,_,rfl,by omega,by omega,?_,rfl,rfl,rfl,rfl,rfl,rfl⟩
   have:dstep fr ln cn par (dealF fr ln cn par (ol.take i)) x=dealF fr ln cn par (ol.take i):=by unfold dstep;rw [if_pos cx]
   rw [this] at hst
   exact ⟨by rw [hst];exact hS.dl,by rw [hst];exact hS.no,hS.fn,hS.so,hS.lo,hS.sw,hS.sv,hS.sn⟩
  cases hpx:par x with
  | nil=>
   have hlu0:∀ h':Hp,lenT h' .sl (.v (.c u))=some 0:=fun h'=>by rw [hlu h',hpx];rfl
   obtain ⟨nv',h5,k1,k2,k3,k4⟩:=app
   simp -implicitDefEqProofs only [KK,eq_self,↓reduceIte,reduceLT,reduceEqDiff,reduceCtorEq,cx,hlu0,k1,hw',rd_n]
   refine ⟨n-1,by omega,i+1,h5,v,nv',_,_,rfl,by omega,by omega,hS.add ?_ k2 k3 k4,rfl,rfl,rfl,rfl,rfl,rfl⟩
   rw [hst]
   unfold dstep
   rw [if_neg cx,hpx]
  | cons p ps=>
   have hlu1:∀ h':Hp,lenT h' .sl (.v (.c u))=some ((ps.length+1:Nat):Int):=fun h'=>by rw [hlu h',hpx];rfl
   have z1:¬((ps.length+1:Nat):Int)=0:=by omega
   have hrow0:(rI (par x))[(0:Int).toNat]? = some [.int .i64 p]:=by rw [hpx];rfl
   obtain ⟨b1,b2,b3,d1,d2⟩:=hu.at (Int.le_refl 0) hrow0
   have hx16:=hn x hxm
   have hp16:=hp x p (by rw [hpx];exact List.mem_cons_self)
   obtain ⟨xn,rfl⟩:∃ xn:Nat,x=xn:=⟨x.toNat,by omega⟩
   obtain ⟨pn,rfl⟩:∃ pn:Nat,p=pn:=⟨p.toNat,by omega⟩
   simp -implicitDefEqProofs only [KK,eq_self,↓reduceIte,reduceLT,reduceEqDiff,reduceCtorEq,cx,hlu1,z1,d1,d2]
   refine both_ok (k:=k+90) hS.dl (by omega) (by omega) (by omega) (by omega) (by omega) (fun h5 hb hD5 f5=>?_) fun h5 v' L' hb hD5 f5 q5=>?_
   ·have hS5:DeS h h5 h.n fr ln cn par ol w v nv i:=by
     have hvn:∀ j,ownId v j→j<h4.n:=fun j hj=>hS.dl.g.lt hj
     refine ⟨hD5,hS.no.mono f5 (fun j hj e=>e.elim (hS.sn j hj).2 (fun e=>(hS.sv j e).2 hj)),hS.fn.fresh f5 (fun j hj=>hj.elim (fun e=>by rw [e];exact Nat.le_refl _) (fun e=>(hS.sv j e).1)),hS.so.mono f5 (fun id _ _ _ _ e hj=>?_),hS.lo,hS.sw,hS.sv,hS.sn⟩
     have:=hS.sw id (by rw [e];rfl)
     exact hj.elim this.1 this.2.1
    obtain ⟨nv',h6,k1,k2,k3,k4⟩:=hS5.no.app (lc:=[[.int .i64 (xn:Int)]]) (x:=.lsl 0 1) (xs:=[[.int .i64 (xn:Int)]]) rfl (by simp) (bytes:=8) (by rw [rI_len];simp only [room,List.length_singleton];omega)
    simp -implicitDefEqProofs only [KK,eq_self,↓reduceIte,reduceLT,reduceEqDiff,reduceCtorEq,k1,hw',rd_n]
    refine ⟨n-1,by omega,i+1,h6,v,nv',_,_,rfl,by omega,by omega,hS5.add (x:=xn) ?_ (by simpa [rI] using k2) k3 k4,rfl,rfl,rfl,rfl,rfl,rfl⟩
    rw [hst]
    unfold dstep
    rw [if_neg cx,hpx]
    simp only [Int.toNat_natCast,hb]
   ·simp -implicitDefEqProofs only [KK,eq_self,↓reduceIte,reduceLT,reduceEqDiff,reduceCtorEq,hw',rd_n]
    refine ⟨n-1,by omega,i+1,h5,v',nv,_,_,rfl,by omega,by omega,hS.both ?_ hD5 f5 q5,rfl,rfl,rfl,rfl,rfl,rfl⟩
    rw [hst]
    unfold dstep
    rw [if_neg cx,hpx]
    simp only [Int.toNat_natCast,hb]
 ·simp -implicitDefEqProofs only [KK,eq_self,↓reduceIte,reduceLT,reduceEqDiff,reduceCtorEq,e0,e10,e11,e52,e53,e54,hlt]
  have hil:ol.take i=ol:=List.take_of_length_le (by omega)
  obtain ⟨L,hL⟩:∃ L,L=(dealF fr ln cn par ol).1:=⟨_,rfl⟩
  have hLl:L.length≤64:=by have:=(dealF_len fr ln cn par ol).1;rw [hL];omega
  have hTl:(dealF fr ln cn par ol).2.length≤16:=by have:=(dealF_len fr ln cn par ol).2;omega
  have hD:=hS.dl
  have hno:=hS.no
  rw [hil] at hno hD
  rw [←hL] at hD
  refine sortI_ok (by omega) hno hTl (dealF_nodup hnd) fun h4 T hT1 hT2 hT3 f4=>?_
  have hnv:∀ j,ownId nv j→j≠h.n∧¬ownId v j:=fun j hj=>⟨(hS.sn j hj).2,fun e=>(hS.sv j e).2 hj⟩
  have hrow:=f4.some hD.row (fun e=>(hnv _ e).1 rfl)
  have hg4:=hD.g.mono f4 (fun j hj e=>(hnv j e).2 hj)
  have f04:Fn h h4:=hS.fn.fresh f4 (fun j hj=>(hS.sn j hj).1)
  have hlv:∀ h':Hp,lenT h' .sl (.v (.c v))=some (L.length:Int):=fun h'=>by rw [hg4.len h',List.length_map]
  have r3:(rowD fr ln cn v L)[3]? = some v:=rfl
  obtain ⟨h5,hh5⟩:∃ h5,h5=h4.push (.map true [] 0):=⟨_,rfl⟩
  have f5:Fn h4 h5:=by rw [hh5];exact Fm.push _ _ _
  have g5:h5.g h4.n=some (.map true [] 0):=by rw [hh5,g_push_eq]
  have hf5:=hh5.symm
  have hrow5:=f5.some hrow (fun e=>e)
  generalize rowD fr ln cn v L=R at *
  simp -implicitDefEqProofs only [KK,eq_self,↓reduceIte,reduceLT,reduceEqDiff,hf5,hrow5,r3,hlv]
  refine loop_rd (callW_mono N _) (MpJ h4 v nv L) (n:=L.length) ⟨0,[],0,h5,_,_,rfl,by omega,by omega,f5,MS.nil g5,by simp,rfl,rfl,rfl,rfl,rfl⟩ ?_
  clear hrow5 hf5 hrow
  rintro n2 s ⟨i,es,clock,h6,l,lc,rfl,hi2,hn2,f6,hM,hel,e11,e15,e88,e89,e90⟩
  by_cases hlt2:(i:Int)<L.length
  ·have hil2:i<L.length:=by omega
   obtain ⟨x,hx⟩:=some_at (L:=L) (i:=i) hil2
   have hrowx:(L.map encH)[(i:Int).toNat]? = some (encH x):=by simp [hx]
   obtain ⟨p1,p2,p3,a1,a2⟩:=(hg4.mono f6 (fun _ _ e=>e)).at (by omega) hrowx
   have a2':rowO (h6.g p1) p2 p3=some [.int .i64 x.n,.int .i64 x.c.f,.int .i64 x.c.s,.int .i64 x.c.c,.int .i64 x.c.o,.int .i64 x.c.p]:=a2
   have w2:=wrap_i64 (n:=(i:Int)+1) (by omega)
   obtain ⟨h7,hh7⟩:∃ h7,h7=h6.reserve 1:=⟨_,rfl⟩
   have f7:Fn h6 h7:=by rw [hh7];exact Fm.reserve _ _ _
   have d7:h7.g h6.n=some .dead:=by rw [hh7,g_reserve,if_pos (by omega)]
   obtain ⟨h8,hh8⟩:∃ h8,h8=h7.put h6.n (.rows true 5 0 0 [[.int .i64 x.c.f,.int .i64 x.c.s,.int .i64 x.c.c,.int .i64 x.c.o,.int .i64 x.c.p]]):=⟨_,rfl⟩
   have f8:Fn h6 h8:=by rw [hh8];exact f7.putNew _ (Nat.le_refl _)
   have hxs:sliceRows h8 [[CV.int .i64 x.n,.int .i64 x.c.f,.int .i64 x.c.s,.int .i64 x.c.c,.int .i64 x.c.o,.int .i64 x.c.p]] 5 (.v (.c (.sl h6.n 0 0 1 (some 1))))=some [encE x.c]:=by
    have:h8.g h6.n=some (.rows true 5 0 0 [[.int .i64 x.c.f,.int .i64 x.c.s,.int .i64 x.c.c,.int .i64 x.c.o,.int .i64 x.c.p]]):=by rw [hh8,g_put_eq,d7];rfl
    simp [sliceRows,g_def,this,encE]
   have hf7:=hh7.symm
   have hf8:=hh8.symm
   have hlk:∃ cur r,lookT h7 (.int .i64) (.v (.c (.map h4.n))) (some (kI x.n))=some r∧r.getD (.c .nils) = .c cur∧(cur = .nils∨∃ e∈es,e.key=kI x.n∧e.val = .c cur)∧Ow h8 5 cur ((celsN (L.take i) x.n).map encE)∧∀ j,ownId cur j→h4.n≤j:=by
    have hM8:=hM.new f8
    rcases (hM.new f7).look x.n with ⟨q1,q2⟩|⟨e,he,u,q1,q2,q3,q4,q5,q6⟩
    ·exact ⟨.nils,_,q2,rfl,.inl rfl,by rw [q1];rfl,fun _ e=>e.elim⟩
    ·obtain ⟨n0,u0,r1,r2,r3',_,_⟩:=hM8.each e he
     rw [q2] at r2
     injection r2 with r2
     subst r2
     have:n0=x.n:=by rw [q1] at r1;injection r1 with r1;injection r1 with _ r1;exact r1.symm
     subst this
     exact ⟨u,_,q6,rfl,.inr ⟨e,he,q1,q2⟩,r3',fun j hj=>(q5 j hj).1⟩
   obtain ⟨cur,r,q1,q2,q3,q4,q5⟩:=hlk
   have hcl:=celsN_len (L.take i) x.n
   have hti:(L.take i).length≤64:=by rw [List.length_take];omega
   obtain ⟨u',h9,k1,k2,k3,k4⟩:=q4.app hxs (by simp) (bytes:=40) (by rw [List.length_map];simp only [room,List.length_singleton];omega)
   obtain ⟨es',clock',m1,m2,m3⟩:=hM.add (c:=x.c) f8 q3 k3 (by rw [List.map_append];exact k2) k4 f6.n
   simp -implicitDefEqProofs only [KK,eq_self,↓reduceIte,reduceLT,reduceEqDiff,reduceAdd,e11,e15,e88,e89,e90,hlt2,a1,a2',hf7,q1,q2,d7,hf8,k1,m1,w2,rd_n]
   refine ⟨n2-1,by omega,i+1,es',clock',_,_,_,rfl,by omega,by omega,((f6.trans f8).fresh k3 q5).putNew _ (Nat.le_refl _),?_,by omega,rfl,rfl,rfl,rfl,rfl⟩
   have:celsN (L.take (i+1))=fun n'=>if n'=x.n then celsN (L.take i) x.n++[x.c] else celsN (L.take i) n':=by
    funext n'
    rw [take_snoc hx,celsN_snoc]
   rw [this]
   exact m3
  ·have hrg:=rgn_map hM.hm
   have hil2:L.take i=L:=List.take_of_length_le (by omega)
   rw [hil2] at hM
   have hT6:=(hT3.new f6)
   simp -implicitDefEqProofs only [KK,eq_self,↓reduceIte,reduceLT,reduceEqDiff,e11,e15,e88,e89,e90,hlt2,hrg]
   refine loop_rd (callW_mono N _) (SoJ h4 h6 nv T es clock (celsN L)) (n:=es.length) ⟨[],celsN L,_,_,_,rfl,by simp,by simp,by simp,f6.trans (Fm.push _ _ _),hM.new (Fm.push _ _ _),fun n=>List.Perm.refl _,by simp,by rw [g_push_eq];rfl,hT6.new (Fm.push _ _ _),rfl,rfl,rfl⟩ ?_
   have hMs:=hM
   clear e11 e15 e88 e89 e90 hrg
   rintro n3 s ⟨V,Lk,h7,l,lc,rfl,hV,hVn,hn3,f7,hM,hpm,hso,hit,hT7,e11,e15,e107⟩
   have hids:∀ e∈es,∀ v,e.val = .c v→∀ j,ownId v j→j≠h6.n∧h4.n≤j:=by
    intro e he v hv j hj
    obtain ⟨n0,v0,r1,r2,r3',_,r5⟩:=hMs.each e he
    rw [hv] at r2
    injection r2 with r2
    subst r2
    exact ⟨by have:=r3'.lt hj;omega,(r5 j hj).1⟩
   have hn6:h4.n<h6.n:=lt_of_g hMs.hm
   simp -implicitDefEqProofs only [KK,eq_self,↓reduceIte,reduceLT,e11,e15,e107]
   refine nx_map (id:=h6.n) (m:=h4.n) (clock:=clock) (seen:=V.map (·.born)) (by simp only [evN_t,lk_cons,lk_nil];rfl) hit hM.hm hM.en.lt (fun e he hnb=>?_) fun hall=>?_
   ·obtain ⟨n0,v0,r1,r2,r3',r4,r5⟩:=hM.each e he
    obtain ⟨h8,hh8⟩:∃ h8,h8=h7.put h6.n (.miter (some h4.n) clock (V.map (·.born)++[e.born]) clock):=⟨_,rfl⟩
    have f8:Fm (fun j=>j=h6.n) h7 h8:=by rw [hh8];exact Fm.put _ _ rfl
    have hit8:h8.g h6.n=some (.miter (some h4.n) clock (V.map (·.born)++[e.born]) clock):=by rw [hh8,g_put_eq,hit];rfl
    have hM8:MS h8 h4.n h4.n es clock Lk:=by
     refine ⟨f8.some hM.hm (fun e=>by omega),hM.en,fun e he=>?_,hM.sep,hM.all⟩
     obtain ⟨n0,v0,r1,r2,r3',r4,r5⟩:=hM.each e he
     exact ⟨n0,v0,r1,r2,r3'.mono f8 (fun j hj=>(hids e he v0 r2 j hj).1),r4,r5⟩
    have hen:=entry_at hit8 hM8.hm he hM.en.nd
    rw [r1,r2] at hen
    have hfold8:=hh8.symm
    have hVe:((V++[e]).map (·.born)).Nodup:=by
     rw [List.map_append,List.nodup_append]
     refine ⟨hVn,by simp,?_⟩
     intro a ha b hb2
     simp at hb2
     subst hb2
     rintro rfl
     exact hnb ha
    have heV:∀ x∈V++[e],x∈es:=by
     intro x hx
     rcases List.mem_append.mp hx with hx|hx
     ·exact hV x hx
     ·simp at hx;subst hx;exact he
    have hlenV:(V++[e]).length≤es.length:=by
     obtain ⟨R,hR⟩:=sub_perm hVe heV
     have:=hR.length_eq
     rw [List.length_append] at this
     omega
    rw [List.length_append,List.length_singleton] at hlenV
    have hO:=r3'.mono f8 (fun j hj=>(hids e he v0 r2 j hj).1)
    obtain ⟨id,tok,rest,rfl,hA⟩:=hO.arr r4
    have hcl:(Lk n0).length≤64:=by
     have:=(hpm n0).length_eq
     have:=celsN_len L n0
     omega
    simp -implicitDefEqProofs only [KK,eq_self,↓reduceIte,reduceLT,reduceEqDiff,hfold8,hen]
    refine sort_okt swoC cmpA (by omega) hA (by omega) fun h9 U u1 u2 u3 u4=>?_
    have u4':Fm (ownId (.sl id tok 0 (Lk n0).length none)) h8 h9:=u4
    have hU:=u3.ow
    rw [u1.length_eq] at hU
    have hM9:=hM8.upd he r1 r2 u4' hU u1
    simp -implicitDefEqProofs only [KK,rd_n]
    refine ⟨n3-1,?_,V++[e],_,h9,_,_,rfl,heV,hVe,?_,(f7.fresh f8 (fun j hj=>by omega)).fresh u4 (fun j hj=>by rw [hj];exact (r5 id rfl).1),hM9,fun n=>?_,fun e' he' n' hk'=>?_,?_,?_,rfl,rfl,rfl⟩
    ·omega
    ·rw [List.length_append,List.length_singleton];omega
    ·split
     ·rename_i hn;rw [hn];exact u1.trans (hpm n0)
     ·exact hpm n
    ·split
     ·exact u2
     ·rename_i hn
      rcases List.mem_append.mp he' with he'|he'
      ·exact hso e' he' n' hk'
      ·simp at he'
       subst he'
       rw [r1] at hk'
       injection hk' with hk'
       injection hk' with _ hk'
       exact absurd hk'.symm hn
    ·rw [List.map_append]
     exact u4.some hit8 (fun e=>by have:=(hids _ he _ r2 id rfl).1;omega)
    ·refine (hT7.mono f8 (fun id' _ _ _ _ e' hj=>?_)).mono u4 (fun id' _ _ _ _ e' hj=>?_)
     ·have:=hT3.ltn (j:=id') (by rw [e'];rfl);omega
     ·have:=hT3.ltn (j:=id') (by rw [e'];rfl);have:=(r5 id rfl).1;omega
   ·simp -implicitDefEqProofs only [KK,eq_self,↓reduceIte,reduceLT,reduceEqDiff]
    refine hP h7 h4.n h4.n es clock Lk nv T (f04.trans f7) hM (fun n=>⟨by rw [←hL];exact hpm n,?_⟩) hT7 hT1 hT2
    by_cases hn:Lk n=[]
    ·rw [hn];exact List.Pairwise.nil
    ·obtain ⟨e,he,hk⟩:=hM.all n hn
     obtain ⟨e',he',hb⟩:=List.mem_map.mp (hall e he)
     have:=born_mem hM.en.nd (hV e' he') he hb
     subst this
     exact hso _ he' n hk
end
end
section
set_option maxHeartbeats 4000000
structure OlP (par:Int→List Int) (ol:List Int):Prop where
 nd:ol.Nodup
 len:ol.length≤16
 rng:∀ n∈ol,0≤n∧n<16
 zero:(0:Int)∈ol
 pne:∀ n∈ol,n≠0→par n≠[]
 prng:∀ n p,p∈par n→0≤p∧p<16
 pdiff:∀ n p,p∈par n→p≠n
 plen:∀ n,(par n).length≤2
 panti:∀ n p,p∈par n→n∉par p
theorem olP {q:Int→Int→Option Int} {least:Int} {nn:Nat} (hn:1≤nn∧nn≤16) (H:Falls q least nn (rk q least nn) (fol q least nn (rk q least nn))):OlP (fol q least nn (rk q least nn)) (ordL q least nn nn):=by
 have hm:=fun b=>mem_ordL (q:=q) (least:=least) hn.1 (d:=nn) (b:=b)
 refine ⟨ordL_nodup hn.1 nn,Nat.le_trans (ordL_len hn.1 nn) hn.2,fun n h=>?_,(hm 0).mpr ⟨0,by omega,H.root⟩,fun n h h0=>?_,fun n p h=>?_,fun n p h e=>?_,H.len,fun n p h h'=>?_⟩
 ·obtain ⟨r,_,h⟩:=(hm n).mp h
  have:=(H.range n r h).1;omega
 ·obtain ⟨r,_,h⟩:=(hm n).mp h
  cases r with
  | zero=>exact absurd (H.zero n h) h0
  | succ r=>exact H.ne n r h
 ·obtain ⟨r,_,h,_⟩:=H.mem n p h
  have:=(H.range p r h).1;omega
 ·subst e
  obtain ⟨r,h1,h2,_⟩:=H.mem p p h
  rw [h1] at h2
  have:=Option.some.inj h2
  omega
 ·obtain ⟨r,h1,h2,_⟩:=H.mem n p h
  obtain ⟨r',h3,h4,_⟩:=H.mem p n h'
  rw [h1] at h4
  rw [h2] at h3
  have:=Option.some.inj h3
  have:=Option.some.inj h4
  omega
theorem mem_pre {ol:List Int} {i:Nat} {x:Int} (hx:ol[i]? = some x):x∈ol:=List.mem_of_getElem? hx
section
variable {fr:Int} {ln cn:Nat} {par:Int→List Int} {ol:List Int}
end
def kN (e:ME):Int:=match e.key with | .c (.int _ n)=>n|_=>0
end
section
theorem antC {x y:Cel} (h1:¬ltC x y) (h2:¬ltC y x):x=y:=by
 rw [ltC_iff] at h1 h2
 have:x.f=y.f∧x.s=y.s∧x.c=y.c∧x.o=y.o∧x.p=y.p:=by omega
 cases x;cases y
 simp_all
def insC (x:Cel):List Cel→List Cel
 | []=>[x]
 | y::l=>if lessC x y then x::y::l else y::insC x l
def srtC (L:List Cel):List Cel:=L.foldl (fun T x=>insC x T) []
theorem insC_perm (x:Cel):∀ T,(insC x T).Perm (x::T)
 | []=>.refl _
 | y::l=>by
  rw [insC]
  split
  ·exact .refl _
  ·exact ((insC_perm x l).cons y).trans (.swap x y l)
theorem insC_sorted (x:Cel):∀ T,T.Pairwise (fun a b=>¬ltC b a)→(insC x T).Pairwise fun a b=>¬ltC b a
 | [],_=>List.pairwise_singleton _ _
 | y::l,h=>by
  rw [List.pairwise_cons] at h
  rw [insC]
  split
  ·rename_i hlt
   have hlt:ltC x y:=hlt
   rw [List.pairwise_cons,List.pairwise_cons]
   refine ⟨fun z hz=>?_,h⟩
   rcases List.mem_cons.mp hz with rfl|hz
   ·exact swoC.asym hlt
   ·exact swoC.le (swoC.asym hlt) (h.1 z hz)
  ·rename_i hlt
   rw [List.pairwise_cons]
   refine ⟨fun z hz=>?_,insC_sorted x l h.2⟩
   rcases List.mem_cons.mp ((insC_perm x l).mem_iff.mp hz) with rfl|hz
   ·exact hlt
   ·exact h.1 z hz
theorem srt_fold:∀ (L T:List Cel),T.Pairwise (fun a b=>¬ltC b a)→(L.foldl (fun T x=>insC x T) T).Perm (T++L)∧(L.foldl (fun T x=>insC x T) T).Pairwise fun a b=>¬ltC b a
 | [],T,h=>by simpa using h
 | x::L,T,h=>by
  have h1:=srt_fold L (insC x T) (insC_sorted x T h)
  refine ⟨h1.1.trans ?_,h1.2⟩
  have h2:=(insC_perm x T).append_right L
  exact h2.trans (by simpa using (List.perm_middle (a:=x) (l₁:=T) (l₂:=L)).symm)
theorem srtC_perm (L:List Cel):(srtC L).Perm L:=by
 have:=(srt_fold L [] List.Pairwise.nil).1
 rw [List.nil_append] at this
 exact this
theorem srtC_sorted (L:List Cel):(srtC L).Pairwise fun a b=>¬ltC b a:=(srt_fold L [] List.Pairwise.nil).2
theorem srtC_len (L:List Cel):(srtC L).length=L.length:=(srtC_perm L).length_eq
theorem srt_uniq:∀ {A B:List Cel},A.Perm B→A.Pairwise (fun a b=>¬ltC b a)→B.Pairwise (fun a b=>¬ltC b a)→A=B
 | [],B,h,_,_=>(List.nil_perm.mp h).symm
 | x::A,[],h,_,_=>by have:=h.length_eq;simp at this
 | x::A,y::B,h,hA,hB=>by
  rw [List.pairwise_cons] at hA hB
  have e:x=y:=by
   refine antC (fun k=>?_) (fun k=>?_)
   ·have:=h.mem_iff.mp (List.mem_cons_self (a:=x) (l:=A))
    rcases List.mem_cons.mp this with e|e
    ·rw [e] at k;exact swoC.irr _ k
    ·exact hB.1 x e k
   ·have:=h.mem_iff.mpr (List.mem_cons_self (a:=y) (l:=B))
    rcases List.mem_cons.mp this with e|e
    ·rw [e] at k;exact swoC.irr _ k
    ·exact hA.1 y e k
  subst e
  rw [srt_uniq (List.Perm.cons_inv h) hA.2 hB.2]
end
section
set_option maxHeartbeats 4000000
section
variable {k:Nat} {h:Hp} {P:AV→Hp→Prop}
theorem node44_ok {n:Int} (hP:P (.c (.bool (decide (nodeP n)))) h):callW N (k+1) 44 [.c (.int .i64 n)] h P:=by
 refine call_intro rfl (by simp only [List.length_cons,List.length_nil];omega) ?_
 by_cases h1:0≤n
 ·by_cases h2:n<16
  ·rw [decide_eq_true ⟨h1,h2⟩] at hP
   simp -implicitDefEqProofs only [KK,eq_self,↓reduceIte,reduceLT,reduceEqDiff,reduceCtorEq,h1,h2]
   exact hP
  ·rw [decide_eq_false (fun h=>h2 h.2)] at hP
   simp -implicitDefEqProofs only [KK,eq_self,↓reduceIte,reduceLT,reduceEqDiff,reduceCtorEq,h1,h2]
   exact hP
 ·rw [decide_eq_false (fun h=>h1 h.1)] at hP
  simp -implicitDefEqProofs only [KK,eq_self,↓reduceIte,reduceLT,reduceEqDiff,reduceCtorEq,h1]
  exact hP
theorem rmayc_ok {x:Cel} (hP:P (.c (.bool (decide (mayC x)))) h):callW N (k+2) 218 [.agg (encE x)] h P:=by
 obtain ⟨f,s,c,o,p⟩:=x
 have no:¬mayC ⟨f,s,c,o,p⟩→P (.c (.bool false)) h:=fun hn=>by rw [decide_eq_false hn] at hP;exact hP
 refine call_intro rfl (by simp only [List.length_cons,List.length_nil];omega) ?_
 by_cases q0:0≤f
 rotate_left
 ·simp -implicitDefEqProofs only [KK,eq_self,↓reduceIte,reduceLT,reduceEqDiff,reduceAdd,encE,q0]
  exact no (fun e=>q0 (by simp only [mayC] at e;omega))
 by_cases q1:f<4
 rotate_left
 ·simp -implicitDefEqProofs only [KK,eq_self,↓reduceIte,reduceLT,reduceEqDiff,reduceAdd,encE,q0,q1]
  exact no (fun e=>q1 (by simp only [mayC] at e;omega))
 by_cases q2:0≤s
 rotate_left
 ·simp -implicitDefEqProofs only [KK,eq_self,↓reduceIte,reduceLT,reduceEqDiff,reduceAdd,encE,q0,q1,q2]
  exact no (fun e=>q2 (by simp only [mayC] at e;omega))
 by_cases q3:s<200
 rotate_left
 ·simp -implicitDefEqProofs only [KK,eq_self,↓reduceIte,reduceLT,reduceEqDiff,reduceAdd,encE,q0,q1,q2,q3]
  exact no (fun e=>q3 (by simp only [mayC] at e;omega))
 by_cases q4:0≤c
 rotate_left
 ·simp -implicitDefEqProofs only [KK,eq_self,↓reduceIte,reduceLT,reduceEqDiff,reduceAdd,encE,q0,q1,q2,q3,q4]
  exact no (fun e=>q4 (by simp only [mayC] at e;omega))
 by_cases q5:c≤15
 rotate_left
 ·simp -implicitDefEqProofs only [KK,eq_self,↓reduceIte,reduceLT,reduceEqDiff,reduceAdd,encE,q0,q1,q2,q3,q4,q5]
  exact no (fun e=>q5 (by simp only [mayC] at e;omega))
 by_cases q6:1≤o
 rotate_left
 ·simp -implicitDefEqProofs only [KK,eq_self,↓reduceIte,reduceLT,reduceEqDiff,reduceAdd,encE,q0,q1,q2,q3,q4,q5,q6]
  exact no (fun e=>q6 (by simp only [mayC] at e;omega))
 by_cases q7:o≤15
 rotate_left
 ·simp -implicitDefEqProofs only [KK,eq_self,↓reduceIte,reduceLT,reduceEqDiff,reduceAdd,encE,q0,q1,q2,q3,q4,q5,q6,q7]
  exact no (fun e=>q7 (by simp only [mayC] at e;omega))
 by_cases g1:andI o 3=0
 ·have g1':decide (andI o 3=0)=true:=decide_eq_true g1
  simp -implicitDefEqProofs only [KK,eq_self,↓reduceIte,reduceLT,reduceEqDiff,reduceAdd,encE,q0,q1,q2,q3,q4,q5,q6,q7,andI_fold,g1']
  exact no (fun e=>e.2.2.2.2.1 g1)
 by_cases g2:andI o 4=0
 case' pos=>
  have ns:¬(¬andI o 4=0∧andI o 1=0):=fun e=>e.1 g2
  have g2':decide (andI o 4=0)=true:=decide_eq_true g2
  simp -implicitDefEqProofs only [KK,eq_self,↓reduceIte,reduceLT,reduceEqDiff,reduceAdd,encE,q0,q1,q2,q3,q4,q5,q6,q7,andI_fold,g1,g2']
 case' neg=>
  by_cases g3:andI o 1=0
  ·have g3':decide (andI o 1=0)=true:=decide_eq_true g3
   simp -implicitDefEqProofs only [KK,eq_self,↓reduceIte,reduceLT,reduceEqDiff,reduceAdd,encE,q0,q1,q2,q3,q4,q5,q6,q7,andI_fold,g1,g2,g3']
   exact no (fun e=>e.2.2.2.2.2.1 ⟨g2,g3⟩)
  have ns:¬(¬andI o 4=0∧andI o 1=0):=fun e=>g3 e.2
  simp -implicitDefEqProofs only [KK,eq_self,↓reduceIte,reduceLT,reduceEqDiff,reduceAdd,encE,q0,q1,q2,q3,q4,q5,q6,q7,andI_fold,g1,g2,g3]
 all_goals
  refine node44_ok ?_
  by_cases n1:nodeP p
  ·rw [decide_eq_true (show mayC ⟨f,s,c,o,p⟩ from ⟨by constructor <;> (simp only;omega),by constructor <;> (simp only;omega),by constructor <;> (simp only;omega),by constructor <;> (simp only;omega),g1,ns,.inl (by unfold nodeP at n1;constructor <;> (simp only;omega))⟩)] at hP
   simp -implicitDefEqProofs only [KK,eq_self,↓reduceIte,reduceLT,reduceEqDiff,n1]
   exact hP
  ·by_cases n2:p=64
   ·have n2':decide (p=64)=true:=decide_eq_true n2
    rw [decide_eq_true (show mayC ⟨f,s,c,o,p⟩ from ⟨by constructor <;> (simp only;omega),by constructor <;> (simp only;omega),by constructor <;> (simp only;omega),by constructor <;> (simp only;omega),g1,ns,.inr n2⟩)] at hP
    simp -implicitDefEqProofs only [KK,eq_self,↓reduceIte,reduceLT,reduceEqDiff,n1,n2']
    exact hP
   ·simp -implicitDefEqProofs only [KK,eq_self,↓reduceIte,reduceLT,reduceEqDiff,n1,n2]
    exact no (fun e=>e.2.2.2.2.2.2.elim (fun e=>n1 (by unfold nodeP;simp only at e;omega)) n2)
theorem andI3 (x:Int):0≤andI x 3∧andI x 3≤3:=by
 have h:(BitVec.ofInt IntKind.i64.bits x &&& BitVec.ofInt IntKind.i64.bits 3).toNat≤3:=by
  rw [BitVec.toNat_and]
  exact Nat.le_trans Nat.and_le_right (by decide)
 unfold andI
 rw [wrap_i64 (by omega)]
 omega
theorem rends_ok {a b:Cel} (hP:∀ r:Bool,(r=true↔endsP a b)→P (.c (.bool r)) h):callW N (k+1) 219 [.agg (encE a),.agg (encE b)] h P:=by
 have he:∀ x:Cel,encE x=[.int .i64 x.f,.int .i64 x.s,.int .i64 x.c,.int .i64 x.o,.int .i64 x.p]:=fun _=>rfl
 unfold endsP at hP
 have bX:=andI3 a.o
 have bY:=andI3 b.o
 generalize hX:andI a.o 3=X at *
 generalize hY:andI b.o 3=Y at *
 have w:=wrap_i64 (n:=X+Y) (by omega)
 refine call_intro rfl (by simp only [List.length_cons,List.length_nil];omega) ?_
 by_cases c1:X+Y=3
 ·have c1':decide (X+Y=3)=true:=decide_eq_true c1
  have c2:¬X=Y:=by omega
  by_cases c3:X=1
  ·have c3':decide (X=1)=true:=decide_eq_true c3
   simp -implicitDefEqProofs only [KK,eq_self,↓reduceIte,reduceLT,reduceEqDiff,reduceAdd,reduceCtorEq,he,andI_fold,hX,hY,w,c1',c2,c3']
   exact hP _ (by simp;omega)
  ·by_cases c4:X=2
   ·have c4':decide (X=2)=true:=decide_eq_true c4
    simp -implicitDefEqProofs only [KK,eq_self,↓reduceIte,reduceLT,reduceEqDiff,reduceAdd,reduceCtorEq,he,andI_fold,hX,hY,w,c1',c2,c3,c4']
    exact hP _ (by simp;omega)
   ·simp -implicitDefEqProofs only [KK,eq_self,↓reduceIte,reduceLT,reduceEqDiff,reduceAdd,reduceCtorEq,he,andI_fold,hX,hY,w,c1',c2,c3,c4]
    exact hP _ (by simp;omega)
 ·simp -implicitDefEqProofs only [KK,eq_self,↓reduceIte,reduceLT,reduceEqDiff,reduceAdd,reduceCtorEq,he,andI_fold,hX,hY,w,c1]
  exact hP _ (by simp;omega)
theorem rclash_ok {a b:Cel} {x y:Int} (hP:P (.c (.bool (decide (clashP a b x y)))) h):callW N (k+3) 216 [.agg (encE a),.agg (encE b),.c (.int .i64 x),.c (.int .i64 y)] h P:=by
 have he:∀ x:Cel,encE x=[.int .i64 x.f,.int .i64 x.s,.int .i64 x.c,.int .i64 x.o,.int .i64 x.p]:=fun _=>rfl
 have yes:clashP a b x y→P (.c (.bool true)) h:=fun hc=>by rwa [decide_eq_true hc] at hP
 have no:¬clashP a b x y→P (.c (.bool false)) h:=fun hc=>by rwa [decide_eq_false hc] at hP
 refine call_intro rfl (by simp only [List.length_cons,List.length_nil];omega) ?_
 simp -implicitDefEqProofs only [KK,eq_self,↓reduceIte,reduceLT,reduceEqDiff,reduceAdd,reduceCtorEq,he]
 refine rmayc_ok (k:=k) (x:=a) ?_
 by_cases m1:mayC a
 rotate_left
 ·simp -implicitDefEqProofs only [KK,eq_self,↓reduceIte,reduceLT,reduceEqDiff,reduceAdd,m1]
  exact yes (.inl fun e=>m1 e.1)
 simp -implicitDefEqProofs only [KK,eq_self,↓reduceIte,reduceLT,reduceEqDiff,reduceAdd,m1]
 refine rmayc_ok (k:=k) (x:=b) ?_
 by_cases m2:mayC b
 rotate_left
 ·simp -implicitDefEqProofs only [KK,eq_self,↓reduceIte,reduceLT,reduceEqDiff,reduceAdd,m2]
  exact yes (.inl fun e=>m2 e.2.1)
 simp -implicitDefEqProofs only [KK,eq_self,↓reduceIte,reduceLT,reduceEqDiff,m2]
 refine node44_ok ?_
 by_cases m3:nodeP x
 rotate_left
 ·simp -implicitDefEqProofs only [KK,eq_self,↓reduceIte,reduceLT,reduceEqDiff,reduceAdd,m3]
  exact yes (.inl fun e=>m3 e.2.2.1)
 simp -implicitDefEqProofs only [KK,eq_self,↓reduceIte,reduceLT,reduceEqDiff,m3]
 refine node44_ok ?_
 by_cases m4:nodeP y
 rotate_left
 ·simp -implicitDefEqProofs only [KK,eq_self,↓reduceIte,reduceLT,reduceEqDiff,reduceAdd,m4]
  exact yes (.inl fun e=>m4 e.2.2.2)
 have mm:¬¬(mayC a∧mayC b∧nodeP x∧nodeP y):=fun e=>e ⟨m1,m2,m3,m4⟩
 by_cases t1:a.f=b.f
 rotate_left
 ·simp -implicitDefEqProofs only [KK,eq_self,↓reduceIte,reduceLT,reduceEqDiff,reduceAdd,m4,t1]
  exact no (fun e=>e.elim mm fun e=>t1 e.1.1)
 have t1':decide (a.f=b.f)=true:=decide_eq_true t1
 by_cases t2:a.s=b.s
 rotate_left
 ·simp -implicitDefEqProofs only [KK,eq_self,↓reduceIte,reduceLT,reduceEqDiff,reduceAdd,m4,t1',t2]
  exact no (fun e=>e.elim mm fun e=>t2 e.1.2)
 have t2':decide (a.s=b.s)=true:=decide_eq_true t2
 by_cases e1:x=y
 ·have e1':decide (x=y)=true:=decide_eq_true e1
  simp -implicitDefEqProofs only [KK,eq_self,↓reduceIte,reduceLT,reduceEqDiff,reduceAdd,m4,t1',t2',e1']
  exact yes (.inr ⟨⟨t1,t2⟩,.inl e1⟩)
 have cl:¬linkP a b x y→(a.c=b.c∨x=b.p∨y=a.p∨(a.p=b.p∧¬a.p=64))→clashP a b x y:=fun h1 h2=>.inr ⟨⟨t1,t2⟩,.inr ⟨h1,h2⟩⟩
 by_cases e3:a.p=y
 ·have e3':decide (a.p=y)=true:=decide_eq_true e3
  by_cases e4:b.p=x
  ·have e4':decide (b.p=x)=true:=decide_eq_true e4
   by_cases e2:a.c=b.c
   ·have e2':decide (a.c=b.c)=true:=decide_eq_true e2
    simp -implicitDefEqProofs only [KK,eq_self,↓reduceIte,reduceLT,reduceEqDiff,reduceAdd,m4,t1',t2',e1,e3',e4',e2']
    refine rends_ok (k:=k+1) (a:=a) (b:=b) fun r hr=>?_
    cases r with
    | true=>
     simp -implicitDefEqProofs only [KK,eq_self,↓reduceIte,reduceLT,reduceEqDiff,reduceAdd]
     exact no (fun e=>e.elim mm fun e=>e.2.elim e1 fun e=>e.1 ⟨e3,e4,e2,hr.mp rfl⟩)
    | false=>
     simp -implicitDefEqProofs only [KK,eq_self,↓reduceIte,reduceLT,reduceEqDiff,reduceAdd,e1,e2']
     exact yes (cl (fun e=>by have:=hr.mpr e.2.2.2;cases this) (.inl e2))
   ·simp -implicitDefEqProofs only [KK,eq_self,↓reduceIte,reduceLT,reduceEqDiff,reduceAdd,m4,t1',t2',e1,e3',e4',e2]
    exact yes (cl (fun e=>e2 e.2.2.1) (.inr (.inr (.inl e3.symm))))
  ·by_cases e2:a.c=b.c
   ·have e2':decide (a.c=b.c)=true:=decide_eq_true e2
    simp -implicitDefEqProofs only [KK,eq_self,↓reduceIte,reduceLT,reduceEqDiff,reduceAdd,m4,t1',t2',e1,e3',e4,e2']
    exact yes (cl (fun e=>e4 e.2.1) (.inl e2))
   ·simp -implicitDefEqProofs only [KK,eq_self,↓reduceIte,reduceLT,reduceEqDiff,reduceAdd,m4,t1',t2',e1,e3',e4,e2]
    exact yes (cl (fun e=>e4 e.2.1) (.inr (.inr (.inl e3.symm))))
 ·have nl:¬linkP a b x y:=fun e=>e3 e.1
  by_cases e2:a.c=b.c
  ·have e2':decide (a.c=b.c)=true:=decide_eq_true e2
   simp -implicitDefEqProofs only [KK,eq_self,↓reduceIte,reduceLT,reduceEqDiff,reduceAdd,m4,t1',t2',e1,e3,e2']
   exact yes (cl nl (.inl e2))
  ·by_cases e4:b.p=x
   ·have e4':decide (b.p=x)=true:=decide_eq_true e4
    simp -implicitDefEqProofs only [KK,eq_self,↓reduceIte,reduceLT,reduceEqDiff,reduceAdd,m4,t1',t2',e1,e3,e2,e4']
    exact yes (cl nl (.inr (.inl e4.symm)))
   ·by_cases e5:a.p=b.p
    ·have e5':decide (a.p=b.p)=true:=decide_eq_true e5
     by_cases e6:a.p=64
     ·have e6':decide (a.p=64)=true:=decide_eq_true e6
      simp -implicitDefEqProofs only [KK,eq_self,↓reduceIte,reduceLT,reduceEqDiff,reduceAdd,m4,t1',t2',e1,e3,e2,e4,e5',e6']
      exact no (fun e=>e.elim mm fun e=>e.2.elim e1 fun e=>e.2.elim e2 fun e=>e.elim (fun e=>e4 e.symm) fun e=>e.elim (fun e=>e3 e.symm) fun e=>e.2 e6)
     ·simp -implicitDefEqProofs only [KK,eq_self,↓reduceIte,reduceLT,reduceEqDiff,reduceAdd,m4,t1',t2',e1,e3,e2,e4,e5',e6]
      exact yes (cl nl (.inr (.inr (.inr ⟨e5,e6⟩))))
    ·simp -implicitDefEqProofs only [KK,eq_self,↓reduceIte,reduceLT,reduceEqDiff,reduceAdd,m4,t1',t2',e1,e3,e2,e4,e5]
     exact no (fun e=>e.elim mm fun e=>e.2.elim e1 fun e=>e.2.elim e2 fun e=>e.elim (fun e=>e4 e.symm) fun e=>e.elim (fun e=>e3 e.symm) fun e=>e5 e.1)
end
end
section
set_option maxHeartbeats 2000000
def rt (R:Nat→Int) (V:Nat→CV):List CV:=(List.range 32).map fun i=>if i<16 then CV.int .i64 (R i) else V (i-16)
theorem rt_len (R:Nat→Int) (V:Nat→CV):(rt R V).length=32:=by simp [rt]
theorem rt_r (R:Nat→Int) (V:Nat→CV) {a:Nat} (h:a<16):(rt R V)[a * 1]? = some (.int .i64 (R a)):=by
 rw [Nat.mul_one,rt,List.getElem?_map,List.getElem?_range (by omega),Option.map_some,if_pos h]
theorem rt_v (R:Nat→Int) (V:Nat→CV) {a:Nat} (h:a<16):(rt R V)[16+a * 1]? = some (V a):=by
 rw [Nat.mul_one,rt,List.getElem?_map,List.getElem?_range (by omega),Option.map_some,if_neg (by omega)]
 congr 2
 omega
theorem rt_set {R R':Nat→Int} {V V':Nat→CV} {i:Nat} {x:CV} (h:i<32) (hx:x=if i<16 then CV.int .i64 (R' i) else V' (i-16)) (h1:∀ j,j<16→j≠i→R' j=R j) (h2:∀ j,j<16→j+16≠i→V' j=V j) :
 (rt R V).take i++x::(rt R V).drop (i+1)=rt R' V':=by
 have hl:=rt_len R V
 apply List.ext_getElem?
 intro j
 rcases Nat.lt_trichotomy j i with k|k|k
 ·rw [List.getElem?_append_left (by rw [List.length_take];omega),List.getElem?_take,if_pos k]
  unfold rt
  rw [List.getElem?_map,List.getElem?_map,List.getElem?_range (by omega),Option.map_some,Option.map_some]
  split
  ·rw [h1 j (by omega) (by omega)]
  ·rw [h2 (j-16) (by omega) (by omega)]
 ·subst k
  rw [List.getElem?_append_right (by rw [List.length_take];omega),List.length_take,show j-min j (rt R V).length=0 by omega,List.getElem?_cons_zero,hx,rt,List.getElem?_map,List.getElem?_range (by omega),Option.map_some]
 ·rw [List.getElem?_append_right (by rw [List.length_take];omega),List.length_take,show j-min i (rt R V).length=(j-i-1)+1 by omega,List.getElem?_cons_succ,List.getElem?_drop,show i+1+(j-i-1)=j by omega]
  unfold rt
  rw [List.getElem?_map,List.getElem?_map]
  by_cases hj:j<32
  ·rw [List.getElem?_range hj,Option.map_some,Option.map_some]
   split
   ·rw [h1 j (by omega) (by omega)]
   ·rw [h2 (j-16) (by omega) (by omega)]
  ·rw [List.getElem?_eq_none (by simp;omega)]
   rfl
def RTr (h:Hp) (r:Nat) (R:Nat→Int) (V:Nat→CV):Prop:=h.g r=some (.rows true 32 0 0 [rt R V])
theorem RTr.put {h:Hp} {r:Nat} {R R':Nat→Int} {V V':Nat→CV} {L:List CV} (k:RTr h r R V) (e:L=rt R' V'):RTr (h.put r (.rows true 32 0 0 [L])) r R' V':=by
 have kk:h.g r=_:=k
 unfold RTr
 rw [g_put_eq,kk,e]
 rfl
def enc:Option Nat→Int
 | some r=>r
 | none=>-1
structure RTf (h:Hp) (r:Nat) (f:Int→Option Nat) (par:Int→List Int) (R:Nat→Int) (V:Nat→CV):Prop where
 t:RTr h r R V
 e:∀ b:Nat,b<16→R b=enc (f b)
 v:∀ b:Nat,b<16→SL h 1 (V b) (rI (par b))
theorem RTf.new {h h':Hp} {r:Nat} {f:Int→Option Nat} {par:Int→List Int} {R:Nat→Int} {V:Nat→CV} (k:RTf h r f par R V) (fr:Fn h h'):RTf h' r f par R V:=⟨fr.some k.t (fun h=>h),k.e,fun b hb=>(k.v b hb).new fr⟩
section
variable {k r:Nat} {f:Int→Option Nat} {par:Int→List Int} {R:Nat→Int} {V:Nat→CV} {h:Hp} {P:AV→Hp→Prop}
theorem iaR {id:Nat} {i:Int} (h:0≤i∧i<16) (off:Nat):iaddrAV 16 1 (.v (.c (.ptr id 0 0 off))) i=some (.v (.c (.ptr id 0 0 (off+i.toNat * 1)))):=iaA_pt (n:=16) (sz:=1) (by omega)
def upto (p:Nat→Bool) (i:Nat):List Int:=((List.range i).filter p).map fun b:Nat=>(b:Int)
theorem upto_succ (p:Nat→Bool) (i:Nat):upto p (i+1)=upto p i++(if p i=true then [(i:Int)] else []):=by
 unfold upto
 rw [List.range_succ,List.filter_append,List.map_append]
 by_cases e:p i=true
 ·simp [e]
 ·simp [e]
theorem upto_len (p:Nat→Bool) (i:Nat):(upto p i).length≤i:=by
 have:=List.length_filter_le p (List.range i)
 rw [List.length_range] at this
 unfold upto
 rw [List.length_map]
 exact this
theorem upto_asc (p:Nat→Bool) (i:Nat):(upto p i).Pairwise (· < ·):=by
 unfold upto
 rw [List.pairwise_map]
 exact (List.Pairwise.filter _ List.pairwise_lt_range).imp fun h=>by omega
theorem mem_upto {p:Nat→Bool} {i:Nat} {x:Int}:x∈upto p i↔0≤x∧x<i∧p x.toNat=true:=by
 unfold upto
 rw [List.mem_map]
 constructor
 ·rintro ⟨b,hb,rfl⟩
  rw [List.mem_filter,List.mem_range] at hb
  exact ⟨by omega,by omega,by simpa using hb.2⟩
 ·rintro ⟨h1,h2,h3⟩
  exact ⟨x.toNat,by rw [List.mem_filter,List.mem_range];exact ⟨by omega,h3⟩,by omega⟩
theorem range16 (g:Nat→CV) {i:Nat} (h:i<16):((List.range 16).map g)[i]? = some (g i):=by
 rw [List.getElem?_map,List.getElem?_range h]
 rfl
def oL (R:Nat→Int):Nat→List Int
 | 0=>[]
 | d+1=>oL R d++upto (fun b=>decide (R b=d)) 16
theorem oL_len (R:Nat→Int):∀ d,(oL R d).length≤d * 16
 | 0=>Nat.le_refl _
 | d+1=>by
  have h1:=oL_len R d
  have h2:=upto_len (fun b=>decide (R b=d)) 16
  rw [oL,List.length_append]
  omega
def RoA (h:Hp) (r:Nat) (R:Nat→Int) (m:Nat) (s:St):Prop:=
 ∃ (d:Nat) (w:CV) (h':Hp) (l:List (Nat × TV)) (lc:List (List CV)),s=ST 28 l lc h'∧d≤16∧m=16-d∧Ow h' 1 w (rI (oL R d))∧Fn h h'∧(∀ j,ownId w j→h.n≤j)∧
  lk l 0 = .v (.c (.ptr r 0 0 0))∧lk l 3 = .v (.c w)∧lk l 7 = .v (.c (.int .i64 d))
def RoB (h:Hp) (r:Nat) (R:Nat→Int) (d:Nat) (m:Nat) (s:St):Prop:=
 ∃ (i:Nat) (w:CV) (h':Hp) (l:List (Nat × TV)) (lc:List (List CV)),s=ST 28 l lc h'∧i≤16∧m=16-i∧Ow h' 1 w (rI (oL R d++upto (fun b=>decide (R b=d)) i))∧Fn h h'∧(∀ j,ownId w j→h.n≤j)∧
  lk l 0 = .v (.c (.ptr r 0 0 0))∧lk l 3 = .v (.c w)∧lk l 4 = .v (.c (.int .i64 d))∧lk l 7 = .v (.c (.int .i64 d))∧lk l 13 = .v (.agg ((List.range 16).map fun b=>CV.int .i64 (R b)))∧lk l 14 = .v (.c (.int .i64 i))
theorem rorder_ok (hR:RTf h r f par R V) (hP:∀ h' v,SL h' 1 v (rI (oL R 16))→Fn h h'→P (.c v) h'):callW N (k+1) 238 [.c (.ptr r 0 0 0)] h P:=by
 have htk:(rt R V).take 16=(List.range 16).map fun b=>CV.int .i64 (R b):=by
  apply List.ext_getElem?
  intro j
  rw [List.getElem?_take]
  unfold rt
  rw [List.getElem?_map,List.getElem?_map]
  by_cases hj:j<16
  ·rw [if_pos hj,List.getElem?_range (by omega),List.getElem?_range hj,Option.map_some,Option.map_some,if_pos hj]
  ·rw [if_neg hj,List.getElem?_eq_none (l:=List.range 16) (by simp;omega)]
   rfl
 have hln:=rt_len R V
 refine call_intro rfl (by simp only [List.length_cons,List.length_nil];omega) ?_
 simp -implicitDefEqProofs only [KK,eq_self,↓reduceIte,reduceLT,reduceEqDiff,reduceCtorEq]
 refine loop_rd (callW_mono N _) (RoA h r R) (n:=16) ⟨0,.nils,h,_,_,rfl,by omega,rfl,rfl,Fm.refl _ _,(fun j e=>e.elim),rfl,rfl,rfl⟩ ?_
 rintro m s ⟨d,w,h1,l,lc,rfl,hd,hm,hw,f1,hid,e0,e3,e7⟩
 by_cases hlt:(d:Int)<16
 ·have hg:h1.g r=_:=(hR.new f1).t
  have hwd:=wrap_i64 (n:=(d:Int)+1) (by omega)
  simp -implicitDefEqProofs only [KK,eq_self,↓reduceIte,reduceLT,reduceEqDiff,reduceLeDiff,reduceCtorEq,e0,e3,e7,hlt,hg,hln,htk]
  refine loop_rd (callW_mono N _) (RoB h r R d) (n:=16) ⟨0,w,h1,_,_,rfl,by omega,rfl,by simpa [upto] using hw,f1,hid,rfl,rfl,rfl,rfl,?_,rfl⟩ ?_
  ·first
   | rfl
   | (simp only [lk_cons,lk_nil,List.take_of_length_le (show ((List.range 16).map fun b=>CV.int .i64 (R b)).length≤16 by simp)];rfl)
  clear hw f1 hid e0 e3 e7 hg
  rintro m2 s ⟨i,w,h1,l,lc,rfl,hi,hm2,hw,f1,hid,e0,e3,e4,e7,e13,e14⟩
  by_cases hlt2:(i:Int)<16
  ·have hx0:(0:Int)≤i:=by omega
   have hx1:(i:Int)<((16:Nat):Int):=by omega
   have hx2:((List.range 16).map fun b=>CV.int .i64 (R b))[((i:Int)).toNat * 1]? = some (.int .i64 (R i)):=by rw [Int.toNat_natCast,Nat.mul_one,range16 _ (by omega)]
   have hwi:=wrap_i64 (n:=(i:Int)+1) (by omega)
   have hus:=upto_succ (fun b=>decide (R b=(d:Int))) i
   by_cases c:R i=d
   ·obtain ⟨w',h2,q1,q2,q3,q4⟩:=hw.app (lc:=[[.int .i64 (i:Int)]]) (x:=.lsl 0 1) (xs:=[[.int .i64 (i:Int)]]) rfl (by simp) (bytes:=8) (by
     have:=upto_len (fun b=>decide (R b=(d:Int))) i
     have:=oL_len R d
     rw [rI_len,List.length_append]
     simp only [room,List.length_singleton]
     omega)
    have hc:decide (R i=(d:Int))=true:=decide_eq_true c
    simp -implicitDefEqProofs only [KK,eq_self,↓reduceIte,reduceLT,reduceEqDiff,reduceCtorEq,e0,e3,e4,e7,e13,e14,hlt2,hx0,hx1,hx2,hc,q1,hwi,rd_n]
    refine ⟨m2-1,by omega,i+1,w',h2,_,_,rfl,by omega,by omega,?_,f1.fresh q3 hid,(fun j hj=>(q4 j hj).elim (hid j) (fun e=>by have:=f1.n;omega)),rfl,rfl,rfl,rfl,rfl,rfl⟩
    rw [hus,if_pos hc,←List.append_assoc]
    simpa [rI] using q2
   ·simp -implicitDefEqProofs only [KK,eq_self,↓reduceIte,reduceLT,reduceEqDiff,reduceCtorEq,e0,e3,e4,e7,e13,e14,hlt2,hx0,hx1,hx2,c,hwi,rd_n]
    refine ⟨m2-1,by omega,i+1,w,h1,_,_,rfl,by omega,by omega,?_,f1,hid,rfl,rfl,rfl,rfl,rfl,rfl⟩
    rw [hus,if_neg (by rw [decide_eq_true_eq];exact c),List.append_nil]
    exact hw
  ·have:i=16:=by omega
   subst this
   simp -implicitDefEqProofs only [KK,eq_self,↓reduceIte,reduceLT,reduceEqDiff,reduceCtorEq,e0,e3,e4,e7,e13,e14,hlt2,hwd,rd_n]
   exact ⟨m-1,by omega,d+1,w,h1,_,_,rfl,by omega,by omega,hw,f1,hid,rfl,rfl,rfl⟩
 ·have:d=16:=by omega
  subst this
  simp -implicitDefEqProofs only [KK,eq_self,↓reduceIte,reduceLT,reduceEqDiff,reduceCtorEq,e0,e3,e7,hlt]
  exact hP _ _ hw.sl f1
end
end
section
set_option maxHeartbeats 2000000
theorem take_two {b:Int} {A:List Int} (h:(A.take 2).length<2):(A++[b]).take 2=A.take 2++[b]:=by
 match A,h with
 | [],_=>rfl
 | [x],_=>rfl
 | x::y::l,h=>simp at h
theorem take_two' {b:Int} {A:List Int} (h:¬(A.take 2).length<2):(A++[b]).take 2=A.take 2:=by
 match A,h with
 | [],h=>simp at h
 | [x],h=>simp at h
 | x::y::l,h=>rfl
section
variable {k r g:Nat} {nn:Nat} {q:Int→Int→Option Int} {Q:Nat→Nat→Int} {least:Int} {f:Int→Option Nat} {R:Nat→Int} {V:Nat→CV} {h:Hp} {P:AV→Hp→Prop}
def cnd (q:Int→Int→Option Int) (f:Int→Option Nat) (n:Int) (c:Nat) (b:Int):Bool:=decide (qual q n b=255-(c:Int)) && below (f b) (f n)
theorem bestQ_near (n:Int) (c:Nat):bestQ q least nn f n (c+1)=bestQ q least nn f n c++(nearL q n least nn).filter (cnd q f n c):=by
 rw [bestQ,cand,List.filter_filter]
 rfl
def RqA (h:Hp) (g r:Nat) (nn:Nat) (q:Int→Int→Option Int) (least n:Int) (f:Int→Option Nat) (m:Nat) (s:St):Prop:=
 ∃ (c:Nat) (w:CV) (h':Hp) (l:List (Nat × TV)) (lc:List (List CV)),s=ST 59 l lc h'∧c≤255∧m=255-c∧Ow h' 1 w (rI ((bestQ q least nn f n c).take 2))∧Fn h h'∧(∀ j,ownId w j→h.n≤j)∧
  lk l 0 = .v (.c (.ptr g 0 0 0))∧lk l 1 = .v (.c (.ptr r 0 0 0))∧lk l 2 = .v (.c (.int .i64 n))∧lk l 3 = .v (.c (.int .i64 least))∧lk l 9 = .v (.c w)∧lk l 10 = .v (.c (.int .i64 (255-(c:Int))))
def RqB (h:Hp) (g r:Nat) (nn:Nat) (q:Int→Int→Option Int) (least n:Int) (f:Int→Option Nat) (c:Nat) (v:CV) (m:Nat) (s:St):Prop:=
 ∃ (i:Nat) (w:CV) (h':Hp) (l:List (Nat × TV)) (lc:List (List CV)),s=ST 59 l lc h'∧i≤(nearL q n least nn).length∧m=(nearL q n least nn).length-i∧Ow h' 1 w (rI ((bestQ q least nn f n c++((nearL q n least nn).take i).filter (cnd q f n c)).take 2))∧Fn h h'∧(∀ j,ownId w j→h.n≤j)∧SL h' 1 v (rI (nearL q n least nn))∧(∀ j,ownId v j→¬ownId w j∧j<h'.n)∧
  lk l 0 = .v (.c (.ptr g 0 0 0))∧lk l 1 = .v (.c (.ptr r 0 0 0))∧lk l 2 = .v (.c (.int .i64 n))∧lk l 3 = .v (.c (.int .i64 least))∧lk l 9 = .v (.c w)∧lk l 10 = .v (.c (.int .i64 (255-(c:Int))))∧
  lk l 20 = .v (.c v)∧lk l 21 = .v (.c (.int .i64 (nearL q n least nn).length))∧lk l 22 = .v (.c (.int .i64 i))
theorem rpar_ok {n:Int} {x:Nat} (hg:RG h g nn Q) (hRl:Rl nn q Q) (hnn:nn≤16) (hT:RTr h r R V) (he:∀ b:Nat,b<16→R b=enc (f b)) (hn:0≤n∧n<nn) (hf:f n=some (x+1)) (hx:x<1000)
 (hP:∀ h' v,SL h' 1 v (rI (fol q least nn f n))→Fn h h'→P (.c v) h'):callW N (k+4) 244 [.c (.ptr g 0 0 0),.c (.ptr r 0 0 0),.c (.int .i64 n),.c (.int .i64 least)] h P:=by
 refine call_intro rfl (by simp only [List.length_cons,List.length_nil];omega) ?_
 simp -implicitDefEqProofs only [KK,eq_self,↓reduceIte,reduceLT,reduceEqDiff,reduceAdd,reduceCtorEq]
 refine loop_rd (callW_mono N _) (RqA h g r nn q least n f) (n:=255) ⟨0,.nils,h,_,_,rfl,by omega,rfl,rfl,Fm.refl _ _,(fun j e=>e.elim),rfl,rfl,rfl,rfl,rfl,rfl⟩ ?_
 rintro m s ⟨c,w,h1,l,lc,rfl,hc,hm,hw,f1,hid,e0,e1,e2,e3,e9,e10⟩
 by_cases hlt:(1:Int)≤255-(c:Int)
 ·have hwc:IntKind.i64.wrap (255-(c:Int)-1)=255-((c+1:Nat):Int):=by rw [wrap_i64 (by omega)];omega
  simp -implicitDefEqProofs only [KK,eq_self,↓reduceIte,reduceLT,reduceEqDiff,reduceCtorEq,e0,e1,e2,e3,e9,e10,hlt]
  refine rnear_ok (k:=k) (hg.new f1) (by omega) fun v h2 hno f2 hvid=>?_
  rw [hRl.near,Int.toNat_natCast] at hno
  have hN:(nearL q n least nn).length≤nn:=nearL_len q n least nn
  have hlen:∀ h':Hp,lenT h' .sl (.v (.c v))=some ((nearL q n least nn).length:Int):=fun h'=>by rw [hno.sl.len h',rI_len]
  simp -implicitDefEqProofs only [KK,eq_self,↓reduceIte,reduceLT,reduceEqDiff,reduceCtorEq,hlen]
  refine loop_rd (callW_mono N _) (RqB h g r nn q least n f c v) (n:=(nearL q n least nn).length) ⟨0,w,h2,_,_,rfl,by omega,by omega,by simpa using hw.mono f2 (fun _ _ e=>e),f1.trans f2,hid,hno.sl,?_,rfl,rfl,rfl,rfl,rfl,rfl,rfl,rfl,rfl⟩ ?_
  ·intro j hj
   refine ⟨fun e=>?_,?_⟩
   ·have:=hvid j hj
    have:=hw.lt e
    omega
   ·cases v <;> simp only [ownId] at hj
    subst hj
    exact SL.old hno.sl _ _ _ _ _ rfl
  clear hw f1 hid e0 e1 e2 e3 e9 e10 hno f2 hvid
  rintro m2 s ⟨i,w,h1,l,lc,rfl,hi,hm2,hw,f1,hid,hv,hne,e0,e1,e2,e3,e9,e10,e20,e21,e22⟩
  by_cases hlt2:(i:Int)<((nearL q n least nn).length:Int)
  ·have hil:i<(nearL q n least nn).length:=by omega
   obtain ⟨b,hb⟩:=some_at (L:=nearL q n least nn) (i:=i) hil
   have hbm:b∈nr q least nn n:=List.mem_of_getElem? hb
   have hbr:=(mem_nr.mp hbm).1
   have hrow:(rI (nearL q n least nn))[(i:Int).toNat]? = some [.int .i64 b]:=by simp [rI,hb]
   obtain ⟨p1,p2,p3,a1,a2⟩:=hv.at (by omega) hrow
   have hwi:=wrap_i64 (n:=(i:Int)+1) (by omega)
   have hts:=take_snoc hb
   have hgg:h1.g r=_:=f1.some hT (fun h=>h)
   have i1:=iaR (id:=r) (i:=b) (by omega) 0
   have i2:=iaR (id:=r) (i:=n) (by omega) 0
   have g1:=rt_r R V (a:=b.toNat) (by omega)
   have g2:=rt_r R V (a:=n.toNat) (by omega)
   have r1:=he b.toNat (by omega)
   have r2:=he n.toNat (by omega)
   rw [show ((b.toNat:Nat):Int)=b by omega] at r1
   rw [show ((n.toNat:Nat):Int)=n by omega,hf] at r2
   have r3:R n.toNat=((x+1:Nat):Int):=r2
   rw [r3] at g2
   have hwx:IntKind.i64.wrap (((x+1:Nat):Int)-1)=(x:Int):=by rw [wrap_i64 (by omega)];omega
   have hbel:below (f b) (f n)=decide (R b.toNat=(x:Int)):=by
    rw [r1,hf,Bool.eq_iff_iff,decide_eq_true_eq]
    cases hb:f b with
    | none=>simp [below,enc]
    | some y=>simp [below,enc];omega
   have hwl:∀ h':Hp,lenT h' .sl (.v (.c w))=some (((bestQ q least nn f n c++((nearL q n least nn).take i).filter (cnd q f n c)).take 2).length:Int):=fun h'=>by rw [hw.sl.len h',rI_len]
   generalize hA:bestQ q least nn f n c++((nearL q n least nn).take i).filter (cnd q f n c)=A at hw hwl
   have hA':bestQ q least nn f n c++((nearL q n least nn).take (i+1)).filter (cnd q f n c)=A++(if cnd q f n c b=true then [b] else []):=by
    rw [hts,List.filter_append,←List.append_assoc,hA]
    congr 1
    by_cases e:cnd q f n c b=true <;> simp [e]
   have key:∀ (l:List (Nat × TV)) (lc:List (List CV)),cnd q f n c b=false→lk l 0 = .v (.c (.ptr g 0 0 0))→lk l 1 = .v (.c (.ptr r 0 0 0))→lk l 2 = .v (.c (.int .i64 n))→lk l 3 = .v (.c (.int .i64 least))→lk l 9 = .v (.c w)→lk l 10 = .v (.c (.int .i64 (255-(c:Int))))→
    lk l 20 = .v (.c v)→lk l 21 = .v (.c (.int .i64 (nearL q n least nn).length))→lk l 22 = .v (.c (.int .i64 ((i:Int)+1)))→∃ m,m<m2∧RqB h g r nn q least n f c v m (ST 59 l lc h1):=by
    intro l lc hcn k0 k1 k2 k3 k9 k10 k20 k21 k22
    refine ⟨m2-1,by omega,i+1,w,h1,l,lc,rfl,by omega,by omega,?_,f1,hid,hv,hne,k0,k1,k2,k3,k9,k10,k20,k21,k22⟩
    rw [hA',hcn,if_neg (by simp),List.append_nil]
    exact hw
   by_cases c1:R b.toNat=(x:Int)
   ·have d1:decide (R b.toNat=(x:Int))=true:=decide_eq_true c1
    simp -implicitDefEqProofs only [KK,eq_self,↓reduceIte,reduceLT,reduceEqDiff,reduceCtorEq,e0,e1,e2,e3,e9,e10,e20,e21,e22,hlt2,a1,a2,hgg,i1,i2,g1,g2,hwx,d1]
    refine rqual_ok (k:=k+1) (hg.new f1) (by omega) ?_
    rw [hRl.qual]
    by_cases c2:qual q n b=255-(c:Int)
    ·have d2:decide (qual q n b=255-(c:Int))=true:=decide_eq_true c2
     have hcn:cnd q f n c b=true:=by unfold cnd;rw [d2,hbel,d1];rfl
     rw [hcn,if_pos rfl] at hA'
     by_cases c3:((A.take 2).length:Int)<2
     ·obtain ⟨w',h2,q1,q2,q3,q4⟩:=hw.app (lc:=[[.int .i64 b]]) (x:=.lsl 0 1) (xs:=[[.int .i64 b]]) rfl (by simp) (bytes:=8) (by
       rw [rI_len]
       simp only [room,List.length_singleton]
       omega)
      simp -implicitDefEqProofs only [KK,eq_self,↓reduceIte,reduceLT,reduceEqDiff,reduceCtorEq,d2,hwl,c3,q1,hwi,rd_n]
      refine ⟨m2-1,by omega,i+1,w',h2,_,_,rfl,by omega,by omega,?_,f1.fresh q3 hid,(fun j hj=>(q4 j hj).elim (hid j) (fun e=>by have:=f1.n;omega)),hv.mono q3 ?_,?_,rfl,rfl,rfl,rfl,rfl,rfl,rfl,rfl,rfl⟩
      ·rw [hA',take_two (by omega)]
       simpa [rI] using q2
      ·rintro id tok off len cap rfl e
       exact (hne id rfl).1 e
      ·intro j hj
       refine ⟨fun e=>?_,by have:=(hne j hj).2;have:=q3.n;omega⟩
       rcases q4 j e with e|e
       ·exact (hne j hj).1 e
       ·have:=(hne j hj).2;omega
     ·simp -implicitDefEqProofs only [KK,eq_self,↓reduceIte,reduceLT,reduceEqDiff,reduceCtorEq,d2,hwl,c3,hwi,rd_n]
      refine ⟨m2-1,by omega,i+1,w,h1,_,_,rfl,by omega,by omega,?_,f1,hid,hv,hne,rfl,rfl,rfl,rfl,rfl,rfl,rfl,rfl,rfl⟩
      rw [hA',take_two' (by omega)]
      exact hw
    ·simp -implicitDefEqProofs only [KK,eq_self,↓reduceIte,reduceLT,reduceEqDiff,reduceCtorEq,c2,hwi,rd_n]
     exact key _ _ (by unfold cnd;rw [decide_eq_false c2];rfl) rfl rfl rfl rfl rfl rfl rfl rfl rfl
   ·simp -implicitDefEqProofs only [KK,eq_self,↓reduceIte,reduceLT,reduceEqDiff,reduceCtorEq,e0,e1,e2,e3,e9,e10,e20,e21,e22,hlt2,a1,a2,hgg,i1,i2,g1,g2,hwx,c1,hwi,rd_n]
    exact key _ _ (by unfold cnd;rw [hbel,decide_eq_false c1,Bool.and_false]) rfl rfl rfl rfl rfl rfl rfl rfl rfl
  ·have:i=(nearL q n least nn).length:=by omega
   subst this
   rw [List.take_length,←bestQ_near] at hw
   simp -implicitDefEqProofs only [KK,eq_self,↓reduceIte,reduceLT,reduceEqDiff,reduceCtorEq,e0,e1,e2,e3,e9,e10,e20,e21,e22,hlt2,hwc,rd_n]
   exact ⟨m-1,by omega,c+1,w,h1,_,_,rfl,by omega,by omega,hw,f1,hid,rfl,rfl,rfl,rfl,rfl,rfl⟩
 ·have:c=255:=by omega
  subst this
  simp -implicitDefEqProofs only [KK,eq_self,↓reduceIte,reduceLT,reduceEqDiff,reduceCtorEq,e0,e1,e2,e3,e9,e10,hlt]
  exact hP _ _ hw.sl f1
end
end
section
set_option maxHeartbeats 2000000
section
variable {k g:Nat} {nn:Nat} {q:Int→Int→Option Int} {Q:Nat→Nat→Int} {least:Int} {h:Hp} {P:AV→Hp→Prop}
def RbL (g r nn:Nat) (least:Int) (l:List (Nat × TV)):Prop:=
 lk l 0 = .v (.c (.ptr g 0 0 0))∧lk l 1 = .v (.c (.int .i64 least))∧lk l 5 = .v (.c (.ptr r 0 0 0))
def nl:Nat→CV:=fun _=>.nils
def RbZ (h:Hp) (g r nn:Nat) (least:Int) (m:Nat) (s:St):Prop:=
 ∃ (i:Nat) (h':Hp) (l:List (Nat × TV)) (lc:List (List CV)),s=ST 101 l lc h'∧i≤16∧m=16-i∧RTr h' r (fun b=>if b<i then -1 else 0) nl∧Fn h h'∧RbL g r nn least l∧lk l 14 = .v (.c (.int .i64 i))
def RbA (h:Hp) (g r nn:Nat) (q:Int→Int→Option Int) (least:Int) (m:Nat) (s:St):Prop:=
 ∃ (d:Nat) (h':Hp) (l:List (Nat × TV)) (lc:List (List CV)),s=ST 101 l lc h'∧d≤nn∧m=nn-d∧RTr h' r (fun b=>enc (dn q least nn d b)) nl∧Fn h h'∧RbL g r nn least l∧lk l 30 = .v (.c (.int .i64 nn))∧lk l 31 = .v (.c (.int .i64 d))
def lvb (q:Int→Int→Option Int) (least:Int) (nn d i:Nat):List Int:=(lv q least nn d).filter fun a=>decide (a<i)
def RbB (h:Hp) (g r nn:Nat) (q:Int→Int→Option Int) (least:Int) (d:Nat) (m:Nat) (s:St):Prop:=
 ∃ (i:Nat) (X:List Int) (h':Hp) (l:List (Nat × TV)) (lc:List (List CV)),s=ST 101 l lc h'∧i≤nn∧m=nn-i∧Nxt q least nn d (lvb q least nn d i) X∧RTr h' r (fun b=>enc (fX q least nn d X b)) nl∧Fn h h'∧RbL g r nn least l∧
  lk l 7 = .v (.c (.int .i64 d))∧lk l 30 = .v (.c (.int .i64 nn))∧lk l 31 = .v (.c (.int .i64 d))∧lk l 37 = .v (.c (.int .i64 nn))∧lk l 38 = .v (.c (.int .i64 i))
def RbC (h:Hp) (g r nn:Nat) (q:Int→Int→Option Int) (least:Int) (d i:Nat) (v:CV) (m:Nat) (s:St):Prop:=
 ∃ (j:Nat) (X:List Int) (h':Hp) (l:List (Nat × TV)) (lc:List (List CV)),s=ST 101 l lc h'∧j≤(nr q least nn i).length∧m=(nr q least nn i).length-j∧Nxt q least nn d (lvb q least nn d i) X∧(∀ b∈(nr q least nn i).take j,dn q least nn d b≠none∨b∈X)∧RTr h' r (fun b=>enc (fX q least nn d X b)) nl∧Fn h h'∧SL h' 1 v (rI (nr q least nn i))∧RbL g r nn least l∧
  lk l 7 = .v (.c (.int .i64 d))∧lk l 30 = .v (.c (.int .i64 nn))∧lk l 31 = .v (.c (.int .i64 d))∧lk l 37 = .v (.c (.int .i64 nn))∧lk l 38 = .v (.c (.int .i64 i))∧lk l 52 = .v (.c v)∧lk l 53 = .v (.c (.int .i64 (nr q least nn i).length))∧lk l 54 = .v (.c (.int .i64 j))
def RbD (h:Hp) (g r nn:Nat) (least:Int) (R:Nat→Int) (par:Int→List Int) (m:Nat) (s:St):Prop:=
 ∃ (i:Nat) (V:Nat→CV) (h':Hp) (l:List (Nat × TV)) (lc:List (List CV)),s=ST 101 l lc h'∧i≤nn∧m=nn-i∧RTr h' r R V∧(∀ b:Nat,b<16→SL h' 1 (V b) (rI (if b<i then par b else [])))∧Fn h h'∧RbL g r nn least l∧
  lk l 78 = .v (.c (.int .i64 nn))∧lk l 79 = .v (.c (.int .i64 i))
theorem SL.notR {h:Hp} {r:Nat} {R:Nat→Int} {V:Nat→CV} {v:CV} {rows:List (List CV)} (k:SL h 1 v rows) (hr:RTr h r R V):∀ id tok off len cap,v = .sl id tok off len cap→¬id=r:=by
 rintro id tok off len cap rfl rfl
 obtain ⟨wr,cur,lw,rs,h1,_⟩:=k
 have hr:h.g id=_:=hr
 rw [h1] at hr
 simp at hr
theorem lvb_succ_in {d i:Nat} {a:Int} (h:a∈lvb q least nn d (i+1)):a∈lvb q least nn d i∨a=i:=by
 unfold lvb at h ⊢
 rw [List.mem_filter,decide_eq_true_eq] at h ⊢
 rcases Int.lt_or_le a i with k|k
 ·exact .inl ⟨h.1,k⟩
 ·exact .inr (by omega)
theorem fX_self (hn:1≤nn) {d:Nat} {X:List Int} {i:Int} (h:enc (fX q least nn d X i)=(d:Int)):i∈lv q least nn d:=by
 rw [mem_lv hn]
 unfold fX at h
 cases hd:dn q least nn d i with
 | some r=>
  rw [hd] at h
  simp only [enc] at h
  congr 1
  omega
 | none=>
  rw [hd] at h
  simp only at h
  split at h
  ·simp only [enc] at h;omega
  ·simp only [enc] at h;omega
set_option maxRecDepth 100000 in
theorem rbuild_ok (hg:RG h g nn Q) (hRl:Rl nn q Q) (hnn:1≤nn∧nn≤16) (H:Falls q least nn (rk q least nn) (fol q least nn (rk q least nn)))
 (hP:∀ h' r R V,RTf h' r (rk q least nn) (fol q least nn (rk q least nn)) R V→Fn h h'→P (.c (.ptr r 0 0 0)) h'):callW N (k+6) 237 [.c (.ptr g 0 0 0),.c (.int .i64 least)] h P:=by
 have hgg:h.g g=_:=hg
 obtain ⟨r,hr⟩:∃ r,r=h.n:=⟨_,rfl⟩
 refine call_intro rfl (by simp only [List.length_cons,List.length_nil];omega) ?_
 simp -implicitDefEqProofs only [KK,eq_self,↓reduceIte,reduceLT,reduceEqDiff,reduceAdd,reduceCtorEq]
 refine loop_rd (callW_mono N _) (RbZ h g r nn least) (n:=16) ⟨0,_,_,_,rfl,by omega,rfl,by unfold RTr;rw [hr,g_push_eq];rfl,Fm.push _ _ _,⟨rfl,rfl,by rw [hr];rfl⟩,rfl⟩ ?_
 rintro m s ⟨i,h1,l,lc,rfl,hi,hm,hT,f1,⟨e0,e1,e5⟩,e14⟩
 have hgT:h1.g r=_:=hT
 by_cases hlt:(i:Int)<16
 ·have i1:=iaR (id:=r) (i:=(i:Int)) (by omega) 0
  have hwi:=wrap_i64 (n:=(i:Int)+1) (by omega)
  have st:=rt_set (R:=fun b=>if b<i then -1 else 0) (R':=fun b=>if b<i+1 then -1 else 0) (V:=nl) (V':=nl) (i:=(i:Int).toNat * 1) (x:=.int .i64 (-1)) (by omega) (by rw [if_pos (by omega),if_pos (by omega)]) (fun j hj hji=>by
   by_cases e:j<i
   ·rw [if_pos e,if_pos (by omega)]
   ·rw [if_neg e,if_neg (by omega)]) (fun j _ _=>rfl)
  have hln:=rt_len (fun b=>if b<i then -1 else 0) nl
  simp -implicitDefEqProofs only [KK,eq_self,↓reduceIte,reduceLT,reduceEqDiff,reduceLeDiff,reduceCtorEq,e0,e1,e5,e14,hlt,hgT,i1,hwi,rd_n,hln,st]
  refine ⟨by omega,m-1,by omega,i+1,_,_,_,rfl,by omega,by omega,RTr.put hT rfl,f1.fresh (Fm.put (S:=fun j=>j=r) _ _ rfl) (fun j hj=>by omega),⟨rfl,rfl,rfl⟩,rfl⟩
 ·have:i=16:=by omega
  subst this
  have i1:=iaR (id:=r) (i:=(0:Int)) (by omega) 0
  have st:=rt_set (R:=fun b=>if b<16 then -1 else 0) (R':=fun b=>enc (dn q least nn 0 b)) (V:=nl) (V':=nl) (i:=(0:Int).toNat * 1) (x:=.int .i64 0) (by decide) (by rw [if_pos (by decide)];rfl) (fun j hj hji=>by
   have:¬((j:Int)=0):=fun e=>hji (by omega)
   simp only [dn,if_pos hj,if_neg this]
   rfl) (fun j _ _=>rfl)
  have hln:=rt_len (fun b=>if b<16 then -1 else 0) nl
  obtain ⟨h2,hh2⟩:∃ h2,h2=h1.put r (.rows true 32 0 0 [rt (fun b=>enc (dn q least nn 0 b)) nl]):=⟨_,rfl⟩
  have hT2:RTr h2 r (fun b=>enc (dn q least nn 0 b)) nl:=by rw [hh2];exact RTr.put hT rfl
  have f2:Fn h h2:=by rw [hh2];exact f1.fresh (Fm.put (S:=fun j=>j=r) _ _ rfl) (fun j hj=>by omega)
  have hfold:=hh2.symm
  have hg2:h2.g g=_:=(hg.new f2)
  simp -implicitDefEqProofs only [KK,eq_self,↓reduceIte,reduceLT,reduceEqDiff,reduceLeDiff,reduceCtorEq,e0,e1,e5,e14,hlt,hgT,i1,hln,st,hfold,hg2]
  refine ⟨by decide,?_⟩
  refine loop_rd (callW_mono N _) (RbA h g r nn q least) (n:=nn) ⟨0,h2,_,_,rfl,by omega,rfl,hT2,f2,⟨rfl,rfl,rfl⟩,rfl,rfl⟩ ?_
  clear hT2 f2 hfold hg2 hh2 hgT hT f1 e0 e1 e5 e14 i1 st hlt
  rintro m1 s ⟨d,h1,l,lc,rfl,hd,hm1,hT,f1,⟨e0,e1,e5⟩,e30,e31⟩
  have hgg1:h1.g g=_:=hg.new f1
  by_cases hlt:(d:Int)<(nn:Int)
  ·have hwd:=wrap_i64 (n:=(d:Int)+1) (by omega)
   simp -implicitDefEqProofs only [KK,eq_self,↓reduceIte,reduceLT,reduceEqDiff,reduceCtorEq,e0,e1,e5,e30,e31,hlt,hgg1]
   refine loop_rd (callW_mono N _) (RbB h g r nn q least d) (n:=nn) ⟨0,[],h1,_,_,rfl,by omega,rfl,⟨by simp,by simp,fun a ha=>?_⟩,by rw [fX_nil];exact hT,f1,⟨rfl,rfl,rfl⟩,rfl,rfl,rfl,rfl,rfl⟩ ?_
   ·unfold lvb at ha
    rw [List.mem_filter,decide_eq_true_eq] at ha
    have:=(dn_range hnn.1 ((mem_lv hnn.1).mp ha.1)).1
    omega
   clear hT f1 e0 e1 e5 e30 e31 hgg1
   rintro m2 s ⟨i,X,h1,l,lc,rfl,hi,hm2,hX,hT,f1,⟨e0,e1,e5⟩,e7,e30,e31,e37,e38⟩
   have hgT:h1.g r=_:=hT
   by_cases hlt2:(i:Int)<(nn:Int)
   ·have hwi:=wrap_i64 (n:=(i:Int)+1) (by omega)
    have i1:=iaR (id:=r) (i:=(i:Int)) (by omega) 0
    have g1:(rt (fun b=>enc (fX q least nn d X b)) nl)[(i:Int).toNat * 1]? = some (.int .i64 (enc (fX q least nn d X i))):=rt_r (fun b=>enc (fX q least nn d X b)) nl (a:=(i:Int).toNat) (by omega)
    by_cases c:(i:Int)∈lv q least nn d
    ·have hfi:enc (fX q least nn d X i)=(d:Int):=by rw [fX_at hnn.1 c];rfl
     have hd1:decide ((d:Int)=d)=true:=by simp
     rw [hfi] at g1
     simp -implicitDefEqProofs only [KK,eq_self,↓reduceIte,reduceLT,reduceEqDiff,reduceCtorEq,e0,e1,e5,e7,e30,e31,e37,e38,hlt2,hgT,i1,g1]
     refine rnear_ok (k:=k+2) (hg.new f1) (by omega) fun v h2 hno f2 hvid=>?_
     rw [hRl.near,Int.toNat_natCast] at hno
     have hN:(nr q least nn i).length≤nn:=nearL_len q i least nn
     have hlen:∀ h':Hp,lenT h' .sl (.v (.c v))=some ((nr q least nn i).length:Int):=fun h'=>by rw [hno.sl.len h',rI_len]
     simp -implicitDefEqProofs only [KK,eq_self,↓reduceIte,reduceLT,reduceEqDiff,reduceCtorEq,hlen]
     refine loop_rd (callW_mono N _) (RbC h g r nn q least d i v) (n:=(nr q least nn i).length) ⟨0,X,h2,_,_,rfl,by omega,by omega,hX,by simp,f2.some hT (fun h=>h),f1.trans f2,hno.sl,⟨rfl,rfl,rfl⟩,rfl,rfl,rfl,rfl,rfl,rfl,rfl,rfl⟩ ?_
     clear hX hT hgT f1 e0 e1 e5 e7 e30 e31 e37 e38 g1 i1 hno f2 hfi
     rintro m3 s ⟨j,X,h1,l,lc,rfl,hj,hm3,hX,hXj,hT,f1,hv,⟨e0,e1,e5⟩,e7,e30,e31,e37,e38,e52,e53,e54⟩
     have hgT:h1.g r=_:=hT
     by_cases hlt3:(j:Int)<((nr q least nn i).length:Int)
     ·have hjl:j<(nr q least nn i).length:=by omega
      obtain ⟨b,hb⟩:=some_at (L:=nr q least nn i) (i:=j) hjl
      have hbm:b∈nr q least nn i:=List.mem_of_getElem? hb
      have hbr:=(mem_nr.mp hbm).1
      have hrow:(rI (nr q least nn i))[(j:Int).toNat]? = some [.int .i64 b]:=by simp [rI,hb]
      obtain ⟨p1,p2,p3,a1,a2⟩:=hv.at (by omega) hrow
      have hwj:=wrap_i64 (n:=(j:Int)+1) (by omega)
      have hts:=take_snoc hb
      have i1:=iaR (id:=r) (i:=b) (by omega) 0
      have hbb:((b.toNat:Nat):Int)=b:=by omega
      have g1:=rt_r (fun b=>enc (fX q least nn d X b)) nl (a:=b.toNat) (by omega)
      simp only [hbb] at g1
      cases hf:fX q least nn d X b with
      | some y=>
       rw [hf] at g1
       have hl:¬enc (some y)<0:=by simp only [enc];omega
       simp -implicitDefEqProofs only [KK,eq_self,↓reduceIte,reduceLT,reduceEqDiff,reduceCtorEq,e0,e1,e5,e7,e30,e31,e37,e38,e52,e53,e54,hlt3,a1,a2,hgT,i1,g1,hl,hwj,rd_n]
       refine ⟨m3-1,by omega,j+1,X,h1,_,_,rfl,by omega,by omega,hX,?_,hT,f1,hv,⟨rfl,rfl,rfl⟩,rfl,rfl,rfl,rfl,rfl,rfl,rfl,rfl⟩
       intro z hz
       rw [hts] at hz
       rcases List.mem_append.mp hz with hz|hz
       ·exact hXj z hz
       ·have hz:=List.mem_singleton.mp hz
        subst hz
        exact hX.skip (a:=z) (by rw [hf];simp)
      | none=>
       rw [hf] at g1
       have hl:enc none<0:=by decide
       have st:=rt_set (R:=fun b=>enc (fX q least nn d X b)) (R':=fun y=>enc (fX q least nn d (X++[b]) y)) (V:=nl) (V':=nl) (i:=b.toNat * 1) (x:=.int .i64 ((d:Int)+1)) (by omega) (by
        rw [if_pos (by omega),Nat.mul_one,hbb,fX_add hf]
        show _=CV.int .i64 (enc (if b=b then _ else _))
        rw [if_pos rfl]
        rfl) (fun y hy hne=>by
        rw [fX_add hf]
        simp only
        rw [if_neg (by omega)]) (fun _ _ _=>rfl)
       have hln:=rt_len (fun b=>enc (fX q least nn d X b)) nl
       simp -implicitDefEqProofs only [KK,eq_self,↓reduceIte,reduceLT,reduceEqDiff,reduceLeDiff,reduceCtorEq,e0,e1,e5,e7,e30,e31,e37,e38,e52,e53,e54,hlt3,a1,a2,hgT,i1,g1,hl,hwj,hwd,rd_n,st,hln]
       refine ⟨by omega,m3-1,by omega,j+1,X++[b],_,_,_,rfl,by omega,by omega,hX.add hf c hbm,?_,RTr.put hT rfl,f1.fresh (Fm.put (S:=fun j=>j=r) _ _ rfl) (fun j hj=>by omega),hv.mono (Fm.put (S:=fun j=>j=r) _ _ rfl) (hv.notR hT),⟨rfl,rfl,rfl⟩,rfl,rfl,rfl,rfl,rfl,rfl,rfl,rfl⟩
       intro z hz
       rw [hts] at hz
       rcases List.mem_append.mp hz with hz|hz
       ·exact (hXj z hz).imp_right fun e=>List.mem_append.mpr (.inl e)
       ·have hz:=List.mem_singleton.mp hz
        subst hz
        exact .inr (by simp)
     ·have:j=(nr q least nn i).length:=by omega
      subst this
      rw [List.take_length] at hXj
      simp -implicitDefEqProofs only [KK,eq_self,↓reduceIte,reduceLT,reduceEqDiff,reduceCtorEq,e0,e1,e5,e7,e30,e31,e37,e38,e52,e53,e54,hlt3,hwi,rd_n]
      refine ⟨m2-1,by omega,i+1,X,h1,_,_,rfl,by omega,by omega,⟨hX.nd,hX.mem,fun a ha b hb=>?_⟩,hT,f1,⟨rfl,rfl,rfl⟩,rfl,rfl,rfl,rfl,rfl⟩
      rcases lvb_succ_in ha with ha|ha
      ·exact hX.cov a ha b hb
      ·subst ha
       exact hXj b hb
    ·have hfi:¬enc (fX q least nn d X i)=(d:Int):=fun e=>c (fX_self hnn.1 e)
     simp -implicitDefEqProofs only [KK,eq_self,↓reduceIte,reduceLT,reduceEqDiff,reduceCtorEq,e0,e1,e5,e7,e30,e31,e37,e38,hlt2,hgT,i1,g1,hfi,hwi,rd_n]
     refine ⟨m2-1,by omega,i+1,X,h1,_,_,rfl,by omega,by omega,⟨hX.nd,hX.mem,fun a ha b hb=>?_⟩,hT,f1,⟨rfl,rfl,rfl⟩,rfl,rfl,rfl,rfl,rfl⟩
     rcases lvb_succ_in ha with ha|ha
     ·exact hX.cov a ha b hb
     ·subst ha
      unfold lvb at *
      exact absurd (List.mem_filter.mp (by assumption)).1 c
   ·have:i=nn:=by omega
    subst this
    have hX':Nxt q least i d (lv q least i d) X:=⟨hX.nd,hX.mem,fun a ha b hb=>hX.cov a (by
     unfold lvb
     rw [List.mem_filter,decide_eq_true_eq]
     exact ⟨ha,(dn_range hnn.1 ((mem_lv hnn.1).mp ha)).2⟩) b hb⟩
    rw [(hX'.done hnn.1).2] at hT
    simp -implicitDefEqProofs only [KK,eq_self,↓reduceIte,reduceLT,reduceEqDiff,reduceCtorEq,e0,e1,e5,e7,e30,e31,e37,e38,hlt2,hwd,rd_n]
    exact ⟨m1-1,by omega,d+1,h1,_,_,rfl,by omega,by omega,hT,f1,⟨rfl,rfl,rfl⟩,rfl,rfl⟩
  ·have:d=nn:=by omega
   subst this
   simp -implicitDefEqProofs only [KK,eq_self,↓reduceIte,reduceLT,reduceEqDiff,reduceCtorEq,e0,e1,e5,e30,e31,hlt,hgg1]
   generalize hf:rk q least d=f at hP H
   generalize hpar:fol q least d f=par at hP H
   have hfe:dn q least d d=f:=hf
   rw [hfe] at hT
   have hRl':=hRl.qle
   refine loop_rd (callW_mono N _) (RbD h g r d least (fun b=>enc (f b)) par) (n:=d) ⟨0,nl,h1,_,_,rfl,by omega,rfl,hT,fun b _=>by rw [if_neg (by omega)];rfl,f1,⟨rfl,rfl,rfl⟩,rfl,rfl⟩ ?_
   clear hT f1 e0 e1 e5 e30 e31 hgg1
   rintro m2 s ⟨i,V,h1,l,lc,rfl,hi,hm2,hT,hV,f1,⟨e0,e1,e5⟩,e78,e79⟩
   have hgT:h1.g r=_:=hT
   by_cases hlt2:(i:Int)<(d:Int)
   ·have hwi:=wrap_i64 (n:=(i:Int)+1) (by omega)
    have i1:=iaR (id:=r) (i:=(i:Int)) (by omega) 0
    have i2:=iaR (id:=r) (i:=(i:Int)) (by omega) 16
    have g1:(rt (fun b=>enc (f b)) V)[(i:Int).toNat * 1]? = some (.int .i64 (enc (f i))):=rt_r (fun b=>enc (f b)) V (a:=(i:Int).toNat) (by omega)
    have hstep:∀ b:Nat,b≠i→(if b<i+1 then par b else [])=if b<i then par b else []:=fun b hb=>by
     by_cases e:b<i
     ·rw [if_pos e,if_pos (by omega)]
     ·rw [if_neg e,if_neg (by omega)]
    by_cases c:0<enc (f i)
    ·obtain ⟨x,hx⟩:∃ x,f i=some (x+1):=by
      cases hfi:f i with
      | none=>rw [hfi] at c;simp [enc] at c
      | some y=>
       cases y with
       | zero=>rw [hfi] at c;simp [enc] at c
       | succ y=>exact ⟨y,rfl⟩
     have hxr:=(H.range _ _ hx).2
     simp -implicitDefEqProofs only [KK,eq_self,↓reduceIte,reduceLT,reduceEqDiff,reduceCtorEq,e0,e1,e5,e78,e79,hlt2,hgT,i1,g1,c]
     refine rpar_ok (k:=k+1) (q:=q) (f:=f) (hg.new f1) hRl hnn.2 hT (fun b _=>rfl) ⟨by omega,by omega⟩ hx (by omega) fun h2 v hv f2=>?_
     rw [hpar] at hv
     have hT2:RTr h2 r _ V:=f2.some hT (fun h=>h)
     have hgT2:h2.g r=_:=hT2
     have st:=rt_set (R:=fun b=>enc (f b)) (R':=fun b=>enc (f b)) (V:=V) (V':=fun b=>if b=i then v else V b) (i:=16+(i:Int).toNat * 1) (x:=v) (by omega) (by
      rw [if_neg (by omega),if_pos (by omega)]) (fun _ _ _=>rfl) (fun b _ hb=>if_neg (by omega))
     have hln:=rt_len (fun b=>enc (f b)) V
     simp -implicitDefEqProofs only [KK,eq_self,↓reduceIte,reduceLT,reduceEqDiff,reduceLeDiff,reduceCtorEq,hgT2,i2,hwi,rd_n,st,hln]
     refine ⟨by omega,m2-1,by omega,i+1,_,_,_,_,rfl,by omega,by omega,RTr.put hT2 rfl,fun b hb=>?_,(f1.trans f2).fresh (Fm.put (S:=fun j=>j=r) _ _ rfl) (fun j hj=>by omega),⟨rfl,rfl,rfl⟩,rfl,rfl⟩
     by_cases e:b=i
     ·subst e
      rw [if_pos rfl,if_pos (by omega)]
      exact hv.mono (Fm.put (S:=fun j=>j=r) _ _ rfl) (hv.notR hT2)
     ·rw [if_neg e,hstep b e]
      have hVb:=(hV b hb).new f2
      exact hVb.mono (Fm.put (S:=fun j=>j=r) _ _ rfl) (hVb.notR hT2)
    ·have hpn:par i=[]:=by
      cases hfi:f i with
      | none=>exact H.nil _ hfi
      | some y=>
       cases y with
       | zero=>rw [H.zero _ hfi];exact H.rootp
       | succ y=>rw [hfi] at c;simp only [enc] at c;omega
     simp -implicitDefEqProofs only [KK,eq_self,↓reduceIte,reduceLT,reduceEqDiff,reduceCtorEq,e0,e1,e5,e78,e79,hlt2,hgT,i1,g1,c,hwi,rd_n]
     refine ⟨m2-1,by omega,i+1,V,h1,_,_,rfl,by omega,by omega,hT,fun b hb=>?_,f1,⟨rfl,rfl,rfl⟩,rfl,rfl⟩
     by_cases e:b=i
     ·subst e
      have:=hV b hb
      rw [if_neg (by omega)] at this
      rw [if_pos (by omega),hpn]
      exact this
     ·rw [hstep b e]
      exact hV b hb
   ·have:i=d:=by omega
    subst this
    simp -implicitDefEqProofs only [KK,eq_self,↓reduceIte,reduceLT,reduceEqDiff,reduceCtorEq,e0,e1,e5,e78,e79,hlt2]
    refine hP h1 r _ V ⟨hT,fun b _=>rfl,fun b hb=>?_⟩ f1
    have:=hV b hb
    by_cases e:b<i
    ·rwa [if_pos e] at this
    ·rw [if_neg e] at this
     have hpn:par b=[]:=by
      cases hfb:f b with
      | none=>exact H.nil _ hfb
      | some y=>have:=(H.range _ _ hfb).1;omega
     rw [hpn]
     exact this
end
end
section
set_option maxHeartbeats 2000000
def lexL:List Int→List Int→Bool
 | a::l,b::m=>if a=b then lexL l m else decide (a<b)
 | _,_=>false
def five (x:Cel):List Int:=[x.f,x.s,x.c,x.o,x.p]
def fiveV (x:Cel):List CV:=(five x).map (.int .i64)
theorem lexL_less (x y:Cel):lexL (five x) (five y)=lessC x y:=by
 unfold lessC lessB five
 simp only [lexL]
 rw [Bool.eq_iff_iff]
 split
 ·split
  ·split
   ·split
    ·split
     ·simp;omega
     ·simp;omega
    ·simp;omega
   ·simp;omega
  ·simp;omega
 ·simp;omega
section
variable {h:Hp} {sz:Nat} {v:CV} {rows:List (List CV)} {lc:List (List CV)}
theorem Ow.app0 (k:Ow h sz v rows) {x:TV} {xs:List (List CV)} (hx:sliceRows h lc sz x=some xs) {bytes:Nat} (hb:(rows.length+xs.length) * bytes≤room) :
 ∃ v' h',appT h lc sz bytes (.v (.c v)) x=some (v',h')∧Ow h' sz v' (rows++xs)∧Fm (ownId v) h h'∧(∀ j,ownId v' j→ownId v j∨h.n≤j):=by
 cases xs with
 | cons y ys=>exact k.app hx (by simp) hb
 | nil=>
  refine ⟨v,h,?_,by rw [List.append_nil];exact k,Fm.refl _ _,fun j hj=>.inl hj⟩
  cases v <;> simp only [Ow] at k
  case nils=>simp only [appT,asC_c,Option.bind_some,hx,appRows]
  case sl id tok off len cap=>simp only [appT,asC_c,Option.bind_some,hx,appRows]
theorem Ow.suf (k:Ow h sz v rows) (h0:0<sz) {m:Int} (hm:0≤m∧m≤rows.length) :
 ∃ v',sliceT h sz (.v (.c v)) (some m) none none=some v'∧(∀ h',Fm (fun j=>¬ownId v j) h h'→sliceT h' sz (.v (.c v)) (some m) none none=some v')∧SL h sz v' (rows.drop m.toNat)∧∀ j,ownId v' j↔ownId v j:=by
 cases v <;> simp only [Ow] at k
 case nils=>
  subst k
  have:m=0:=by simp at hm;omega
  subst this
  refine ⟨.nils,?_,fun h' _=>?_,?_,fun j=>Iff.rfl⟩
  ·simp [sliceT,sliceV,h0]
  ·simp [sliceT,sliceV,h0]
  ·simp [SL]
 case sl id tok off len cap=>
  obtain ⟨rfl,rfl,lw,rs,h1,h2,h3,rfl⟩:=k
  simp only [List.length_take] at hm
  have key:∀ h':Hp,h'.g id=some (.rows true sz tok lw rs)→sliceT h' sz (.v (.c (.sl id tok 0 len none))) (some m) none none=some (.sl id tok m.toNat (len-m.toNat) none):=by
   intro h' hg
   simp only [sliceT,sliceV,g_def,hg]
   rw [if_pos ⟨h0,trivial,h2⟩]
   unfold sliceB
   rw [if_pos]
   ·simp
   ·simp;omega
  refine ⟨_,key h h1,fun h' f=>key h' (f.some h1 (fun e=>e rfl)),⟨true,tok,lw,rs,h1,h2,by omega,?_⟩,fun j=>Iff.rfl⟩
  rw [List.drop_take]
end
section
variable {k:Nat} {h:Hp} {P:AV→Hp→Prop}
def RlI (h:Hp) (x y:Cel) (m:Nat) (s:St):Prop:=
 ∃ (i:Nat) (l:List (Nat × TV)),s=ST 48 l [encE x,encE y,fiveV x,fiveV y] h∧i≤5∧m=5-i∧lexL (five x) (five y)=lexL ((five x).drop i) ((five y).drop i)∧
  lk l 5 = .lp 2 0∧lk l 6 = .lp 3 0∧lk l 30 = .v (.c (.int .i64 i))
theorem rless_ok {x y:Cel} (hP:P (.c (.bool (lessC x y))) h):callW N (k+1) 233 [.agg (encE x),.agg (encE y)] h P:=by
 have e1:encE x=[.int .i64 x.f,.int .i64 x.s,.int .i64 x.c,.int .i64 x.o,.int .i64 x.p]:=rfl
 have e2:encE y=[.int .i64 y.f,.int .i64 y.s,.int .i64 y.c,.int .i64 y.o,.int .i64 y.p]:=rfl
 refine call_intro rfl (by simp only [List.length_cons,List.length_nil];omega) ?_
 simp -implicitDefEqProofs only [KK,eq_self,↓reduceIte,reduceLT,reduceEqDiff,reduceAdd,reduceLeDiff,reduceCtorEq,e1,e2]
 refine loop_rd (callW_mono N _) (RlI h x y) (n:=5) ⟨0,_,rfl,by omega,rfl,rfl,rfl,rfl,rfl⟩ ?_
 rintro m s ⟨i,l,rfl,hi,hm,hL,e5,e6,e30⟩
 by_cases hlt:(i:Int)<5
 ·have hil:i<5:=by omega
  have j1:=iaA_l (n:=5) (sz:=1) (b:=2) (off:=0) (i:=(i:Int)) (by omega)
  have j2:=iaA_l (n:=5) (sz:=1) (b:=3) (off:=0) (i:=(i:Int)) (by omega)
  obtain ⟨a,ha⟩:∃ a,(five x)[i]? = some a:=⟨_,List.getElem?_eq_getElem (by simpa [five] using hil)⟩
  obtain ⟨b,hb⟩:∃ b,(five y)[i]? = some b:=⟨_,List.getElem?_eq_getElem (by simpa [five] using hil)⟩
  have s1:(fiveV x)[(i:Int).toNat * 1]? = some (.int .i64 a):=by simp [fiveV,ha]
  have s2:(fiveV y)[(i:Int).toNat * 1]? = some (.int .i64 b):=by simp [fiveV,hb]
  have hwi:=wrap_i64 (n:=(i:Int)+1) (by omega)
  have hd:∀ {L:List Int} {a:Int},L[i]? = some a→L.drop i=a::L.drop (i+1):=fun {L a} h=>by
   have hl:i<L.length:=by
    rcases Nat.lt_or_ge i L.length with q|q
    ·exact q
    ·rw [List.getElem?_eq_none q] at h;cases h
   rw [List.drop_eq_getElem_cons hl]
   rw [List.getElem?_eq_getElem hl] at h
   rw [Option.some.inj h]
  rw [hd ha,hd hb,lexL] at hL
  by_cases c:a=b
  ·have c':decide (a=b)=true:=decide_eq_true c
   rw [if_pos c] at hL
   simp -implicitDefEqProofs only [KK,eq_self,↓reduceIte,reduceLT,reduceEqDiff,reduceAdd,e5,e6,e30,hlt,j1,j2,s1,s2,c',hwi,rd_n]
   exact ⟨m-1,by omega,i+1,_,rfl,by omega,by omega,hL,rfl,rfl,rfl⟩
  ·rw [if_neg c] at hL
   rw [←lexL_less,hL] at hP
   simp -implicitDefEqProofs only [KK,eq_self,↓reduceIte,reduceLT,reduceEqDiff,reduceAdd,e5,e6,e30,hlt,j1,j2,s1,s2,c]
   exact hP
 ·have:i=5:=by omega
  subst this
  rw [←lexL_less,hL] at hP
  simp -implicitDefEqProofs only [KK,eq_self,↓reduceIte,reduceLT,reduceEqDiff,reduceAdd,e5,e6,e30,hlt]
  exact hP
theorem ins_at {x:Cel}:∀ {S:List Cel} {k:Nat},(∀ y∈S.take k,lessC x y=false)→k≤S.length→(k=S.length∨∃ z,S[k]? = some z∧lessC x z=true)→insC x S=S.take k++([x]++S.drop k)
 | [],0,_,_,_=>rfl
 | [],k+1,_,h,_=>by simp at h
 | y::S,0,_,_,h=>by
  rcases h with h|⟨z,hz,h⟩
  ·simp at h
  ·rw [List.getElem?_cons_zero] at hz
   have:=Option.some.inj hz
   subst this
   rw [insC,if_pos h]
   rfl
 | y::S,k+1,h0,h1,h=>by
  have hy:=h0 y (by simp)
  rw [insC,if_neg (by rw [hy];simp),ins_at (k:=k) (fun z hz=>h0 z (by simp [hz])) (by simpa using h1) (by simpa using h)]
  rfl
def RsA (h:Hp) (v:CV) (L:List Cel) (m:Nat) (s:St):Prop:=
 ∃ (i:Nat) (w:CV) (h':Hp) (l:List (Nat × TV)),s=ST 41 l [] h'∧i≤L.length∧m=L.length-i∧Ow h' 5 w ((srtC (L.take i)).map encE)∧Fn h h'∧(∀ j,ownId w j→h.n≤j)∧
  lk l 3 = .v (.c w)∧lk l 7 = .v (.c v)∧lk l 8 = .v (.c (.int .i64 L.length))∧lk l 9 = .v (.c (.int .i64 i))
def RsB (h:Hp) (v w:CV) (L S:List Cel) (i:Nat) (x:Cel) (m:Nat) (s:St):Prop:=
 ∃ (k:Nat) (l:List (Nat × TV)),s=ST 41 l [encE x] h∧k≤S.length∧m=S.length-k∧(∀ y∈S.take k,lessC x y=false)∧
  lk l 3 = .v (.c w)∧lk l 5 = .lp 0 0∧lk l 6 = .v (.c (.int .i64 k))∧lk l 7 = .v (.c v)∧lk l 8 = .v (.c (.int .i64 L.length))∧lk l 9 = .v (.c (.int .i64 i))
theorem rsorted_ok {v:CV} {L:List Cel} (hs:Sv h 5 v (L.map encE)) (hn:L.length≤1000) (hP:∀ h' u,Ow h' 5 u ((srtC L).map encE)→Fn h h'→(∀ j,ownId u j→h.n≤j)→P (.c u) h'):callW N (k+2) 232 [.c v] h P:=by
 have hlen:∀ h':Hp,lenT h' .sl (.v (.c v))=some (L.length:Int):=fun h'=>by rw [hs.len h',List.length_map]
 have henc:∀ x,(encE x).length=5:=fun _=>rfl
 have htk:∀ x,(encE x).take 5=encE x:=fun _=>rfl
 refine call_intro rfl (by simp only [List.length_cons,List.length_nil];omega) ?_
 simp -implicitDefEqProofs only [KK,eq_self,↓reduceIte,reduceLT,reduceEqDiff,reduceCtorEq,hlen]
 refine loop_rd (callW_mono N _) (RsA h v L) (n:=L.length) ⟨0,.nils,h,_,rfl,by omega,rfl,rfl,Fm.refl _ _,(fun j e=>e.elim),rfl,rfl,rfl,rfl⟩ ?_
 rintro m s ⟨i,w,h1,l,rfl,hi,hm,hw,f1,hid,e3,e7,e8,e9⟩
 by_cases hlt:(i:Int)<(L.length:Int)
 ·have hil:i<L.length:=by omega
  obtain ⟨x,hx⟩:∃ x,L[i]? = some x:=⟨_,List.getElem?_eq_getElem hil⟩
  have hrow:(L.map encE)[(i:Int).toNat]? = some (encE x):=by simp [hx]
  obtain ⟨p1,p2,p3,a1,a2⟩:=(hs.new f1).at (by omega) hrow
  have hwi:=wrap_i64 (n:=(i:Int)+1) (by omega)
  have hts:srtC (L.take (i+1))=insC x (srtC (L.take i)):=by
   rw [take_snoc hx]
   unfold srtC
   rw [List.foldl_append]
   rfl
  have hSl:(srtC (L.take i)).length≤1000:=by rw [srtC_len,List.length_take];omega
  generalize srtC (L.take i)=S at hw hts hSl
  have hwl:∀ h':Hp,lenT h' .sl (.v (.c w))=some (S.length:Int):=fun h'=>by rw [hw.sl.len h',List.length_map]
  simp -implicitDefEqProofs only [KK,eq_self,↓reduceIte,reduceLT,reduceEqDiff,reduceAdd,e3,e7,e8,e9,hlt,a1,a2,henc,htk]
  refine loop_rd (callW_mono N _) (RsB h1 v w L S i x) (n:=S.length) ⟨0,_,rfl,by omega,rfl,by simp,rfl,rfl,rfl,rfl,rfl,rfl⟩ ?_
  clear e3 e7 e8 e9
  rintro m2 s ⟨kk,l,rfl,hk,hm2,hbe,e3,e5,e6,e7,e8,e9⟩
  have hwk:=wrap_i64 (n:=(kk:Int)+1) (by omega)
  have hcase:(kk=S.length∧¬(kk:Int)<(S.length:Int))∨(∃ z,S[kk]? = some z∧(kk:Int)<(S.length:Int)∧lessC x z=true)∨(∃ z,S[kk]? = some z∧(kk:Int)<(S.length:Int)∧lessC x z=false):=by
   by_cases c:kk<S.length
   ·obtain ⟨z,hz⟩:∃ z,S[kk]? = some z:=⟨_,List.getElem?_eq_getElem c⟩
    cases hl:lessC x z with
    | true=>exact .inr (.inl ⟨z,hz,by omega,hl⟩)
    | false=>exact .inr (.inr ⟨z,hz,by omega,hl⟩)
   ·exact .inl ⟨by omega,by omega⟩
  rcases hcase with ⟨hA,hc⟩|⟨z,hz,hc,hB⟩|⟨z,hz,hc,hC⟩
  case' inr.inr=>
   have hrz:(S.map encE)[(kk:Int).toNat]? = some (encE z):=by simp [hz]
   obtain ⟨q1,q2,q3,b1,b2⟩:=hw.sl.at (by omega) hrz
   simp -implicitDefEqProofs only [KK,eq_self,↓reduceIte,reduceLT,reduceEqDiff,e3,e5,e6,e7,e8,e9,hwl,hc,b1,b2,henc,htk]
   refine rless_ok (k:=k) ?_
   rw [hC]
   simp -implicitDefEqProofs only [KK,eq_self,↓reduceIte,reduceLT,reduceEqDiff,hwk,rd_n]
  case inr.inr=>
   refine ⟨m2-1,by omega,kk+1,_,rfl,by omega,by omega,fun y hy=>?_,rfl,rfl,rfl,rfl,rfl,rfl⟩
   rw [take_snoc hz] at hy
   rcases List.mem_append.mp hy with hy|hy
   ·exact hbe y hy
   ·rw [List.mem_singleton.mp hy];exact hC
  case' inl=>
   have hins:=ins_at hbe hk (.inl hA)
  case' inr.inl=>
   have hins:=ins_at hbe hk (.inr ⟨z,hz,hB⟩)
   have hrz:(S.map encE)[(kk:Int).toNat]? = some (encE z):=by simp [hz]
   obtain ⟨q1,q2,q3,b1,b2⟩:=hw.sl.at (by omega) hrz
  all_goals
   rw [hins] at hts
   have hfR:=Fm.reserve (fun _=>False) h1 1
   have hwR:=hw.new hfR
   have hn1:(h1.reserve 1).n=h1.n+1:=n_reserve _ _
   have hv1:∀ j,ownId w j→j<h1.n:=fun j hj=>hw.lt hj
   obtain ⟨va,pa,oa,ida⟩:=hwR.pre (m:=(kk:Int)) (by omega) (by rw [List.length_map];omega)
   obtain ⟨vb,pb,pbm,sb,idb⟩:=hwR.suf (m:=(kk:Int)) (by omega) (by rw [List.length_map];omega)
   have o0:Ow (h1.reserve 1) 5 .nils ([]:List (List CV)):=rfl
   rw [Int.toNat_natCast] at oa sb
   have hlA:((S.map encE).take kk).length≤1000:=by rw [List.length_take,List.length_map];omega
   have hlB:((S.map encE).drop kk).length≤1000:=by rw [List.length_drop,List.length_map];omega
   obtain ⟨u1,h2,f2,o2,m2',d2⟩:=o0.app0 (lc:=[encE x]) (oa.sl.read (lc:=[encE x])) (bytes:=40) (by simp only [room,List.length_nil];omega)
   have hu1:∀ j,ownId u1 j→h1.n+1≤j:=fun j hj=>(d2 j hj).elim (fun e=>e.elim) (fun e=>by omega)
   have hd2:=m2'.some (dead_one h1) (fun e=>e)
   have hs2:=pbm h2 (m2'.mono (fun _ _ e=>e.elim))
   obtain ⟨h3,hh3⟩:∃ h3,h3=h2.put h1.n (.rows true 5 0 0 [encE x]):=⟨_,rfl⟩
   have m3:Fm (fun j=>j=h1.n) h2 h3:=by rw [hh3];exact Fm.put _ _ rfl
   have hl3:h3.g h1.n=some (.rows true 5 0 0 [encE x]):=by rw [hh3,g_put_eq,hd2];rfl
   have hsl3:SL h3 5 (.sl h1.n 0 0 1 (some 1)) [encE x]:=⟨true,0,0,_,hl3,Nat.le_refl _,Nat.le_refl _,rfl⟩
   have o3:=o2.mono m3 (fun j hj e=>by have:=hu1 j hj;omega)
   rw [List.nil_append] at o3
   obtain ⟨u2,h4,f4,o4,m4,d4⟩:=o3.app0 (lc:=[encE x]) (hsl3.read (lc:=[encE x])) (bytes:=40) (by simp only [room,List.length_singleton];omega)
   have mR4:Fm (fun j=>¬ownId w j) (h1.reserve 1) h4:=((m2'.mono (S':=fun j=>¬ownId w j) (fun _ _ e=>e.elim)).comp m3 (fun j _ e e2=>by have:=hv1 j e2;omega)).comp m4 (fun j _ e e2=>by have:=hv1 j e2;have:=hu1 j e;omega)
   have hs4:=pbm h4 mR4
   have sb4:SL h4 5 vb _:=sb.mono mR4 (fun id tok off len cap e e2=>e2 ((idb id).mp (by rw [e];rfl)))
   have hn3:h1.n+1≤h3.n:=by have:=m3.n;have:=m2'.n;omega
   have hu2:∀ j,ownId u2 j→h1.n+1≤j:=fun j hj=>(d4 j hj).elim (hu1 j) (fun e=>by omega)
   obtain ⟨u3,h5,f5,o5,m5,d5⟩:=o4.app0 (lc:=[encE x]) (sb4.read (lc:=[encE x])) (bytes:=40) (by rw [List.length_append];simp only [room,List.length_singleton];omega)
   have hu3:∀ j,ownId u3 j→h1.n+1≤j:=fun j hj=>(d5 j hj).elim (hu2 j) (fun e=>by have:=m4.n;omega)
   have hfold3:h2.put h1.n (.rows true 5 0 0 [encE x])=h3:=hh3.symm
   have e1:encE x=[.int .i64 x.f,.int .i64 x.s,.int .i64 x.c,.int .i64 x.o,.int .i64 x.p]:=rfl
   have fr:Fn h h5:=(((f1.trans hfR).trans m2').fresh m3 (fun j hj=>by have:=f1.n;omega)).fresh m4 (fun j hj=>by have:=hu1 j hj;have:=f1.n;omega) |>.fresh m5 (fun j hj=>by have:=hu2 j hj;have:=f1.n;omega)
  case inr.inl=>
   simp -implicitDefEqProofs only [KK,eq_self,↓reduceIte,reduceLT,reduceEqDiff,e3,e5,e6,e7,e8,e9,hwl,hc,b1,b2,henc,htk]
   refine rless_ok (k:=k) ?_
   rw [hB]
   simp -implicitDefEqProofs only [KK,eq_self,↓reduceIte,reduceLT,reduceEqDiff,reduceAdd,henc,htk,pa,pb,f2,hs2,hd2,chunks,hfold3,f4,hs4,f5,hwi,rd_n]
   refine ⟨m-1,by omega,i+1,u3,h5,_,rfl,by omega,by omega,?_,fr,(fun j hj=>by have:=hu3 j hj;have:=f1.n;omega),rfl,rfl,rfl,rfl⟩
   rw [hts]
   simpa using o5
  case inl=>
   simp -implicitDefEqProofs only [KK,eq_self,↓reduceIte,reduceLT,reduceEqDiff,reduceAdd,e3,e5,e6,e7,e8,e9,hwl,hc,henc,htk,pa,pb,f2,hs2,hd2,chunks,hfold3,f4,hs4,f5,hwi,rd_n]
   refine ⟨m-1,by omega,i+1,u3,h5,_,rfl,by omega,by omega,?_,fr,(fun j hj=>by have:=hu3 j hj;have:=f1.n;omega),rfl,rfl,rfl,rfl⟩
   rw [hts]
   simpa using o5
 ·have:i=L.length:=by omega
  subst this
  rw [List.take_length] at hw
  simp -implicitDefEqProofs only [KK,eq_self,↓reduceIte,reduceLT,reduceEqDiff,e3,e7,e8,e9,hlt]
  exact hP _ _ hw f1 hid
end
end
end Camp
