/- Dealing: put, link. Dealing: link. Dealing: who gets what; the loop over all that are in the tree. Cells by node: a map of slices that grow. Dealing: cells by node, each node's in order. Dealing: plain: what is dealt may be; with as many slots as links all get theirs; in one slot nobody does. -/
import Derived.Test.YthmolhkfodhagaaLawC
import Derived.Test.YthmolhkfodhagaaUseB
import Derived.Test.YthmolhkfodhagaaLawD
import Derived.Test.YthmolhkfodhagaaUseA
set_option linter.unnecessarySimpa false
set_option linter.unusedVariables false
set_option linter.unusedSimpArgs false
set_option linter.unusedSectionVars false
namespace Camp
open Go
section
set_option maxHeartbeats 4000000
def cntN (L:List Hd) (i:Nat):Nat:=(L.filter fun x=>decide (x.n=(i:Int))).length
theorem cntN_snoc (L:List Hd) (x:Hd) (i:Nat):cntN (L++[x]) i=cntN L i+if x.n=(i:Int) then 1 else 0:=by
 unfold cntN
 rw [List.filter_append,List.length_append]
 by_cases h:x.n=(i:Int)
 ·rw [if_pos h,List.filter_cons_of_pos (by simpa using h)];rfl
 ·rw [if_neg h,List.filter_cons_of_neg (by simpa using h)];rfl
theorem cntN_le (L:List Hd) (i:Nat):cntN L i≤L.length:=List.length_filter_le _ _
def cntC (L:List Hd):List CV:=(List.range 16).map fun i=>.int .i64 ((cntN L i:Nat):Int)
def rowD (fr len ch:Int) (v:CV) (L:List Hd):List CV:=.int .i64 fr::.int .i64 len::.int .i64 ch::v::cntC L
theorem cntC_len (L:List Hd):(cntC L).length=16:=by simp [cntC]
theorem cntC_get (L:List Hd) {x:Nat} (hx:x<16):(cntC L)[x]? = some (.int .i64 ((cntN L x:Nat):Int)):=by
 simp [cntC,hx]
theorem rowD_get (fr len ch:Int) (v:CV) (L:List Hd) {x:Nat} (hx:x<16):(rowD fr len ch v L)[4+x]? = some (.int .i64 ((cntN L x:Nat):Int)):=by
 rw [Nat.add_comm,←cntC_get L hx]
 rfl
theorem cntC_put (L:List Hd) {x:Nat} (hx:x<16) (c:Cel):(cntC L).take x++[CV.int .i64 ((cntN L x:Nat)+1:Int)]++(cntC L).drop (x+1)=cntC (L++[⟨(x:Int),c⟩]):=by
 apply List.ext_getElem?
 intro i
 by_cases hi:i<16
 ·rw [cntC_get _ hi,cntN_snoc]
  rcases Nat.lt_trichotomy i x with h|h|h
  ·rw [List.append_assoc,List.getElem?_append_left (by rw [List.length_take,cntC_len];omega),List.getElem?_take,if_pos h,cntC_get _ hi,if_neg (show ¬(x:Int)=(i:Int) by omega)]
   rfl
  ·subst h
   rw [List.append_assoc,List.getElem?_append_right (by rw [List.length_take,cntC_len];omega),List.length_take,cntC_len,Nat.min_eq_left (by omega),Nat.sub_self,if_pos rfl]
   simp
  ·rw [List.getElem?_append_right (by rw [List.length_append,List.length_take,cntC_len];simp;omega),List.length_append,List.length_take,cntC_len,List.length_singleton,List.getElem?_drop,if_neg (show ¬(x:Int)=(i:Int) by omega)]
   rw [show x+1+(i-(min x 16+1))=i by omega,cntC_get _ hi]
   rfl
 ·rw [List.getElem?_eq_none (by simp [cntC_len];omega),List.getElem?_eq_none (by rw [cntC_len];omega)]
structure Dl (new:Bool) (h:Hp) (d:Nat) (fr len ch:Int) (v:CV) (L:List Hd):Prop where
 row:h.g d=some (.rows true 20 0 0 [rowD fr len ch v L])
 g:Gw new h 6 v (L.map encH)
 id:∀ j,ownId v j→j≠d
theorem Dl.old {new:Bool} {h:Hp} {d:Nat} {fr len ch:Int} {v:CV} {L:List Hd} (k:Dl new h d fr len ch v L):Dl false h d fr len ch v L:=⟨k.row,k.g.old,k.id⟩
theorem Dl.fresh {new:Bool} {h h':Hp} {d:Nat} {fr len ch:Int} {v:CV} {L:List Hd} (k:Dl new h d fr len ch v L) (f:Fn h h'):Dl new h' d fr len ch v L:=⟨f.some k.row (fun e=>e),k.g.mono f (fun _ _ e=>e),k.id⟩
section
variable {k:Nat} {h:Hp} {P:AV→Hp→Prop} {new:Bool} {d:Nat} {fr len ch:Int} {v:CV} {L:List Hd}
theorem dput_ok {n:Nat} {c:Cel} (hD:Dl new h d fr len ch v L) (hn:n<16) (hL:L.length≤1000000)
 (hP:∀ v' h',Dl true h' d fr len ch v' (L++[⟨(n:Int),c⟩])→Gw false h' 6 v (L.map encH)→(new=true→∀ b u R,Gw b h 6 u R→(∀ j,ownId u j→j≠d)→R.length≤L.length→Gw false h' 6 u R)→Fm (fun j=>j=d∨ownId v j) h h'→(∀ j,ownId v' j→ownId v j∨h.n≤j)→P (.tup []) h') :
 callW N (k+1) 255 [.c (.ptr d 0 0 0),.c (.int .i64 n),.agg (encE c)] h P:=by
 have he:encE c=[.int .i64 c.f,.int .i64 c.s,.int .i64 c.c,.int .i64 c.o,.int .i64 c.p]:=rfl
 have hd:=hD.row
 have hdn:=lt_of_g hd
 obtain ⟨h1,hh1⟩:∃ h1,h1=h.reserve 1:=⟨_,rfl⟩
 have f1:Fn h h1:=by rw [hh1];exact Fm.reserve _ _ _
 have d1:h1.g h.n=some .dead:=by rw [hh1,g_reserve,if_pos (by omega)]
 obtain ⟨h2,hh2⟩:∃ h2,h2=h1.put h.n (.rows true 6 0 0 [[.int .i64 n,.int .i64 c.f,.int .i64 c.s,.int .i64 c.c,.int .i64 c.o,.int .i64 c.p]]):=⟨_,rfl⟩
 have f2:Fn h h2:=by rw [hh2];exact f1.putNew _ (Nat.le_refl _)
 have hx:sliceRows h2 [[CV.int .i64 c.f,.int .i64 c.s,.int .i64 c.c,.int .i64 c.o,.int .i64 c.p]] 6 (.v (.c (.sl h.n 0 0 1 (some 1))))=some [[.int .i64 n,.int .i64 c.f,.int .i64 c.s,.int .i64 c.c,.int .i64 c.o,.int .i64 c.p]]:=by
  have:h2.g h.n=some (.rows true 6 0 0 [[.int .i64 n,.int .i64 c.f,.int .i64 c.s,.int .i64 c.c,.int .i64 c.o,.int .i64 c.p]]):=by rw [hh2,g_put_eq,d1];rfl
  simp [sliceRows,g_def,this]
 obtain ⟨v',h3,a1,a2,a3,a4,a5,a6⟩:=(hD.g.mono f2 (fun _ _ e=>e)).app hx (by simp) (bytes:=48) (by rw [List.length_map];simp only [room,List.length_singleton];omega)
 have hd1:=f1.some hd (fun e=>e)
 have hd2:=f2.some hd (fun e=>e)
 have hd3:=a5.some hd2 (fun e=>hD.id _ e rfl)
 have r1:(rowD fr len ch v L)[3]? = some v:=rfl
 have hf1:=hh1.symm
 have hf2:=hh2.symm
 obtain ⟨h4,hh4⟩:∃ h4,h4=h3.put d (.rows true 20 0 0 [rowD fr len ch v' L]):=⟨_,rfl⟩
 have s1:(rowD fr len ch v L).take 3++v'::(rowD fr len ch v L).drop 4=rowD fr len ch v' L:=rfl
 have s2:(rowD fr len ch v L).length=20:=by simp [rowD,cntC_len]
 have hf4:=hh4.symm
 have g4:h4.g d=some (.rows true 20 0 0 [rowD fr len ch v' L]):=by rw [hh4,g_put_eq,hd3];rfl
 have ia:iaddrAV 16 1 (.v (.c (.ptr d 0 0 4))) n=some (.v (.c (.ptr d 0 0 (4+n)))):=by
  unfold iaddrAV
  rw [if_pos (by omega)]
  simp
 have r2:=rowD_get fr len ch v' L hn
 have w1:=wrap_i64 (n:=((cntN L n:Nat):Int)+1) (by have:=cntN_le L n;omega)
 have s3:(rowD fr len ch v' L).take (4+n)++.int .i64 ((cntN L n:Nat)+1:Int)::(rowD fr len ch v' L).drop (4+n+1)=rowD fr len ch v' (L++[⟨(n:Int),c⟩]):=by
  have e1:(rowD fr len ch v' L).take (4+n)=[.int .i64 fr,.int .i64 len,.int .i64 ch,v']++(cntC L).take n:=by
   rw [Nat.add_comm];rfl
  have e2:(rowD fr len ch v' L).drop (4+n+1)=(cntC L).drop (n+1):=by
   rw [show 4+n+1=(n+1)+4 by omega];rfl
  rw [e1,e2]
  have:=cntC_put L hn c
  rw [List.append_assoc] at this
  rw [List.append_assoc]
  show _++(_++_)=[CV.int .i64 fr,.int .i64 len,.int .i64 ch,v']++cntC (L++[⟨(n:Int),c⟩])
  rw [←this]
  rfl
 have s4:(rowD fr len ch v' L).length=20:=by simp [rowD,cntC_len]
 have s5:4+n+1≤20:=by omega
 refine call_intro rfl (by simp only [List.length_cons,List.length_nil];omega) ?_
 generalize hR:rowD fr len ch v L=R at *
 generalize hR2:rowD fr len ch v' L=R2 at *
 simp (maxSteps:=200000) -implicitDefEqProofs only [KA,KB,KC,KD,KE,KF,eq_self,ne_eq,↓reduceIte,Nat.reduceLT,Nat.reduceEqDiff,Nat.reduceAdd,Nat.reduceLeDiff,Nat.reduceSub,Nat.reduceMul,reduceCtorEq,he,hd,hf1,d1,hd1,hf2,hd2,a1,hd3,r1,s1,s2,hf4,g4,ia,r2,w1,s3,s4,s5]
 subst hR hR2
 have hne:∀ j,ownId v' j→j≠d:=fun j hj e=>(a6 j hj).elim (fun e'=>hD.id _ e' e) (fun e'=>by have:=f2.n;omega)
 have f34:Fm (fun j=>j=d) h3 (h4.put d (.rows true 20 0 0 [rowD fr len ch v' (L++[⟨(n:Int),c⟩])])):=by
  rw [hh4];exact (Fm.put (S:=fun j=>j=d) _ _ rfl).trans (Fm.put _ _ rfl)
 refine hP v' _ ⟨?_,?_,hne⟩ (a3.mono f34 hD.id) (fun hn b u R hu hj hR=>?_) ?_ (fun j hj=>(a6 j hj).imp (fun e=>e) (fun e=>by have:=f2.n;omega))
 ·rw [g_put_eq,g4];rfl
 ·rw [List.map_append]
  exact a2.mono f34 hne
 ·exact (a4 hn b u R (hu.mono f2 (fun _ _ e=>e)) (by rw [List.length_map];exact hR)).mono f34 hj
 ·exact ((f2.mono (fun _ _ e=>e.elim)).trans (a5.mono (fun j _ e=>.inr e))).trans (f34.mono (fun j _ e=>.inl e))
end
end
section
set_option maxHeartbeats 4000000
def freeD (fr:Int) (L:List Hd) (a b:Int) (o:Int) (s c:Nat):Prop:=¬hitP L a ⟨fr,s,c,1,b⟩∧¬hitP L b ⟨fr,s,c,o,a⟩
def twoD (fr:Int) (a b:Int) (o:Int) (s c:Nat):List Hd:=[⟨a,⟨fr,s,c,1,b⟩⟩,⟨b,⟨fr,s,c,o,a⟩⟩]
section
variable {k:Nat} {h:Hp} {P:AV→Hp→Prop} {new:Bool} {d:Nat} {fr:Int} {v:CV} {L:List Hd}
def LkL (d a b:Nat) (op:Int) (ln j:Nat) (l:List (Nat × TV)):Prop:=
 lk l 0 = .v (.c (.ptr d 0 0 0))∧lk l 1 = .v (.c (.int .i64 a))∧lk l 2 = .v (.c (.int .i64 b))∧lk l 3 = .v (.c (.int .i64 op))∧lk l 32 = .v (.c (.int .i64 ln))∧lk l 33 = .v (.c (.int .i64 j))
def LkA (h:Hp) (d a b:Nat) (op fr o:Int) (L:List Hd) (ln cn:Nat) (n:Nat) (s:St):Prop:=
 ∃ (j:Nat) (h':Hp) (l:List (Nat × TV)) (lc:List (List CV)),s=ST 89 l lc h'∧j≤ln∧n=ln-j∧Fn h h'∧(∀ s c,s<j→c<cn→¬freeD fr L a b o s c)∧LkL d a b op ln j l
def LkB (h:Hp) (d a b:Nat) (op fr o:Int) (L:List Hd) (ln cn j:Nat) (n:Nat) (s:St):Prop:=
 ∃ (i:Nat) (h':Hp) (l:List (Nat × TV)) (lc:List (List CV)),s=ST 89 l lc h'∧i≤cn∧n=cn-i∧Fn h h'∧(∀ c,c<i→¬freeD fr L a b o j c)∧LkL d a b op ln j l∧
  lk l 9 = .v (.c (.int .i64 j))∧lk l 39 = .v (.c (.int .i64 cn))∧lk l 40 = .v (.c (.int .i64 i))
theorem dlink_ok {a b ln cn:Nat} {op o:Int} (ho:IntKind.wrap .i64 (BitVec.ofInt IntKind.i64.bits 2 ||| BitVec.ofInt IntKind.i64.bits op).toNat=o) (hD:Dl new h d fr ln cn v L) (ha:a<16) (hb:b<16)
 (hln:ln≤1000) (hcn:cn≤16) (hL:L.length≤100000)
 (hP0:∀ h',Fn h h'→(64≤cntN L a∨64≤cntN L b∨∀ s c,s<ln→c<cn→¬freeD fr L a b o s c)→P (.c (.bool false)) h')
 (hP1:∀ h' v' s c,s<ln→c<cn→cntN L a<64→cntN L b<64→freeD fr L a b o s c→(∀ s' c',c'<cn→s'<s∨s'=s∧c'<c→¬freeD fr L a b o s' c')→
  Dl true h' d fr ln cn v' (L++twoD fr a b o s c)→Gw false h' 6 v (L.map encH)→Fm (fun j=>j=d∨ownId v j) h h'→(∀ j,ownId v' j→ownId v j∨h.n≤j)→P (.c (.bool true)) h') :
 callW N (k+8) 253 [.c (.ptr d 0 0 0),.c (.int .i64 a),.c (.int .i64 b),.c (.int .i64 op)] h P:=by
 have hd:=hD.row
 have ia:iaddrAV 16 1 (.v (.c (.ptr d 0 0 4))) a=some (.v (.c (.ptr d 0 0 (4+a)))):=by
  unfold iaddrAV
  rw [if_pos (by omega)]
  simp
 have ib:iaddrAV 16 1 (.v (.c (.ptr d 0 0 4))) b=some (.v (.c (.ptr d 0 0 (4+b)))):=by
  unfold iaddrAV
  rw [if_pos (by omega)]
  simp
 have ra:=rowD_get fr ln cn v L ha
 have rb:=rowD_get fr ln cn v L hb
 have r0:(rowD fr ln cn v L)[0]? = some (.int .i64 fr):=rfl
 have r1:(rowD fr ln cn v L)[1]? = some (.int .i64 ln):=rfl
 have r2:(rowD fr ln cn v L)[2]? = some (.int .i64 cn):=rfl
 have r3:(rowD fr ln cn v L)[3]? = some v:=rfl
 generalize hR:rowD fr ln cn v L=R at *
 refine call_intro rfl (by simp only [List.length_cons,List.length_nil];omega) ?_
 by_cases ca:(64:Int)≤((cntN L a:Nat):Int)
 ·simp (maxSteps:=200000) -implicitDefEqProofs only [KA,KB,KC,KD,KE,KF,eq_self,ne_eq,↓reduceIte,Nat.reduceLT,Nat.reduceEqDiff,Nat.reduceAdd,Nat.reduceLeDiff,Nat.reduceSub,Nat.reduceMul,reduceCtorEq,hd,ia,ib,ra,rb,ca]
  exact hP0 _ (Fm.refl _ _) (.inl (by omega))
 by_cases cb:(64:Int)≤((cntN L b:Nat):Int)
 ·simp (maxSteps:=200000) -implicitDefEqProofs only [KA,KB,KC,KD,KE,KF,eq_self,ne_eq,↓reduceIte,Nat.reduceLT,Nat.reduceEqDiff,Nat.reduceAdd,Nat.reduceLeDiff,Nat.reduceSub,Nat.reduceMul,reduceCtorEq,hd,ia,ib,ra,rb,ca,cb]
  exact hP0 _ (Fm.refl _ _) (.inr (.inl (by omega)))
 simp (maxSteps:=200000) -implicitDefEqProofs only [KA,KB,KC,KD,KE,KF,eq_self,ne_eq,↓reduceIte,Nat.reduceLT,Nat.reduceEqDiff,Nat.reduceAdd,Nat.reduceLeDiff,Nat.reduceSub,Nat.reduceMul,reduceCtorEq,hd,ia,ib,ra,rb,ca,cb,r1]
 refine loop_rd (callW_mono N _) (LkA h d a b op fr o L ln cn) (n:=ln) ⟨0,h,_,_,rfl,by omega,by omega,Fm.refl _ _,fun s c hs=>by omega,rfl,rfl,rfl,rfl,rfl,rfl⟩ ?_
 rintro n s ⟨j,h1,l,lc,rfl,hj,hn,f1,hno,e0,e1,e2,e3,e32,e33⟩
 have hd1:=f1.some hd (fun e=>e)
 by_cases hlt:(j:Int)<ln
 ·simp (maxSteps:=200000) -implicitDefEqProofs only [KA,KB,KC,KD,KE,KF,eq_self,ne_eq,↓reduceIte,Nat.reduceLT,Nat.reduceEqDiff,Nat.reduceAdd,Nat.reduceLeDiff,Nat.reduceSub,Nat.reduceMul,reduceCtorEq,e0,e1,e2,e3,e32,e33,hlt,hd1,r2]
  refine loop_rd (callW_mono N _) (LkB h d a b op fr o L ln cn j) (n:=cn) ⟨0,h1,_,_,rfl,by omega,by omega,f1,fun c hs=>by omega,⟨rfl,rfl,rfl,rfl,rfl,rfl⟩,rfl,rfl,rfl⟩ ?_
  clear e0 e1 e2 e3 e32 e33 hd1
  rintro n2 s ⟨i,h2,l,lc,rfl,hi,hn2,f2,hno2,⟨e0,e1,e2,e3,e32,e33⟩,e9,e39,e40⟩
  have hd2:=f2.some hd (fun e=>e)
  have hw:=wrap_i64 (n:=(i:Int)+1) (by omega)
  have hw2:=wrap_i64 (n:=(j:Int)+1) (by omega)
  by_cases hlt2:(i:Int)<cn
  ·simp (maxSteps:=200000) -implicitDefEqProofs only [KA,KB,KC,KD,KE,KF,eq_self,ne_eq,↓reduceIte,Nat.reduceLT,Nat.reduceEqDiff,Nat.reduceAdd,Nat.reduceLeDiff,Nat.reduceSub,Nat.reduceMul,reduceCtorEq,e0,e1,e2,e3,e32,e33,e9,e39,e40,hlt2,hd2,r0,r3,ho]
   refine clashes_ok (k:=k) (c:=⟨fr,j,i,1,b⟩) (hD.fresh f2).g.sv (by omega) fun h3 f3=>?_
   have f3:=f2.trans f3
   have hd3:=f3.some hd (fun e=>e)
   have no:¬freeD fr L a b o j i→∀ c,c<i+1→¬freeD fr L a b o j c:=by
    intro hnf c hc
    rcases Nat.lt_or_ge c i with h|h
    ·exact hno2 c h
    ·rw [show c=i by omega];exact hnf
   by_cases c1:hitP L a ⟨fr,j,i,1,b⟩
   ·simp (maxSteps:=200000) -implicitDefEqProofs only [KA,KB,KC,KD,KE,KF,eq_self,ne_eq,↓reduceIte,Nat.reduceLT,Nat.reduceEqDiff,Nat.reduceAdd,Nat.reduceLeDiff,Nat.reduceSub,Nat.reduceMul,reduceCtorEq,c1,hw,rd_n]
    exact ⟨n2-1,by omega,i+1,h3,_,_,rfl,by omega,by omega,f3,no (fun h=>h.1 c1),⟨rfl,rfl,rfl,rfl,rfl,rfl⟩,rfl,rfl,rfl⟩
   ·simp (maxSteps:=200000) -implicitDefEqProofs only [KA,KB,KC,KD,KE,KF,eq_self,ne_eq,↓reduceIte,Nat.reduceLT,Nat.reduceEqDiff,Nat.reduceAdd,Nat.reduceLeDiff,Nat.reduceSub,Nat.reduceMul,reduceCtorEq,c1,hd3,r3]
    refine clashes_ok (k:=k) (c:=⟨fr,j,i,o,a⟩) (hD.fresh f3).g.sv (by omega) fun h4 f4=>?_
    have f4:=f3.trans f4
    have hD4:=hD.fresh f4
    by_cases c2:hitP L b ⟨fr,j,i,o,a⟩
    ·simp (maxSteps:=200000) -implicitDefEqProofs only [KA,KB,KC,KD,KE,KF,eq_self,ne_eq,↓reduceIte,Nat.reduceLT,Nat.reduceEqDiff,Nat.reduceAdd,Nat.reduceLeDiff,Nat.reduceSub,Nat.reduceMul,reduceCtorEq,c2,hw,rd_n]
     exact ⟨n2-1,by omega,i+1,h4,_,_,rfl,by omega,by omega,f4,no (fun h=>h.2 c2),⟨rfl,rfl,rfl,rfl,rfl,rfl⟩,rfl,rfl,rfl⟩
    ·simp (maxSteps:=200000) -implicitDefEqProofs only [KA,KB,KC,KD,KE,KF,eq_self,ne_eq,↓reduceIte,Nat.reduceLT,Nat.reduceEqDiff,Nat.reduceAdd,Nat.reduceLeDiff,Nat.reduceSub,Nat.reduceMul,reduceCtorEq,c2]
     subst hR
     refine dput_ok (k:=k+6) (c:=⟨fr,j,i,1,b⟩) hD4 ha (by omega) fun v1 h5 hD5 k5 _ f5 q5=>?_
     simp (maxSteps:=200000) -implicitDefEqProofs only [KA,KB,KC,KD,KE,KF,eq_self,ne_eq,↓reduceIte,Nat.reduceLT,Nat.reduceEqDiff,Nat.reduceAdd,Nat.reduceLeDiff,Nat.reduceSub,Nat.reduceMul,reduceCtorEq]
     refine dput_ok (k:=k+6) (c:=⟨fr,j,i,o,a⟩) hD5 hb (by rw [List.length_append];simp;omega) fun v2 h6 hD6 _ k6 f6 q6=>?_
     simp (maxSteps:=200000) -implicitDefEqProofs only [KA,KB,KC,KD,KE,KF,eq_self,ne_eq,↓reduceIte,Nat.reduceLT,Nat.reduceEqDiff,Nat.reduceAdd,Nat.reduceLeDiff,Nat.reduceSub,Nat.reduceMul,reduceCtorEq]
     refine hP1 h6 v2 j i (by omega) (by omega) (by omega) (by omega) ⟨c1,c2⟩ (fun s' c' hc' hs=>?_) ?_ (k6 rfl _ _ _ k5 hD4.id (by rw [List.length_map,List.length_append];omega)) ((f4.mono (fun _ _ e=>e.elim)).trans (f5.comp f6 (fun j hj e=>e.imp (fun e=>e) (fun e=>(q5 j e).elim (fun e=>e) (fun e=>by omega))))) (fun j hj=>(q6 j hj).elim (fun e=>(q5 j e).imp (fun e=>e) (fun e=>by have:=f4.n;omega)) (fun e=>.inr (by have:=f4.n;have:=f5.n;omega)))
     ·rcases hs with hs|⟨rfl,hs⟩
      ·exact hno s' c' hs hc'
      ·exact hno2 c' hs
     ·unfold twoD
      rw [List.append_assoc] at hD6
      exact hD6
  ·simp (maxSteps:=200000) -implicitDefEqProofs only [KA,KB,KC,KD,KE,KF,eq_self,ne_eq,↓reduceIte,Nat.reduceLT,Nat.reduceEqDiff,Nat.reduceAdd,Nat.reduceLeDiff,Nat.reduceSub,Nat.reduceMul,reduceCtorEq,e0,e1,e2,e3,e32,e33,e9,e39,e40,hlt2,hw2,rd_n]
   exact ⟨n-1,by omega,j+1,h2,_,_,rfl,by omega,by omega,f2,fun s c hs hc=>by
    rcases Nat.lt_or_ge s j with h|h
    ·exact hno s c h hc
    ·rw [show s=j by omega];exact hno2 c (by omega),rfl,rfl,rfl,rfl,rfl,rfl⟩
 ·simp (maxSteps:=200000) -implicitDefEqProofs only [KA,KB,KC,KD,KE,KF,eq_self,ne_eq,↓reduceIte,Nat.reduceLT,Nat.reduceEqDiff,Nat.reduceAdd,Nat.reduceLeDiff,Nat.reduceSub,Nat.reduceMul,reduceCtorEq,e0,e1,e2,e3,e32,e33,hlt]
  exact hP0 _ f1 (.inr (.inr fun s c hs hc=>hno s c (by omega) hc))
end
def plcs (ln cn:Nat):List (Nat × Nat):=(List.range ln).flatMap fun s=>(List.range cn).map fun c=>(s,c)
theorem range_cut {n s:Nat} (h:s<n):∃ R,List.range n=List.range s++s::R:=by
 obtain ⟨m,rfl⟩:∃ m,n=s+(m+1):=⟨n-s-1,by omega⟩
 refine ⟨((List.range m).map Nat.succ).map (s+·),?_⟩
 rw [List.range_add,List.range_succ_eq_map,List.map_cons,Nat.add_zero]
theorem plcs_cut {ln cn s c:Nat} (hs:s<ln) (hc:c<cn):∃ R,plcs ln cn=((plcs s cn)++(List.range c).map fun c=>(s,c))++(s,c)::R:=by
 obtain ⟨R1,h1⟩:=range_cut hs
 obtain ⟨R2,h2⟩:=range_cut hc
 refine ⟨R2.map (fun c=>(s,c))++R1.flatMap fun s=>(List.range cn).map fun c=>(s,c),?_⟩
 unfold plcs
 rw [h1,List.flatMap_append,List.flatMap_cons]
 conv=>lhs;rhs;lhs;rw [h2]
 simp
theorem mem_plcs {ln cn:Nat} {x:Nat × Nat}:x∈plcs ln cn↔x.1<ln∧x.2<cn:=by
 obtain ⟨s,c⟩:=x
 simp [plcs]
open Classical in
noncomputable def place (fr:Int) (L:List Hd) (a b:Nat) (o:Int) (ln cn:Nat):Option (Nat × Nat):=
 if 64≤cntN L a∨64≤cntN L b then none else (plcs ln cn).find? fun x=>decide (freeD fr L a b o x.1 x.2)
theorem place_none {fr:Int} {L:List Hd} {a b:Nat} {o:Int} {ln cn:Nat} (h:64≤cntN L a∨64≤cntN L b∨∀ s c,s<ln→c<cn→¬freeD fr L a b o s c):place fr L a b o ln cn=none:=by
 unfold place
 split
 ·rfl
 ·rename_i hn
  rw [List.find?_eq_none]
  intro x hx
  have:=mem_plcs.mp hx
  rcases h with h|h|h
  ·exact absurd (.inl h) hn
  ·exact absurd (.inr h) hn
  ·simpa using h _ _ this.1 this.2
theorem place_some {fr:Int} {L:List Hd} {a b:Nat} {o:Int} {ln cn s c:Nat} (hs:s<ln) (hc:c<cn) (ha:cntN L a<64) (hb:cntN L b<64) (hf:freeD fr L a b o s c) (hm:∀ s' c',c'<cn→s'<s∨s'=s∧c'<c→¬freeD fr L a b o s' c'):place fr L a b o ln cn=some (s,c):=by
 unfold place
 rw [if_neg (by omega),List.find?_eq_some_iff_append]
 obtain ⟨R,hR⟩:=plcs_cut hs hc
 refine ⟨by simpa using hf,_,R,hR,fun x hx=>?_⟩
 have:¬freeD fr L a b o x.1 x.2:=by
  rcases List.mem_append.mp hx with hx|hx
  ·have:=mem_plcs.mp hx
   exact hm _ _ this.2 (.inl this.1)
  ·obtain ⟨c',hc',rfl⟩:=List.mem_map.mp hx
   rw [List.mem_range] at hc'
   exact hm _ _ (by omega) (.inr ⟨rfl,hc'⟩)
 simpa using this
theorem place_is {fr:Int} {L:List Hd} {a b:Nat} {o:Int} {ln cn:Nat} {x:Nat × Nat} (h:place fr L a b o ln cn=some x):(x.1<ln∧x.2<cn)∧cntN L a<64∧cntN L b<64∧freeD fr L a b o x.1 x.2:=by
 unfold place at h
 split at h
 ·cases h
 ·rename_i hn
  have h1:=List.find?_some h
  exact ⟨mem_plcs.mp (List.mem_of_find?_eq_some h),by omega,by omega,by simpa using h1⟩
theorem Fm.trans' {S T:Nat→Prop} {a b c:Hp} (h:Fm S a b) (k:Fm T b c):Fm (fun j=>S j∨T j) a c:=(h.mono fun _ _ e=>.inl e).trans (k.mono fun _ _ e=>.inr e)
noncomputable def bothF (fr:Int) (L:List Hd) (n p ln cn:Nat):Option (List Hd):=
 (place fr L n p 2 ln cn).bind fun x=>(place fr (L++twoD fr n p 2 x.1 x.2) p n 10 ln cn).map fun y=>(L++twoD fr n p 2 x.1 x.2)++twoD fr p n 10 y.1 y.2
section
variable {k:Nat} {h:Hp} {P:AV→Hp→Prop} {new:Bool} {d:Nat} {fr:Int} {v:CV} {L:List Hd}
theorem both_ok {a b ln cn:Nat} (hD:Dl new h d fr ln cn v L) (ha:a<16) (hb:b<16) (hln:ln≤1000) (hcn:cn≤16) (hL:L.length≤90000)
 (hP0:∀ h',bothF fr L a b ln cn=none→Dl false h' d fr ln cn v L→Fm (fun j=>j=d∨ownId v j) h h'→P (.c (.bool false)) h')
 (hP1:∀ h' v' L',bothF fr L a b ln cn=some L'→Dl false h' d fr ln cn v' L'→Fm (fun j=>j=d∨ownId v j) h h'→(∀ j,ownId v' j→ownId v j∨h.n≤j)→P (.c (.bool true)) h') :
 callW N (k+9) 250 [.c (.ptr d 0 0 0),.c (.int .i64 a),.c (.int .i64 b)] h P:=by
 have hd:=hD.row
 have s4:(rowD fr ln cn v L).length=20:=by simp [rowD,cntC_len]
 have s5:(rowD fr ln cn v L).take 20=rowD fr ln cn v L:=List.take_of_length_le (by omega)
 have s6:(rowD fr ln cn v L).drop 20=[]:=List.drop_of_length_le (by omega)
 refine call_intro rfl (by simp only [List.length_cons,List.length_nil];omega) ?_
 generalize hR:rowD fr ln cn v L=R at *
 simp (maxSteps:=200000) -implicitDefEqProofs only [KA,KB,KC,KD,KE,KF,eq_self,ne_eq,↓reduceIte,Nat.reduceLT,Nat.reduceEqDiff,Nat.reduceAdd,Nat.reduceLeDiff,Nat.reduceSub,Nat.reduceMul,reduceCtorEq,hd,s4,s5,s6]
 refine dlink_ok (k:=k) (o:=2) (by decide) hD ha hb hln hcn (by omega) (fun h1 f1 hno=>?_) fun h1 v1 s c hs hc ca cb hfr hmin hD1 k1 f1 q1=>?_
 ·have hb1:bothF fr L a b ln cn=none:=by unfold bothF;rw [place_none hno];rfl
  have hd1:=f1.some hd (fun e=>e)
  simp (maxSteps:=200000) -implicitDefEqProofs only [KA,KB,KC,KD,KE,KF,eq_self,ne_eq,↓reduceIte,Nat.reduceLT,Nat.reduceEqDiff,Nat.reduceAdd,Nat.reduceLeDiff,Nat.reduceSub,Nat.reduceMul,reduceCtorEq,hd1,s4,s5,s6]
  refine hP0 _ hb1 ⟨by rw [g_put_eq,hd1,hR];rfl,hD.g.old.mono (f1.trans' (Fm.put (S:=fun j=>j=d) _ _ rfl)) (fun j hj e=>e.elim (fun e=>e) (hD.id j hj)),hD.id⟩ ((f1.mono (fun _ _ e=>e.elim)).trans (Fm.put _ _ (.inl rfl)))
 ·have p1:=place_some hs hc ca cb hfr hmin
  simp (maxSteps:=200000) -implicitDefEqProofs only [KA,KB,KC,KD,KE,KF,eq_self,ne_eq,↓reduceIte,Nat.reduceLT,Nat.reduceEqDiff,Nat.reduceAdd,Nat.reduceLeDiff,Nat.reduceSub,Nat.reduceMul,reduceCtorEq]
  refine dlink_ok (k:=k) (o:=10) (by decide) hD1 hb ha hln hcn (by rw [List.length_append];simp [twoD];omega) (fun h2 f2 hno=>?_) fun h2 v2 s2 c2 hs2 hc2 ca2 cb2 hfr2 hmin2 hD2 k2 f2 q2=>?_
  ·have hb1:bothF fr L a b ln cn=none:=by unfold bothF;rw [p1,Option.bind_some,place_none hno];rfl
   have hd2:=f2.some hD1.row (fun e=>e)
   have s7:(rowD fr ln cn v1 (L++twoD fr a b 2 s c)).length=20:=by simp [rowD,cntC_len]
   have s8:(rowD fr ln cn v1 (L++twoD fr a b 2 s c)).drop 20=[]:=List.drop_of_length_le (by omega)
   generalize rowD fr ln cn v1 (L++twoD fr a b 2 s c)=R2 at *
   simp (maxSteps:=200000) -implicitDefEqProofs only [KA,KB,KC,KD,KE,KF,eq_self,ne_eq,↓reduceIte,Nat.reduceLT,Nat.reduceEqDiff,Nat.reduceAdd,Nat.reduceLeDiff,Nat.reduceSub,Nat.reduceMul,reduceCtorEq,hd2,s4,s5,s6,s7,s8]
   refine hP0 _ hb1 ⟨by rw [g_put_eq,hd2,hR];rfl,k1.mono (f2.trans' (Fm.put (S:=fun j=>j=d) _ _ rfl)) (fun j hj e=>e.elim (fun e=>e) (hD.id j hj)),hD.id⟩ ((f1.trans (f2.mono (fun _ _ e=>e.elim))).trans (Fm.put _ _ (.inl rfl)))
  ·have p2:=place_some hs2 hc2 ca2 cb2 hfr2 hmin2
   have hb1:bothF fr L a b ln cn=some ((L++twoD fr a b 2 s c)++twoD fr b a 10 s2 c2):=by unfold bothF;rw [p1,Option.bind_some,p2];rfl
   simp (maxSteps:=200000) -implicitDefEqProofs only [KA,KB,KC,KD,KE,KF,eq_self,ne_eq,↓reduceIte,Nat.reduceLT,Nat.reduceEqDiff,Nat.reduceAdd,Nat.reduceLeDiff,Nat.reduceSub,Nat.reduceMul,reduceCtorEq]
   exact hP1 h2 v2 _ hb1 hD2.old (f1.comp f2 (fun j hj e=>e.imp (fun e=>e) (fun e=>(q1 j e).elim (fun e=>e) (fun e=>by omega)))) (fun j hj=>(q2 j hj).elim (q1 j) (fun e=>.inr (by have:=f1.n;omega)))
end
end
section
set_option maxHeartbeats 4000000
noncomputable def dstep (fr:Int) (ln cn:Nat) (par:Int→List Int) (s:List Hd × List Int) (n:Int):List Hd × List Int:=
 if n=0 then s else
 match par n with
 | []=>(s.1,s.2++[n])
 | p::_=>match bothF fr s.1 n.toNat p.toNat ln cn with
  | some L=>(L,s.2)
  | none=>(s.1,s.2++[n])
noncomputable def dealF (fr:Int) (ln cn:Nat) (par:Int→List Int) (ol:List Int):List Hd × List Int:=ol.foldl (dstep fr ln cn par) ([],[])
theorem dealF_snoc (fr:Int) (ln cn:Nat) (par:Int→List Int) (ol:List Int) (x:Int):dealF fr ln cn par (ol++[x])=dstep fr ln cn par (dealF fr ln cn par ol) x:=by simp [dealF]
theorem bothF_len {fr:Int} {L L':List Hd} {n p ln cn:Nat} (h:bothF fr L n p ln cn=some L'):L'.length=L.length+4:=by
 unfold bothF at h
 rw [Option.bind_eq_some_iff] at h
 obtain ⟨x,_,h⟩:=h
 rw [Option.map_eq_some_iff] at h
 obtain ⟨y,_,rfl⟩:=h
 simp [twoD]
theorem dealS_len (fr:Int) (ln cn:Nat) (par:Int→List Int):∀ (ol:List Int) (s:List Hd × List Int),(ol.foldl (dstep fr ln cn par) s).1.length≤s.1.length+4 * ol.length∧(ol.foldl (dstep fr ln cn par) s).2.length≤s.2.length+ol.length
 | [],s=>⟨Nat.le_refl _,Nat.le_refl _⟩
 | x::ol,s=>by
  have ih:=dealS_len fr ln cn par ol (dstep fr ln cn par s x)
  have h1:(dstep fr ln cn par s x).1.length≤s.1.length+4∧(dstep fr ln cn par s x).2.length≤s.2.length+1:=by
   unfold dstep
   split
   ·omega
   ·split
    ·simp only [List.length_append,List.length_singleton];omega
    ·split
     ·rename_i h
      have:=bothF_len h
      simp only
      omega
     ·simp only [List.length_append,List.length_singleton];omega
  rw [List.foldl_cons,List.length_cons]
  omega
theorem dealF_len (fr:Int) (ln cn:Nat) (par:Int→List Int) (ol:List Int):(dealF fr ln cn par ol).1.length≤4 * ol.length∧(dealF fr ln cn par ol).2.length≤ol.length:=by
 have:=dealS_len fr ln cn par ol ([],[])
 simpa [dealF] using this
theorem SL.ltn {h:Hp} {sz:Nat} {v:CV} {rows:List (List CV)} (k:SL h sz v rows) {j:Nat} (hj:ownId v j):j<h.n:=by
 cases v <;> simp only [ownId] at hj
 case sl id tok off len cap=>
  obtain ⟨_,_,_,_,h1,_⟩:=k
  subst hj
  exact lt_of_g h1
section
variable {k:Nat} {h:Hp} {P:AV→Hp→Prop} {fr:Int} {ln cn:Nat} {t d:Nat} {f:Int→Option Nat} {par:Int→List Int} {ol:List Int}
structure DeS (h0 h:Hp) (d:Nat) (fr:Int) (ln cn:Nat) (par:Int→List Int) (ol:List Int) (w v nv:CV) (i:Nat):Prop where
 dl:Dl false h d fr ln cn v (dealF fr ln cn par (ol.take i)).1
 no:Ow h 1 nv (rI (dealF fr ln cn par (ol.take i)).2)
 fn:Fn h0 h
 so:SL h 1 w (rI ol)
 lo:h0.n≤d
 sw:∀ j,ownId w j→j≠d∧¬ownId v j∧¬ownId nv j
 sv:∀ j,ownId v j→h0.n≤j∧¬ownId nv j
 sn:∀ j,ownId nv j→h0.n≤j∧j≠d
theorem DeS.fresh {h0 h1 h2:Hp} {w v nv:CV} {i:Nat} (k:DeS h0 h1 d fr ln cn par ol w v nv i) (f2:Fn h1 h2):DeS h0 h2 d fr ln cn par ol w v nv i:=
 ⟨k.dl.fresh f2,k.no.new f2,k.fn.trans f2,k.so.new f2,k.lo,k.sw,k.sv,k.sn⟩
theorem DeS.add {h0 h1 h2:Hp} {w v nv nv':CV} {i:Nat} {x:Int} (k:DeS h0 h1 d fr ln cn par ol w v nv i) (hd:dealF fr ln cn par (ol.take (i+1))=((dealF fr ln cn par (ol.take i)).1,(dealF fr ln cn par (ol.take i)).2++[x]))
 (ho:Ow h2 1 nv' (rI ((dealF fr ln cn par (ol.take i)).2++[x]))) (f:Fm (ownId nv) h1 h2) (hq:∀ j,ownId nv' j→ownId nv j∨h1.n≤j):DeS h0 h2 d fr ln cn par ol w v nv' (i+1):=by
 have hdn:=lt_of_g k.dl.row
 have hvn:∀ j,ownId v j→j<h1.n:=fun j hj=>k.dl.g.lt hj
 have hwn:∀ j,ownId w j→j<h1.n:=fun j hj=>k.so.ltn hj
 refine ⟨?_,by rw [hd];exact ho,k.fn.fresh f (fun j hj=>(k.sn j hj).1),k.so.mono f (fun id _ _ _ _ e hj=>(k.sw id (by rw [e];rfl)).2.2 hj),k.lo,fun j hj=>⟨(k.sw j hj).1,(k.sw j hj).2.1,fun e=>(hq j e).elim (k.sw j hj).2.2 (fun e=>by have:=hwn j hj;omega)⟩,
  fun j hj=>⟨(k.sv j hj).1,fun e=>(hq j e).elim (k.sv j hj).2 (fun e=>by have:=hvn j hj;omega)⟩,fun j hj=>(hq j hj).elim (k.sn j) (fun e=>⟨by have:=k.fn.n;omega,by omega⟩)⟩
 rw [hd]
 exact ⟨f.some k.dl.row (fun e=>(k.sn _ e).2 rfl),k.dl.g.mono f (fun j hj=>(k.sv j hj).2),k.dl.id⟩
theorem DeS.both {h0 h1 h2:Hp} {w v v' nv:CV} {i:Nat} {L:List Hd} (k:DeS h0 h1 d fr ln cn par ol w v nv i) (hd:dealF fr ln cn par (ol.take (i+1))=(L,(dealF fr ln cn par (ol.take i)).2))
 (ho:Dl false h2 d fr ln cn v' L) (f:Fm (fun j=>j=d∨ownId v j) h1 h2) (hq:∀ j,ownId v' j→ownId v j∨h1.n≤j):DeS h0 h2 d fr ln cn par ol w v' nv (i+1):=by
 have hwn:∀ j,ownId w j→j<h1.n:=fun j hj=>k.so.ltn hj
 have hnn:∀ j,ownId nv j→j<h1.n:=fun j hj=>k.no.lt hj
 refine ⟨by rw [hd];exact ho,?_,k.fn.fresh f (fun j hj=>hj.elim (fun e=>by rw [e];exact k.lo) (fun e=>(k.sv j e).1)),k.so.mono f (fun id _ _ _ _ e hj=>?_),k.lo,fun j hj=>⟨(k.sw j hj).1,fun e=>(hq j e).elim (k.sw j hj).2.1 (fun e=>by have:=hwn j hj;omega),(k.sw j hj).2.2⟩,
  fun j hj=>(hq j hj).elim (k.sv j) (fun e=>⟨by have:=k.fn.n;omega,fun e'=>by have:=hnn j e';omega⟩),k.sn⟩
 ·rw [hd]
  exact k.no.mono f (fun j hj e=>e.elim (k.sn j hj).2 (fun e=>(k.sv j e).2 hj))
 ·have:=k.sw id (by rw [e];rfl)
  exact hj.elim this.1 this.2.1
def DeA (h0:Hp) (t d:Nat) (fr:Int) (ln cn:Nat) (par:Int→List Int) (ol:List Int) (w:CV) (n:Nat) (s:St):Prop:=
 ∃ (i:Nat) (h':Hp) (v nv:CV) (l:List (Nat × TV)) (lc:List (List CV)),s=ST 116 l lc h'∧i≤ol.length∧n=ol.length-i∧DeS h0 h' d fr ln cn par ol w v nv i∧
  lk l 0 = .v (.c (.ptr t 0 0 0))∧lk l 10 = .v (.c (.ptr d 0 0 0))∧lk l 11 = .v (.c nv)∧lk l 52 = .v (.c w)∧lk l 53 = .v (.c (.int .i64 ol.length))∧lk l 54 = .v (.c (.int .i64 i))
end
end
section
set_option maxHeartbeats 4000000
abbrev kI (n:Int):AV:=.c (.int .i64 n)
def celsN (L:List Hd) (n:Int):List Cel:=(L.filter fun x=>decide (x.n=n)).map (·.c)
theorem celsN_snoc (L:List Hd) (x:Hd) (n:Int):celsN (L++[x]) n=if n=x.n then celsN L x.n++[x.c] else celsN L n:=by
 unfold celsN
 rw [List.filter_append,List.map_append]
 by_cases h:n=x.n
 ·subst h
  rw [if_pos rfl,List.filter_cons_of_pos (by simp)]
  rfl
 ·rw [if_neg h,List.filter_cons_of_neg (by simp;exact fun e=>h e.symm)]
  simp
structure MS (h:Hp) (b m:Nat) (es:List ME) (clock:Nat) (Lk:Int→List Cel):Prop where
 hm:h.g m=some (.map true es clock)
 en:Ents (.int .i64) es clock
 each:∀ e∈es,∃ n v,e.key=kI n∧e.val = .c v∧Ow h 5 v ((Lk n).map encE)∧Lk n≠[]∧∀ j,ownId v j→b≤j∧j≠m
 sep:∀ e∈es,∀ e'∈es,e.key≠e'.key→∀ v v',e.val = .c v→e'.val = .c v'→∀ j,ownId v j→¬ownId v' j
 all:∀ n,Lk n≠[]→∃ e∈es,e.key=kI n
section
variable {h:Hp} {b m clock:Nat} {es:List ME} {Lk:Int→List Cel}
theorem MS.nil {h:Hp} {b m clock:Nat} (hm:h.g m=some (.map true [] clock)):MS h b m [] clock fun _=>[]:=
 ⟨hm,Ents.nil _ _,by simp,by simp,fun n h=>absurd rfl h⟩
theorem MS.new (k:MS h b m es clock Lk) {h':Hp} (f:Fn h h'):MS h' b m es clock Lk:=
 ⟨f.some k.hm (fun e=>e),k.en,fun e he=>by obtain ⟨n,v,h1,h2,h3,h4,h5⟩:=k.each e he;exact ⟨n,v,h1,h2,h3.new f,h4,h5⟩,k.sep,k.all⟩
theorem MS.look (k:MS h b m es clock Lk) (n:Int):(Lk n=[]∧lookT h (.int .i64) (.v (.c (.map m))) (some (kI n))=some none)∨
 ∃ e∈es,∃ v,e.key=kI n∧e.val = .c v∧Ow h 5 v ((Lk n).map encE)∧Lk n≠[]∧(∀ j,ownId v j→b≤j∧j≠m)∧lookT h (.int .i64) (.v (.c (.map m))) (some (kI n))=some (some (.c v)):=by
 have hl:=look_ok (k:=kI n) k.hm (funOf_is k.en) rfl
 by_cases hx:∃ e∈es,e.key=kI n
 ·obtain ⟨e,he,hk⟩:=hx
  obtain ⟨n',v,h1,h2,h3,h4,h5⟩:=k.each e he
  have hn:n'=n:=by rw [hk] at h1;injection h1 with h1;injection h1 with _ h1;exact h1.symm
  subst hn
  have:=((funOf_is k.en).vals (kI n') (.c v)).mpr ⟨e,he,hk,h2⟩
  rw [this] at hl
  exact .inr ⟨e,he,v,hk,h2,h3,h4,h5,hl⟩
 ·have hL:Lk n=[]:=by
   cases hq:Lk n with
   | nil=>rfl
   | cons a l=>exact absurd (k.all n (by rw [hq];simp)) hx
  have:funOf es (kI n)=none:=by
   cases hf:funOf es (kI n) with
   | none=>rfl
   | some v=>
    obtain ⟨e,he,h1,_⟩:=((funOf_is k.en).vals _ _).mp hf
    exact absurd ⟨e,he,h1⟩ hx
  rw [this] at hl
  exact .inl ⟨hL,hl⟩
theorem MS.add (k:MS h b m es clock Lk) {h2 h3:Hp} (f2:Fn h h2) {n:Int} {c:Cel} {cur v':CV} (hcur:cur = .nils∨∃ e∈es,e.key=kI n∧e.val = .c cur) (f3:Fm (ownId cur) h2 h3) (ho:Ow h3 5 v' ((Lk n++[c]).map encE)) (hq:∀ j,ownId v' j→ownId cur j∨h2.n≤j) (hb:b≤h.n) :
 ∃ es' clock',mupdT h3 (.int .i64) (.v (.c (.map m))) (some (kI n)) (some (.c v'))=some (h3.put m (.map true es' clock'))∧es'.length≤es.length+1∧MS (h3.put m (.map true es' clock')) b m es' clock' fun n'=>if n'=n then Lk n++[c] else Lk n':=by
 have hmn:=lt_of_g k.hm
 have hcb:∀ j,ownId cur j→b≤j∧j≠m:=by
  rcases hcur with rfl|⟨e,he,hk,hv⟩
  ·exact fun _ e=>e.elim
  ·obtain ⟨n',v,h1,h2,h3,h4,h5⟩:=k.each e he
   rw [hv] at h2
   injection h2 with h2
   rw [h2];exact h5
 have hcl:∀ j,ownId cur j→j<h.n:=by
  rcases hcur with rfl|⟨e,he,hk,hv⟩
  ·exact fun _ e=>e.elim
  ·obtain ⟨n',v,h1,h2,h3,h4,h5⟩:=k.each e he
   rw [hv] at h2
   injection h2 with h2
   rw [h2];exact fun j hj=>h3.lt hj
 have hm3:h3.g m=some (.map true es clock):=f3.some (f2.some k.hm (fun e=>e)) (fun e=>(hcb _ e).2 rfl)
 obtain ⟨es',clock',u1,u2,u3,u4,u5,u6⟩:=mupd_bk (k:=kI n) (x:=.c v') hm3 k.en rfl
 have hv'm:∀ j,ownId v' j→b≤j∧j≠m:=fun j hj=>(hq j hj).elim (hcb j) (fun e=>⟨by have:=f2.n;omega,by have:=f2.n;omega⟩)
 have old:∀ e0∈es,e0.key≠kI n→∀ v,e0.val = .c v→∀ j,ownId v j→¬ownId cur j:=by
  intro e0 he0 hk0 v hv j hj
  rcases hcur with rfl|⟨e,he,hk,hv2⟩
  ·exact fun e=>e
  ·exact k.sep e0 he0 e he (by rw [hk];exact hk0) v cur hv hv2 j hj
 refine ⟨es',clock',u1,u3,⟨by rw [g_put_eq,hm3];rfl,u2,fun e he=>?_,fun e he e' he' hne v w hv hw j hj=>?_,fun n' hn'=>?_⟩⟩
 ·rcases u4 e he with ⟨h1,h2⟩|⟨h1,e0,he0,h2,h4⟩
  ·refine ⟨n,v',h1,h2,?_,by rw [if_pos rfl];simp,hv'm⟩
   rw [if_pos rfl]
   exact ho.mono (Fm.put (S:=fun j=>j=m) _ _ rfl) (fun j hj=>(hv'm j hj).2)
  ·obtain ⟨n0,v,q1,q2,q3,q4,q5⟩:=k.each e0 he0
   have hnn:¬n0=n:=by rintro rfl;exact h1 (by rw [←h2];exact q1)
   refine ⟨n0,v,by rw [←h2];exact q1,by rw [←h4];exact q2,?_,by rw [if_neg hnn];exact q4,q5⟩
   rw [if_neg hnn]
   exact ((q3.new f2).mono f3 (fun j hj=>old e0 he0 (by rw [h2];exact h1) v q2 j hj)).mono (Fm.put (S:=fun j=>j=m) _ _ rfl) (fun j hj=>(q5 j hj).2)
 ·rcases u4 e he with ⟨h1,h2⟩|⟨h1,e0,he0,h2,h4⟩ <;> rcases u4 e' he' with ⟨h1',h2'⟩|⟨h1',e0',he0',h2',h4'⟩
  ·exact absurd (h1.trans h1'.symm) hne
  ·rw [h2] at hv
   injection hv with hv
   subst hv
   have hw0:e0'.val = .c w:=h4'.trans hw
   intro hj'
   obtain ⟨n0,v0,q1,q2,q3,q4,q5⟩:=k.each e0' he0'
   rw [hw0] at q2
   injection q2 with q2
   subst q2
   rcases hq j hj with e|e
   ·exact old e0' he0' (by rw [h2'];exact h1') w hw0 j hj' e
   ·have:=q3.lt hj';have:=f2.n;omega
  ·rw [h2'] at hw
   injection hw with hw
   subst hw
   have hv0:e0.val = .c v:=h4.trans hv
   intro hj'
   obtain ⟨n0,v0,q1,q2,q3,q4,q5⟩:=k.each e0 he0
   rw [hv0] at q2
   injection q2 with q2
   subst q2
   rcases hq j hj' with e|e
   ·exact old e0 he0 (by rw [h2];exact h1) v hv0 j hj e
   ·have:=q3.lt hj;have:=f2.n;omega
  ·exact k.sep e0 he0 e0' he0' (by rw [h2,h2'];exact hne) v w (h4.trans hv) (h4'.trans hw) j hj
 ·by_cases hnn:n'=n
  ·subst hnn
   obtain ⟨e,he,h1,_⟩:=u5
   exact ⟨e,he,h1⟩
  ·simp only [if_neg hnn] at hn'
   obtain ⟨e,he,h1⟩:=k.all n' hn'
   obtain ⟨e',he',h2,_⟩:=u6 e he (by rw [h1];intro e;injection e with e;injection e with _ e;exact hnn e)
   exact ⟨e',he',h2.trans h1⟩
theorem MS.upd (k:MS h b m es clock Lk) {h':Hp} {e:ME} {n:Int} {v:CV} {T:List Cel} (he:e∈es) (hk:e.key=kI n) (hv:e.val = .c v) (f:Fm (ownId v) h h') (ho:Ow h' 5 v (T.map encE)) (hT:T.Perm (Lk n)) :
 MS h' b m es clock fun n'=>if n'=n then T else Lk n':=by
 obtain ⟨n0,v0,q1,q2,q3,q4,q5⟩:=k.each e he
 have hn:n0=n:=by rw [hk] at q1;injection q1 with q1;injection q1 with _ q1;exact q1.symm
 subst hn
 rw [hv] at q2
 injection q2 with q2
 subst q2
 have hT0:T≠[]:=fun e=>q4 (by rw [e] at hT;exact List.Perm.eq_nil (hT.symm))
 refine ⟨f.some k.hm (fun e=>(q5 _ e).2 rfl),k.en,fun e' he'=>?_,k.sep,fun n' hn'=>?_⟩
 ·obtain ⟨n',w,r1,r2,r3,r4,r5⟩:=k.each e' he'
  by_cases hnn:n'=n0
  ·subst hnn
   have:=uniq_key k.en.uniq he he' (hk.trans r1.symm)
   subst this
   rw [hv] at r2
   injection r2 with r2
   subst r2
   exact ⟨n',v,r1,hv,by rw [if_pos rfl];exact ho,by rw [if_pos rfl];exact hT0,r5⟩
  ·refine ⟨n',w,r1,r2,?_,by rw [if_neg hnn];exact r4,r5⟩
   rw [if_neg hnn]
   exact r3.mono f (fun j hj hj'=>k.sep e' he' e he (by rw [r1,hk];intro e;injection e with e;injection e with _ e;exact hnn e) w v r2 hv j hj hj')
 ·by_cases hnn:n'=n0
  ·subst hnn;exact k.all n' q4
  ·simp only [if_neg hnn] at hn';exact k.all n' hn'
theorem Ow.arr {α:Type} {enc:α→List CV} {sz:Nat} {v:CV} {L:List α} (ho:Ow h sz v (L.map enc)) (hL:L≠[]):∃ id tok rest,v = .sl id tok 0 L.length none∧Ar enc sz h id tok rest L:=by
 cases v <;> simp only [Ow] at ho
 case nils=>exact absurd (List.map_eq_nil_iff.mp ho) hL
 case sl id tok off len cap=>
  obtain ⟨rfl,rfl,lw,rs,h1,h2,h3,h4⟩:=ho
  have hlen:len=L.length:=by
   have:=congrArg List.length h4
   rw [List.length_map,List.length_take] at this
   omega
  subst hlen
  exact ⟨id,tok,rs.drop L.length,rfl,lw,h2,by rw [h1];congr 2;rw [h4,List.take_append_drop]⟩
theorem Ar.ow {α:Type} {enc:α→List CV} {sz id tok:Nat} {rest:List (List CV)} {L:List α} (k:Ar enc sz h id tok rest L):Ow h sz (.sl id tok 0 L.length none) (L.map enc):=by
 obtain ⟨lw,h1,h2⟩:=k
 refine ⟨rfl,rfl,lw,_,h2,h1,by rw [List.length_append,List.length_map];omega,?_⟩
 rw [List.take_append_of_le_length (by rw [List.length_map];omega),List.take_of_length_le (by rw [List.length_map];omega)]
end
end
section
set_option maxHeartbeats 4000000
def lessC (x y:Cel):Bool:=lessB x.f x.s x.c x.o x.p y.f y.s y.c y.o y.p
def ltC (x y:Cel):Prop:=lessC x y=true
theorem ltC_iff {x y:Cel}:ltC x y↔(x.f<y.f∨(x.f=y.f∧(x.s<y.s∨(x.s=y.s∧(x.c<y.c∨(x.c=y.c∧(x.o<y.o∨(x.o=y.o∧x.p<y.p)))))))):=by
 unfold ltC lessC lessB
 rw [decide_eq_true_eq]
theorem swoC:SWO ltC:=by
 refine ⟨fun x=>?_,fun {x y z}=>?_,fun {x y z}=>?_⟩
 ·rw [ltC_iff];omega
 ·rw [ltC_iff,ltC_iff,ltC_iff];omega
 ·rw [ltC_iff,ltC_iff,ltC_iff];omega
theorem dealS_sub (fr:Int) (ln cn:Nat) (par:Int→List Int):∀ (ol:List Int) (s:List Hd × List Int),∃ R,(ol.foldl (dstep fr ln cn par) s).2=s.2++R∧R.Sublist ol
 | [],s=>⟨[],by simp,List.Sublist.refl _⟩
 | x::ol,s=>by
  obtain ⟨R,h1,h2⟩:=dealS_sub fr ln cn par ol (dstep fr ln cn par s x)
  have hs:(dstep fr ln cn par s x).2=s.2∨(dstep fr ln cn par s x).2=s.2++[x]:=by
   unfold dstep
   split
   ·exact .inl rfl
   ·split
    ·exact .inr rfl
    ·split
     ·exact .inl rfl
     ·exact .inr rfl
  rw [List.foldl_cons,h1]
  rcases hs with hs|hs
  ·exact ⟨R,by rw [hs],h2.cons _⟩
  ·exact ⟨x::R,by rw [hs];simp,h2.cons_cons _⟩
theorem dealF_nodup {fr:Int} {ln cn:Nat} {par:Int→List Int} {ol:List Int} (h:ol.Nodup):(dealF fr ln cn par ol).2.Nodup:=by
 obtain ⟨R,h1,h2⟩:=dealS_sub fr ln cn par ol ([],[])
 unfold dealF
 rw [h1]
 exact h2.nodup h
theorem celsN_len (L:List Hd) (n:Int):(celsN L n).length≤L.length:=by
 unfold celsN
 rw [List.length_map]
 exact List.length_filter_le _ _
section
variable {k:Nat} {h:Hp} {P:AV→Hp→Prop} {fr:Int} {ln cn:Nat} {t d:Nat} {f:Int→Option Nat} {par:Int→List Int} {ol:List Int}
theorem cless_ok {x y:Cel} (hP:P (.c (.bool (lessC x y))) h):callW N (k+1) 156 [.agg (encE x),.agg (encE y)] h P:=
 ⟨lessN,rfl,(show 2≤3 by omega),_,_,rfl,rfl,rfl,.inr rfl,_,rfl,hP⟩
theorem cmpA:CmpOkt ltC 251 2:=by
 intro F x y h' Q hF hQ
 obtain ⟨k,rfl⟩:∃ k,F=k+2:=⟨F-2,by omega⟩
 have henc:∀ x,(encE x).length=5:=fun _=>rfl
 have htk:∀ x,(encE x).take 5=encE x:=fun _=>rfl
 refine call_intro rfl (by simp only [List.length_cons,List.length_nil];omega) ?_
 simp (maxSteps:=200000) -implicitDefEqProofs only [KA,KB,KC,KD,KE,KF,eq_self,ne_eq,↓reduceIte,Nat.reduceLT,Nat.reduceEqDiff,Nat.reduceAdd,Nat.reduceLeDiff,Nat.reduceSub,Nat.reduceMul,reduceCtorEq,henc,htk]
 refine cless_ok (k:=k) ?_
 by_cases c:ltC x y
 ·have c':lessC x y=true:=c
  rw [c']
  simp (maxSteps:=200000) -implicitDefEqProofs only [KA,KB,KC,KD,KE,KF,eq_self,ne_eq,↓reduceIte,Nat.reduceLT,Nat.reduceEqDiff,Nat.reduceAdd,Nat.reduceLeDiff,Nat.reduceSub,Nat.reduceMul,reduceCtorEq]
  exact hQ _ ⟨fun _=>c,fun _=>by omega⟩
 ·have c':lessC x y=false:=by simpa [ltC] using c
  rw [c']
  simp (maxSteps:=200000) -implicitDefEqProofs only [KA,KB,KC,KD,KE,KF,eq_self,ne_eq,↓reduceIte,Nat.reduceLT,Nat.reduceEqDiff,Nat.reduceAdd,Nat.reduceLeDiff,Nat.reduceSub,Nat.reduceMul,reduceCtorEq]
  exact hQ _ ⟨fun e=>by omega,fun e=>absurd e c⟩
def MpJ (h5:Hp) (v nv:CV) (L:List Hd) (n:Nat) (s:St):Prop:=
 ∃ (i:Nat) (es:List ME) (clock:Nat) (h':Hp) (l:List (Nat × TV)) (lc:List (List CV)),s=ST 116 l lc h'∧i≤L.length∧n=L.length-i∧Fn h5 h'∧MS h' h5.n h5.n es clock (celsN (L.take i))∧es.length≤i∧
  lk l 11 = .v (.c nv)∧lk l 15 = .v (.c (.map h5.n))∧lk l 88 = .v (.c v)∧lk l 89 = .v (.c (.int .i64 L.length))∧lk l 90 = .v (.c (.int .i64 i))
def SoJ (h5 h6:Hp) (nv:CV) (T:List Int) (es:List ME) (clock:Nat) (Lk:Int→List Cel) (n:Nat) (s:St):Prop:=
 ∃ (V:List ME) (Lk':Int→List Cel) (h':Hp) (l:List (Nat × TV)) (lc:List (List CV)),s=ST 116 l lc h'∧(∀ e∈V,e∈es)∧(V.map (·.born)).Nodup∧n=es.length-V.length∧Fn h5 h'∧MS h' h5.n h5.n es clock Lk'∧(∀ n,(Lk' n).Perm (Lk n))∧
  (∀ e∈V,∀ n,e.key=kI n→(Lk' n).Pairwise fun a b=>¬ltC b a)∧h'.g h6.n=some (.miter (some h5.n) clock (V.map (·.born)) clock)∧SL h' 1 nv (rI T)∧lk l 11 = .v (.c nv)∧lk l 15 = .v (.c (.map h5.n))∧lk l 107 = .v (.c (.it h6.n))
theorem deal_ok (hT:TrF h t f par ol) (hol:ol.length≤16) (hnd:ol.Nodup) (hn:∀ n∈ol,0≤n∧n<16) (hp:∀ n p,p∈par n→0≤p∧p<16) (hpl:∀ n,(par n).length≤2) (hfr:0≤fr∧fr<4) (hln:1≤ln∧ln≤200) (hcn:1≤cn∧cn≤16)
 (hP:∀ h' b m es clock Lk nv T,Fn h h'→MS h' b m es clock Lk→(∀ n,(Lk n).Perm (celsN (dealF fr ln cn par ol).1 n)∧(Lk n).Pairwise fun a b=>¬ltC b a)→SL h' 1 nv (rI T)→T.Perm (dealF fr ln cn par ol).2→T.Pairwise (· < ·)→P (.tup [.c (.map m),.c nv]) h') :
 callW N (k+100) 246 [.c (.ptr t 0 0 0),.c (.int .i64 fr),.c (.int .i64 ln),.c (.int .i64 cn)] h P:=by
 have c1:¬fr<0:=by omega
 have c2:¬(4:Int)≤fr:=by omega
 have c3:¬(ln:Int)<1:=by omega
 have c4:¬(200:Int)<ln:=by omega
 have c5:¬(cn:Int)<1:=by omega
 have c6:¬(16:Int)<cn:=by omega
 obtain ⟨h1,hh1⟩:∃ h1,h1=h.push (.rows true 20 0 0 [rowD fr ln cn .nils []]):=⟨_,rfl⟩
 have f1:Fn h h1:=by rw [hh1];exact Fm.push _ _ _
 have g1:h1.g h.n=some (.rows true 20 0 0 [rowD fr ln cn .nils []]):=by rw [hh1,g_push_eq]
 have n1:h1.n=h.n+1:=by rw [hh1,n_push]
 have hfold:h.push (.rows true 20 0 0 [[.int .i64 fr,.int .i64 ln,.int .i64 cn,.nils,.int .i64 0,.int .i64 0,.int .i64 0,.int .i64 0,.int .i64 0,.int .i64 0,.int .i64 0,.int .i64 0,.int .i64 0,.int .i64 0,.int .i64 0,.int .i64 0,.int .i64 0,.int .i64 0,.int .i64 0,.int .i64 0]])=h1:=hh1.symm
 refine call_intro rfl (by simp only [List.length_cons,List.length_nil];omega) ?_
 simp (maxSteps:=200000) -implicitDefEqProofs only [KA,KB,KC,KD,KE,KF,eq_self,ne_eq,↓reduceIte,Nat.reduceLT,Nat.reduceEqDiff,Nat.reduceAdd,Nat.reduceLeDiff,Nat.reduceSub,Nat.reduceMul,reduceCtorEq,c1,c2,c3,c4,c5,c6,hfold]
 refine order_ok (k:=k+97) (hT.new f1) (by omega) fun h2 w hw f2=>?_
 have hlw:∀ h':Hp,lenT h' .sl (.v (.c w))=some (ol.length:Int):=fun h'=>by rw [hw.len h',rI_len]
 simp (maxSteps:=200000) -implicitDefEqProofs only [KA,KB,KC,KD,KE,KF,eq_self,ne_eq,↓reduceIte,Nat.reduceLT,Nat.reduceEqDiff,Nat.reduceAdd,Nat.reduceLeDiff,Nat.reduceSub,Nat.reduceMul,reduceCtorEq,hlw]
 refine loop_rd (callW_mono N _) (DeA h t h.n fr ln cn par ol w) (n:=ol.length) ⟨0,h2,.nils,.nils,_,_,rfl,by omega,by omega,⟨⟨f2.some g1 (fun e=>e),rfl,fun _ e=>e.elim⟩,rfl,f1.trans f2,hw,Nat.le_refl _,fun j hj=>⟨?_,fun e=>e,fun e=>e⟩,fun _ e=>e.elim,fun _ e=>e.elim⟩,rfl,rfl,rfl,rfl,rfl,rfl⟩ ?_
 ·rintro rfl
  have hg:=f2.some g1 (fun e=>e)
  cases w <;> simp only [ownId] at hj
  case sl id tok off len cap=>
   obtain ⟨_,_,_,_,q1,_⟩:=hw
   rw [←hj,hg] at q1
   injection q1 with q1
   injection q1 with _ q1
   cases q1
 rintro n s ⟨i,h3,v,nv,l,lc,rfl,hi,hni,hS,e0,e10,e11,e52,e53,e54⟩
 by_cases hlt:(i:Int)<ol.length
 ·have hil:i<ol.length:=by omega
  obtain ⟨x,hx⟩:=some_at (L:=ol) (i:=i) hil
  have hxm:x∈ol:=List.mem_of_getElem? hx
  have hrow:(rI ol)[(i:Int).toNat]? = some [.int .i64 x]:=by simp [rI,hx]
  obtain ⟨p1,p2,p3,a1,a2⟩:=hS.so.at (by omega) hrow
  have hw':=wrap_i64 (n:=(i:Int)+1) (by omega)
  have hst:dealF fr ln cn par (ol.take (i+1))=dstep fr ln cn par (dealF fr ln cn par (ol.take i)) x:=by rw [take_snoc hx,dealF_snoc]
  simp (maxSteps:=200000) -implicitDefEqProofs only [KA,KB,KC,KD,KE,KF,eq_self,ne_eq,↓reduceIte,Nat.reduceLT,Nat.reduceEqDiff,Nat.reduceAdd,Nat.reduceLeDiff,Nat.reduceSub,Nat.reduceMul,reduceCtorEq,e0,e10,e11,e52,e53,e54,hlt,a1,a2]
  refine parents_ok (k:=k+97) (hT.new hS.fn) (by have:=hpl x;omega) fun h4 u hu f4=>?_
  have hS:=hS.fresh f4
  have hlu:∀ h':Hp,lenT h' .sl (.v (.c u))=some ((par x).length:Int):=fun h'=>by rw [hu.len h',rI_len]
  have z0:decide ((0:Int)=0)=true:=rfl
  have hli:=dealF_len fr ln cn par (ol.take i)
  have hti:(ol.take i).length≤16:=by rw [List.length_take];omega
  have app:∃ nv' h5,appT h4 [[CV.int .i64 x]] 1 8 (.v (.c nv)) (.lsl 0 1)=some (nv',h5)∧Ow h5 1 nv' (rI ((dealF fr ln cn par (ol.take i)).2++[x]))∧Fm (ownId nv) h4 h5∧(∀ j,ownId nv' j→ownId nv j∨h4.n≤j):=by
   obtain ⟨nv',h5,k1,k2,k3,k4⟩:=hS.no.app (lc:=[[.int .i64 x]]) (x:=.lsl 0 1) (xs:=[[.int .i64 x]]) rfl (by simp) (bytes:=8) (by rw [rI_len];simp only [room,List.length_singleton];omega)
   exact ⟨nv',h5,k1,by simpa [rI] using k2,k3,k4⟩
  by_cases cx:x=0
  ·have dx:decide (x=0)=true:=decide_eq_true cx
   simp (maxSteps:=200000) -implicitDefEqProofs only [KA,KB,KC,KD,KE,KF,eq_self,ne_eq,↓reduceIte,Nat.reduceLT,Nat.reduceEqDiff,Nat.reduceAdd,Nat.reduceLeDiff,Nat.reduceSub,Nat.reduceMul,reduceCtorEq,dx,hw',rd_n]
   refine ⟨n-1,by omega,i+1,h4,v,nv,_,_,rfl,by omega,by omega,?_,rfl,rfl,rfl,rfl,rfl,rfl⟩
   have:dstep fr ln cn par (dealF fr ln cn par (ol.take i)) x=dealF fr ln cn par (ol.take i):=by unfold dstep;rw [if_pos cx]
   rw [this] at hst
   exact ⟨by rw [hst];exact hS.dl,by rw [hst];exact hS.no,hS.fn,hS.so,hS.lo,hS.sw,hS.sv,hS.sn⟩
  cases hpx:par x with
  | nil=>
   have hlu0:∀ h':Hp,lenT h' .sl (.v (.c u))=some 0:=fun h'=>by rw [hlu h',hpx];rfl
   obtain ⟨nv',h5,k1,k2,k3,k4⟩:=app
   simp (maxSteps:=200000) -implicitDefEqProofs only [KA,KB,KC,KD,KE,KF,eq_self,ne_eq,↓reduceIte,Nat.reduceLT,Nat.reduceEqDiff,Nat.reduceAdd,Nat.reduceLeDiff,Nat.reduceSub,Nat.reduceMul,reduceCtorEq,cx,hlu0,z0,k1,hw',rd_n]
   refine ⟨n-1,by omega,i+1,h5,v,nv',_,_,rfl,by omega,by omega,hS.add ?_ k2 k3 k4,rfl,rfl,rfl,rfl,rfl,rfl⟩
   rw [hst]
   unfold dstep
   rw [if_neg cx,hpx]
  | cons p ps=>
   have hlu1:∀ h':Hp,lenT h' .sl (.v (.c u))=some ((ps.length+1:Nat):Int):=fun h'=>by rw [hlu h',hpx];rfl
   have z1:¬((ps.length+1:Nat):Int)=0:=by omega
   have hrow0:(rI (par x))[(0:Int).toNat]? = some [.int .i64 p]:=by rw [hpx];rfl
   obtain ⟨b1,b2,b3,d1,d2⟩:=hu.at (Int.le_refl 0) hrow0
   have hx16:=hn x hxm
   have hp16:=hp x p (by rw [hpx];exact List.mem_cons_self)
   obtain ⟨xn,rfl⟩:∃ xn:Nat,x=xn:=⟨x.toNat,by omega⟩
   obtain ⟨pn,rfl⟩:∃ pn:Nat,p=pn:=⟨p.toNat,by omega⟩
   simp (maxSteps:=200000) -implicitDefEqProofs only [KA,KB,KC,KD,KE,KF,eq_self,ne_eq,↓reduceIte,Nat.reduceLT,Nat.reduceEqDiff,Nat.reduceAdd,Nat.reduceLeDiff,Nat.reduceSub,Nat.reduceMul,reduceCtorEq,cx,hlu1,z1,d1,d2]
   refine both_ok (k:=k+90) hS.dl (by omega) (by omega) (by omega) (by omega) (by omega) (fun h5 hb hD5 f5=>?_) fun h5 v' L' hb hD5 f5 q5=>?_
   ·have hS5:DeS h h5 h.n fr ln cn par ol w v nv i:=by
     have hvn:∀ j,ownId v j→j<h4.n:=fun j hj=>hS.dl.g.lt hj
     refine ⟨hD5,hS.no.mono f5 (fun j hj e=>e.elim (hS.sn j hj).2 (fun e=>(hS.sv j e).2 hj)),hS.fn.fresh f5 (fun j hj=>hj.elim (fun e=>by rw [e];exact Nat.le_refl _) (fun e=>(hS.sv j e).1)),hS.so.mono f5 (fun id _ _ _ _ e hj=>?_),hS.lo,hS.sw,hS.sv,hS.sn⟩
     have:=hS.sw id (by rw [e];rfl)
     exact hj.elim this.1 this.2.1
    obtain ⟨nv',h6,k1,k2,k3,k4⟩:=hS5.no.app (lc:=[[.int .i64 (xn:Int)]]) (x:=.lsl 0 1) (xs:=[[.int .i64 (xn:Int)]]) rfl (by simp) (bytes:=8) (by rw [rI_len];simp only [room,List.length_singleton];omega)
    simp (maxSteps:=200000) -implicitDefEqProofs only [KA,KB,KC,KD,KE,KF,eq_self,ne_eq,↓reduceIte,Nat.reduceLT,Nat.reduceEqDiff,Nat.reduceAdd,Nat.reduceLeDiff,Nat.reduceSub,Nat.reduceMul,reduceCtorEq,k1,hw',rd_n]
    refine ⟨n-1,by omega,i+1,h6,v,nv',_,_,rfl,by omega,by omega,hS5.add (x:=xn) ?_ (by simpa [rI] using k2) k3 k4,rfl,rfl,rfl,rfl,rfl,rfl⟩
    rw [hst]
    unfold dstep
    rw [if_neg cx,hpx]
    simp only [Int.toNat_natCast,hb]
   ·simp (maxSteps:=200000) -implicitDefEqProofs only [KA,KB,KC,KD,KE,KF,eq_self,ne_eq,↓reduceIte,Nat.reduceLT,Nat.reduceEqDiff,Nat.reduceAdd,Nat.reduceLeDiff,Nat.reduceSub,Nat.reduceMul,reduceCtorEq,hw',rd_n]
    refine ⟨n-1,by omega,i+1,h5,v',nv,_,_,rfl,by omega,by omega,hS.both ?_ hD5 f5 q5,rfl,rfl,rfl,rfl,rfl,rfl⟩
    rw [hst]
    unfold dstep
    rw [if_neg cx,hpx]
    simp only [Int.toNat_natCast,hb]
 ·simp (maxSteps:=200000) -implicitDefEqProofs only [KA,KB,KC,KD,KE,KF,eq_self,ne_eq,↓reduceIte,Nat.reduceLT,Nat.reduceEqDiff,Nat.reduceAdd,Nat.reduceLeDiff,Nat.reduceSub,Nat.reduceMul,reduceCtorEq,e0,e10,e11,e52,e53,e54,hlt]
  have hil:ol.take i=ol:=List.take_of_length_le (by omega)
  obtain ⟨L,hL⟩:∃ L,L=(dealF fr ln cn par ol).1:=⟨_,rfl⟩
  have hLl:L.length≤64:=by have:=(dealF_len fr ln cn par ol).1;rw [hL];omega
  have hTl:(dealF fr ln cn par ol).2.length≤16:=by have:=(dealF_len fr ln cn par ol).2;omega
  have hD:=hS.dl
  have hno:=hS.no
  rw [hil] at hno hD
  rw [←hL] at hD
  refine sortI_ok (by omega) hno hTl (dealF_nodup hnd) fun h4 T hT1 hT2 hT3 f4=>?_
  have hnv:∀ j,ownId nv j→j≠h.n∧¬ownId v j:=fun j hj=>⟨(hS.sn j hj).2,fun e=>(hS.sv j e).2 hj⟩
  have hrow:=f4.some hD.row (fun e=>(hnv _ e).1 rfl)
  have hg4:=hD.g.mono f4 (fun j hj e=>(hnv j e).2 hj)
  have f04:Fn h h4:=hS.fn.fresh f4 (fun j hj=>(hS.sn j hj).1)
  have hlv:∀ h':Hp,lenT h' .sl (.v (.c v))=some (L.length:Int):=fun h'=>by rw [hg4.len h',List.length_map]
  have r3:(rowD fr ln cn v L)[3]? = some v:=rfl
  obtain ⟨h5,hh5⟩:∃ h5,h5=h4.push (.map true [] 0):=⟨_,rfl⟩
  have f5:Fn h4 h5:=by rw [hh5];exact Fm.push _ _ _
  have g5:h5.g h4.n=some (.map true [] 0):=by rw [hh5,g_push_eq]
  have hf5:=hh5.symm
  have hrow5:=f5.some hrow (fun e=>e)
  generalize rowD fr ln cn v L=R at *
  simp (maxSteps:=200000) -implicitDefEqProofs only [KA,KB,KC,KD,KE,KF,eq_self,ne_eq,↓reduceIte,Nat.reduceLT,Nat.reduceEqDiff,Nat.reduceAdd,Nat.reduceLeDiff,Nat.reduceSub,Nat.reduceMul,reduceCtorEq,hf5,hrow5,r3,hlv]
  refine loop_rd (callW_mono N _) (MpJ h4 v nv L) (n:=L.length) ⟨0,[],0,h5,_,_,rfl,by omega,by omega,f5,MS.nil g5,by simp,rfl,rfl,rfl,rfl,rfl⟩ ?_
  clear hrow5 hf5 hrow
  rintro n2 s ⟨i,es,clock,h6,l,lc,rfl,hi2,hn2,f6,hM,hel,e11,e15,e88,e89,e90⟩
  by_cases hlt2:(i:Int)<L.length
  ·have hil2:i<L.length:=by omega
   obtain ⟨x,hx⟩:=some_at (L:=L) (i:=i) hil2
   have hrowx:(L.map encH)[(i:Int).toNat]? = some (encH x):=by simp [hx]
   obtain ⟨p1,p2,p3,a1,a2⟩:=(hg4.mono f6 (fun _ _ e=>e)).at (by omega) hrowx
   have a2':rowO (h6.g p1) p2 p3=some [.int .i64 x.n,.int .i64 x.c.f,.int .i64 x.c.s,.int .i64 x.c.c,.int .i64 x.c.o,.int .i64 x.c.p]:=a2
   have w2:=wrap_i64 (n:=(i:Int)+1) (by omega)
   obtain ⟨h7,hh7⟩:∃ h7,h7=h6.reserve 1:=⟨_,rfl⟩
   have f7:Fn h6 h7:=by rw [hh7];exact Fm.reserve _ _ _
   have d7:h7.g h6.n=some .dead:=by rw [hh7,g_reserve,if_pos (by omega)]
   obtain ⟨h8,hh8⟩:∃ h8,h8=h7.put h6.n (.rows true 5 0 0 [[.int .i64 x.c.f,.int .i64 x.c.s,.int .i64 x.c.c,.int .i64 x.c.o,.int .i64 x.c.p]]):=⟨_,rfl⟩
   have f8:Fn h6 h8:=by rw [hh8];exact f7.putNew _ (Nat.le_refl _)
   have hxs:sliceRows h8 [[CV.int .i64 x.n,.int .i64 x.c.f,.int .i64 x.c.s,.int .i64 x.c.c,.int .i64 x.c.o,.int .i64 x.c.p]] 5 (.v (.c (.sl h6.n 0 0 1 (some 1))))=some [encE x.c]:=by
    have:h8.g h6.n=some (.rows true 5 0 0 [[.int .i64 x.c.f,.int .i64 x.c.s,.int .i64 x.c.c,.int .i64 x.c.o,.int .i64 x.c.p]]):=by rw [hh8,g_put_eq,d7];rfl
    simp [sliceRows,g_def,this,encE]
   have hf7:=hh7.symm
   have hf8:=hh8.symm
   have hlk:∃ cur r,lookT h7 (.int .i64) (.v (.c (.map h4.n))) (some (kI x.n))=some r∧r.getD (.c .nils) = .c cur∧(cur = .nils∨∃ e∈es,e.key=kI x.n∧e.val = .c cur)∧Ow h8 5 cur ((celsN (L.take i) x.n).map encE)∧∀ j,ownId cur j→h4.n≤j:=by
    have hM8:=hM.new f8
    rcases (hM.new f7).look x.n with ⟨q1,q2⟩|⟨e,he,u,q1,q2,q3,q4,q5,q6⟩
    ·exact ⟨.nils,_,q2,rfl,.inl rfl,by rw [q1];rfl,fun _ e=>e.elim⟩
    ·obtain ⟨n0,u0,r1,r2,r3',_,_⟩:=hM8.each e he
     rw [q2] at r2
     injection r2 with r2
     subst r2
     have:n0=x.n:=by rw [q1] at r1;injection r1 with r1;injection r1 with _ r1;exact r1.symm
     subst this
     exact ⟨u,_,q6,rfl,.inr ⟨e,he,q1,q2⟩,r3',fun j hj=>(q5 j hj).1⟩
   obtain ⟨cur,r,q1,q2,q3,q4,q5⟩:=hlk
   have hcl:=celsN_len (L.take i) x.n
   have hti:(L.take i).length≤64:=by rw [List.length_take];omega
   obtain ⟨u',h9,k1,k2,k3,k4⟩:=q4.app hxs (by simp) (bytes:=40) (by rw [List.length_map];simp only [room,List.length_singleton];omega)
   obtain ⟨es',clock',m1,m2,m3⟩:=hM.add (c:=x.c) f8 q3 k3 (by rw [List.map_append];exact k2) k4 f6.n
   simp (maxSteps:=200000) -implicitDefEqProofs only [KA,KB,KC,KD,KE,KF,eq_self,ne_eq,↓reduceIte,Nat.reduceLT,Nat.reduceEqDiff,Nat.reduceAdd,Nat.reduceLeDiff,Nat.reduceSub,Nat.reduceMul,reduceCtorEq,e11,e15,e88,e89,e90,hlt2,a1,a2',hf7,q1,q2,d7,hf8,k1,m1,w2,rd_n]
   refine ⟨n2-1,by omega,i+1,es',clock',_,_,_,rfl,by omega,by omega,((f6.trans f8).fresh k3 q5).putNew _ (Nat.le_refl _),?_,by omega,rfl,rfl,rfl,rfl,rfl⟩
   have:celsN (L.take (i+1))=fun n'=>if n'=x.n then celsN (L.take i) x.n++[x.c] else celsN (L.take i) n':=by
    funext n'
    rw [take_snoc hx,celsN_snoc]
   rw [this]
   exact m3
  ·have hrg:=rgn_map hM.hm
   have hil2:L.take i=L:=List.take_of_length_le (by omega)
   rw [hil2] at hM
   have hT6:=(hT3.new f6)
   simp (maxSteps:=200000) -implicitDefEqProofs only [KA,KB,KC,KD,KE,KF,eq_self,ne_eq,↓reduceIte,Nat.reduceLT,Nat.reduceEqDiff,Nat.reduceAdd,Nat.reduceLeDiff,Nat.reduceSub,Nat.reduceMul,reduceCtorEq,e11,e15,e88,e89,e90,hlt2,hrg]
   refine loop_rd (callW_mono N _) (SoJ h4 h6 nv T es clock (celsN L)) (n:=es.length) ⟨[],celsN L,_,_,_,rfl,by simp,by simp,by simp,f6.trans (Fm.push _ _ _),hM.new (Fm.push _ _ _),fun n=>List.Perm.refl _,by simp,by rw [g_push_eq];rfl,hT6.new (Fm.push _ _ _),rfl,rfl,rfl⟩ ?_
   have hMs:=hM
   clear e11 e15 e88 e89 e90 hrg
   rintro n3 s ⟨V,Lk,h7,l,lc,rfl,hV,hVn,hn3,f7,hM,hpm,hso,hit,hT7,e11,e15,e107⟩
   have hids:∀ e∈es,∀ v,e.val = .c v→∀ j,ownId v j→j≠h6.n∧h4.n≤j:=by
    intro e he v hv j hj
    obtain ⟨n0,v0,r1,r2,r3',_,r5⟩:=hMs.each e he
    rw [hv] at r2
    injection r2 with r2
    subst r2
    exact ⟨by have:=r3'.lt hj;omega,(r5 j hj).1⟩
   have hn6:h4.n<h6.n:=lt_of_g hMs.hm
   simp (maxSteps:=200000) -implicitDefEqProofs only [KA,KB,KC,KD,KE,KF,eq_self,ne_eq,↓reduceIte,Nat.reduceLT,Nat.reduceEqDiff,Nat.reduceAdd,Nat.reduceLeDiff,Nat.reduceSub,Nat.reduceMul,reduceCtorEq,e11,e15,e107]
   refine nx_map (id:=h6.n) (m:=h4.n) (clock:=clock) (seen:=V.map (·.born)) (by simp only [evN_t,lk_cons,lk_nil];rfl) hit hM.hm hM.en.lt (fun e he hnb=>?_) fun hall=>?_
   ·obtain ⟨n0,v0,r1,r2,r3',r4,r5⟩:=hM.each e he
    obtain ⟨h8,hh8⟩:∃ h8,h8=h7.put h6.n (.miter (some h4.n) clock (V.map (·.born)++[e.born]) clock):=⟨_,rfl⟩
    have f8:Fm (fun j=>j=h6.n) h7 h8:=by rw [hh8];exact Fm.put _ _ rfl
    have hit8:h8.g h6.n=some (.miter (some h4.n) clock (V.map (·.born)++[e.born]) clock):=by rw [hh8,g_put_eq,hit];rfl
    have hM8:MS h8 h4.n h4.n es clock Lk:=by
     refine ⟨f8.some hM.hm (fun e=>by omega),hM.en,fun e he=>?_,hM.sep,hM.all⟩
     obtain ⟨n0,v0,r1,r2,r3',r4,r5⟩:=hM.each e he
     exact ⟨n0,v0,r1,r2,r3'.mono f8 (fun j hj=>(hids e he v0 r2 j hj).1),r4,r5⟩
    have hen:=entry_at hit8 hM8.hm he hM.en.nd
    rw [r1,r2] at hen
    have hfold8:=hh8.symm
    have hVe:((V++[e]).map (·.born)).Nodup:=by
     rw [List.map_append,List.nodup_append]
     refine ⟨hVn,by simp,?_⟩
     intro a ha b hb2
     simp at hb2
     subst hb2
     rintro rfl
     exact hnb ha
    have heV:∀ x∈V++[e],x∈es:=by
     intro x hx
     rcases List.mem_append.mp hx with hx|hx
     ·exact hV x hx
     ·simp at hx;subst hx;exact he
    have hlenV:(V++[e]).length≤es.length:=by
     obtain ⟨R,hR⟩:=sub_perm hVe heV
     have:=hR.length_eq
     rw [List.length_append] at this
     omega
    rw [List.length_append,List.length_singleton] at hlenV
    have hO:=r3'.mono f8 (fun j hj=>(hids e he v0 r2 j hj).1)
    obtain ⟨id,tok,rest,rfl,hA⟩:=hO.arr r4
    have hcl:(Lk n0).length≤64:=by
     have:=(hpm n0).length_eq
     have:=celsN_len L n0
     omega
    simp (maxSteps:=200000) -implicitDefEqProofs only [KA,KB,KC,KD,KE,KF,eq_self,ne_eq,↓reduceIte,Nat.reduceLT,Nat.reduceEqDiff,Nat.reduceAdd,Nat.reduceLeDiff,Nat.reduceSub,Nat.reduceMul,reduceCtorEq,hfold8,hen]
    refine sort_okt swoC cmpA (by omega) hA (by omega) fun h9 U u1 u2 u3 u4=>?_
    have u4':Fm (ownId (.sl id tok 0 (Lk n0).length none)) h8 h9:=u4
    have hU:=u3.ow
    rw [u1.length_eq] at hU
    have hM9:=hM8.upd he r1 r2 u4' hU u1
    simp (maxSteps:=200000) -implicitDefEqProofs only [KA,KB,KC,KD,KE,KF,eq_self,ne_eq,↓reduceIte,Nat.reduceLT,Nat.reduceEqDiff,Nat.reduceAdd,Nat.reduceLeDiff,Nat.reduceSub,Nat.reduceMul,reduceCtorEq,rd_n]
    refine ⟨n3-1,?_,V++[e],_,h9,_,_,rfl,heV,hVe,?_,(f7.fresh f8 (fun j hj=>by omega)).fresh u4 (fun j hj=>by rw [hj];exact (r5 id rfl).1),hM9,fun n=>?_,fun e' he' n' hk'=>?_,?_,?_,rfl,rfl,rfl⟩
    ·omega
    ·rw [List.length_append,List.length_singleton];omega
    ·split
     ·rename_i hn;rw [hn];exact u1.trans (hpm n0)
     ·exact hpm n
    ·split
     ·exact u2
     ·rename_i hn
      rcases List.mem_append.mp he' with he'|he'
      ·exact hso e' he' n' hk'
      ·simp at he'
       subst he'
       rw [r1] at hk'
       injection hk' with hk'
       injection hk' with _ hk'
       exact absurd hk'.symm hn
    ·rw [List.map_append]
     exact u4.some hit8 (fun e=>by have:=(hids _ he _ r2 id rfl).1;omega)
    ·refine (hT7.mono f8 (fun id' _ _ _ _ e' hj=>?_)).mono u4 (fun id' _ _ _ _ e' hj=>?_)
     ·have:=hT3.ltn (j:=id') (by rw [e'];rfl);omega
     ·have:=hT3.ltn (j:=id') (by rw [e'];rfl);have:=(r5 id rfl).1;omega
   ·simp (maxSteps:=200000) -implicitDefEqProofs only [KA,KB,KC,KD,KE,KF,eq_self,ne_eq,↓reduceIte,Nat.reduceLT,Nat.reduceEqDiff,Nat.reduceAdd,Nat.reduceLeDiff,Nat.reduceSub,Nat.reduceMul,reduceCtorEq]
    refine hP h7 h4.n h4.n es clock Lk nv T (f04.trans f7) hM (fun n=>⟨by rw [←hL];exact hpm n,?_⟩) hT7 hT1 hT2
    by_cases hn:Lk n=[]
    ·rw [hn];exact List.Pairwise.nil
    ·obtain ⟨e,he,hk⟩:=hM.all n hn
     obtain ⟨e',he',hb⟩:=List.mem_map.mp (hall e he)
     have:=born_mem hM.en.nd (hV e' he') he hb
     subst this
     exact hso _ he' n hk
end
end
section
set_option maxHeartbeats 4000000
structure OlP (par:Int→List Int) (ol:List Int):Prop where
 nd:ol.Nodup
 len:ol.length≤16
 rng:∀ n∈ol,0≤n∧n<16
 zero:(0:Int)∈ol
 pne:∀ n∈ol,n≠0→par n≠[]
 prng:∀ n p,p∈par n→0≤p∧p<16
 pdiff:∀ n p,p∈par n→p≠n
 plen:∀ n,(par n).length≤2
 panti:∀ n p,p∈par n→n∉par p
theorem olP {q:Int→Int→Option Int} {least:Int} {nn:Nat} (hn:1≤nn∧nn≤16) (H:Falls q least nn (rk q least nn) (fol q least nn (rk q least nn))):OlP (fol q least nn (rk q least nn)) (ordL q least nn nn):=by
 have hm:=fun b=>mem_ordL (q:=q) (least:=least) hn.1 (d:=nn) (b:=b)
 refine ⟨ordL_nodup hn.1 nn,Nat.le_trans (ordL_len hn.1 nn) hn.2,fun n h=>?_,(hm 0).mpr ⟨0,by omega,H.root⟩,fun n h h0=>?_,fun n p h=>?_,fun n p h e=>?_,H.len,fun n p h h'=>?_⟩
 ·obtain ⟨r,_,h⟩:=(hm n).mp h
  have:=(H.range n r h).1;omega
 ·obtain ⟨r,_,h⟩:=(hm n).mp h
  cases r with
  | zero=>exact absurd (H.zero n h) h0
  | succ r=>exact H.ne n r h
 ·obtain ⟨r,_,h,_⟩:=H.mem n p h
  have:=(H.range p r h).1;omega
 ·subst e
  obtain ⟨r,h1,h2,_⟩:=H.mem p p h
  rw [h1] at h2
  have:=Option.some.inj h2
  omega
 ·obtain ⟨r,h1,h2,_⟩:=H.mem n p h
  obtain ⟨r',h3,h4,_⟩:=H.mem p n h'
  rw [h1] at h4
  rw [h2] at h3
  have:=Option.some.inj h3
  have:=Option.some.inj h4
  omega
theorem may_two {fr a b o:Int} {s c:Nat} (hfr:0≤fr∧fr<4) (hs:s<200) (hc:c<16) (ha:0≤a∧a<16) (hb:0≤b∧b<16) (ho:o=2∨o=10):mayC ⟨fr,s,c,1,b⟩∧mayC ⟨fr,s,c,o,a⟩:=by
 have e1:andI 1 3=1:=by decide
 have e2:andI 1 4=0:=by decide
 have e3:andI o 3=2∧andI o 4=0:=by rcases ho with rfl|rfl <;> decide
 constructor
 ·refine ⟨by simp only;omega,by simp only;omega,by simp only;omega,by simp only;omega,by rw [e1];omega,fun h=>h.1 e2,.inl (by simp only;omega)⟩
 ·refine ⟨by simp only;omega,by simp only;omega,by simp only;omega,by simp only;omega,by rw [e3.1];omega,fun h=>h.1 e3.2,.inl (by simp only;omega)⟩
def nz (ol:List Int):List Int:=ol.filter fun n=>n != 0
theorem nz_snoc (ol:List Int) (x:Int):nz (ol++[x])=if x=0 then nz ol else nz ol++[x]:=by
 unfold nz
 rw [List.filter_append]
 by_cases h:x=0
 ·rw [if_pos h,List.filter_cons_of_neg (by simp [h])];simp
 ·rw [if_neg h,List.filter_cons_of_pos (by simp [h])];rfl
theorem mem_pre {ol:List Int} {i:Nat} {x:Int} (hx:ol[i]? = some x):x∈ol:=List.mem_of_getElem? hx
section
variable {fr:Int} {ln cn:Nat} {par:Int→List Int} {ol:List Int}
end
def kN (e:ME):Int:=match e.key with | .c (.int _ n)=>n|_=>0
end
end Camp
