/- The answer's dealing: fits, link. The answer's dealing: link. The answer's dealing. The law of the deals. The law of the deals: the walk. -/
import Derived.Test.YthmolhkfodhagaaLawE
set_option linter.unnecessarySimpa false
set_option linter.unusedVariables false
set_option linter.unusedSimpArgs false
set_option linter.unusedSectionVars false
namespace Camp
open Go
open Nat (reduceLT reduceEqDiff reduceAdd reduceLeDiff reduceSub reduceMul)
section
set_option maxHeartbeats 4000000
structure RD (h:Hp) (dd:Nat) (V:Nat→CV) (L:List Hd):Prop where
 row:h.g dd=some (.rows true 16 0 0 [(List.range 16).map V])
 g:∀ x,x<16→Gw false h 5 (V x) ((celsN L x).map encE)
 sep:∀ x y,x<16→y<16→x≠y→∀ j,ownId (V x) j→¬ownId (V y) j
 id:∀ x,x<16→∀ j,ownId (V x) j→j≠dd
def ownV (V:Nat→CV) (j:Nat):Prop:=∃ x,x<16∧ownId (V x) j
theorem RD.fresh {h h':Hp} {dd:Nat} {V:Nat→CV} {L:List Hd} (k:RD h dd V L) (f:Fn h h'):RD h' dd V L:=
 ⟨f.some k.row (fun e=>e),fun x hx=>(k.g x hx).mono f (fun _ _ e=>e),k.sep,k.id⟩
theorem vrow_at (V:Nat→CV) {x:Nat} (hx:x<16):((List.range 16).map V)[0+x]? = some (V x):=by
 rw [Nat.zero_add,List.getElem?_map,List.getElem?_range hx]
 rfl
theorem celsN_cnt (L:List Hd) (x:Nat):(celsN L x).length=cntN L x:=by
 unfold celsN cntN
 rw [List.length_map]
theorem hit_iff {L:List Hd} (hL:∀ y∈L,0≤y.n∧y.n<16) {n:Int} {c:Cel}:hitP L n c↔∃ j,j<16∧∃ y∈celsN L ((j:Nat):Int),clashP c y n j:=by
 constructor
 ·rintro ⟨y,hy,hc⟩
  have:=hL y hy
  refine ⟨y.n.toNat,by omega,y.c,?_,?_⟩
  ·unfold celsN
   refine List.mem_map_of_mem (List.mem_filter.mpr ⟨hy,?_⟩)
   simp only [decide_eq_true_eq]
   omega
  ·rw [show ((y.n.toNat:Nat):Int)=y.n by omega]
   exact clash_symm1 hc
 ·rintro ⟨j,hj,y,hy,hc⟩
  unfold celsN at hy
  obtain ⟨x,hx,rfl⟩:=List.mem_map.mp hy
  obtain ⟨h1,h2⟩:=List.mem_filter.mp hx
  simp only [decide_eq_true_eq] at h2
  refine ⟨x,h1,?_⟩
  rw [h2]
  exact clash_symm1 hc
section
variable {k:Nat} {h:Hp} {P:AV→Hp→Prop} {dd:Nat} {V:Nat→CV} {L:List Hd}
def FiA (h:Hp) (W:List CV) (c:Cel) (n:Int) (L:List Hd) (m:Nat) (s:St):Prop:=
 ∃ (j:Nat) (l:List (Nat × TV)),s=ST 40 l [[.int .i64 c.f,.int .i64 c.s,.int .i64 c.c,.int .i64 c.o,.int .i64 c.p]] h∧j≤16∧m=16-j∧(∀ j',j'<j→∀ y∈celsN L ((j':Nat):Int),¬clashP c y n j')∧
  lk l 2 = .v (.c (.int .i64 n))∧lk l 4 = .lp 0 0∧lk l 22 = .v (.agg W)∧lk l 23 = .v (.c (.int .i64 j))
def FiB (h:Hp) (W:List CV) (v:CV) (c:Cel) (n:Int) (Q:List Cel) (j:Nat) (m:Nat) (s:St):Prop:=
 ∃ (i:Nat) (l:List (Nat × TV)) (lc:List (List CV)),s=ST 40 l ([.int .i64 c.f,.int .i64 c.s,.int .i64 c.c,.int .i64 c.o,.int .i64 c.p]::lc) h∧i≤Q.length∧m=Q.length-i∧(∀ y∈Q.take i,¬clashP c y n j)∧
  lk l 2 = .v (.c (.int .i64 n))∧lk l 4 = .lp 0 0∧lk l 7 = .v (.c (.int .i64 j))∧lk l 22 = .v (.agg W)∧lk l 23 = .v (.c (.int .i64 j))∧lk l 27 = .v (.c v)∧lk l 28 = .v (.c (.int .i64 Q.length))∧lk l 29 = .v (.c (.int .i64 i))
theorem fits_ok {c:Cel} {n:Nat} (hR:RD h dd V L) (hn:n<16) (hL:∀ y∈L,0≤y.n∧y.n<16) (hl:L.length≤100000)
 (h0:(64≤cntN L n∨hitP L n c)→P (.c (.bool false)) h) (h1:cntN L n<64→¬hitP L n c→P (.c (.bool true)) h):callW N (k+4) 254 [.c (.ptr dd 0 0 0),.agg (encE c),.c (.int .i64 n)] h P:=by
 have he:encE c=[.int .i64 c.f,.int .i64 c.s,.int .i64 c.c,.int .i64 c.o,.int .i64 c.p]:=rfl
 have hrow:=hR.row
 have ia:iaddrAV 16 1 (.v (.c (.ptr dd 0 0 0))) n=some (.v (.c (.ptr dd 0 0 (0+n)))):=by
  unfold iaddrAV
  rw [if_pos (by omega)]
  simp
 have rn:=vrow_at V hn
 have hlen:∀ h':Hp,lenT h' .sl (.v (.c (V n)))=some ((cntN L n:Nat):Int):=fun h'=>by rw [(hR.g n hn).len h',List.length_map,celsN_cnt]
 have s4:((List.range 16).map V).length=16:=by simp
 have s5:((List.range 16).map V).take 16=(List.range 16).map V:=List.take_of_length_le (by omega)
 refine call_intro rfl (by simp only [List.length_cons,List.length_nil];omega) ?_
 have vat:∀ j,j<16→((List.range 16).map V)[j]? = some (V j):=fun j hj=>by have:=vrow_at V hj;rwa [Nat.zero_add] at this
 have rn:=vat n hn
 generalize (List.range 16).map V=W at *
 by_cases c1:(64:Int)≤((cntN L n:Nat):Int)
 ·simp -implicitDefEqProofs only [KK,eq_self,↓reduceIte,reduceLT,reduceEqDiff,reduceAdd,reduceCtorEq,he,hrow,ia,rn,hlen,c1]
  exact h0 (.inl (by omega))
 simp -implicitDefEqProofs only [KK,eq_self,↓reduceIte,reduceLT,reduceEqDiff,reduceAdd,reduceCtorEq,he,hrow,ia,rn,hlen,c1,s4,s5]
 refine loop_rd (callW_mono N _) (FiA h W c n L) (n:=16) ⟨0,_,rfl,by omega,by omega,fun j' hj=>by omega,rfl,rfl,rfl,rfl⟩ ?_
 rintro m s ⟨j,l,rfl,hj,hm,hno,e2,e4,e22,e23⟩
 by_cases hlt:(j:Int)<16
 ·have hj16:j<16:=by omega
  have q1:(0:Int)≤(j:Int):=by omega
  have q2:(j:Int)<((16:Nat):Int):=by omega
  have vj:=vat j hj16
  have hgj:=hR.g j hj16
  have hlj:∀ h':Hp,lenT h' .sl (.v (.c (V j)))=some ((celsN L (j:Nat)).length:Int):=fun h'=>by rw [hgj.len h',List.length_map]
  have hcl:=celsN_len L ((j:Nat):Int)
  have wj:=wrap_i64 (n:=(j:Int)+1) (by omega)
  simp -implicitDefEqProofs only [KK,eq_self,↓reduceIte,reduceLT,reduceEqDiff,e2,e4,e22,e23,hlt,q1,q2,vj,hlj,Int.toNat_natCast,Nat.mul_one]
  refine loop_rd (callW_mono N _) (FiB h W (V j) c n (celsN L (j:Nat)) j) (n:=(celsN L (j:Nat)).length) ⟨0,_,_,rfl,by omega,by omega,by simp,rfl,rfl,rfl,rfl,rfl,rfl,rfl,rfl⟩ ?_
  clear e2 e4 e22 e23
  rintro m2 s ⟨i,l,lc,rfl,hi,hm2,hno2,e2,e4,e7,e22,e23,e27,e28,e29⟩
  by_cases hlt2:(i:Int)<((celsN L (j:Nat)).length:Int)
  ·obtain ⟨y,hy⟩:=some_at (L:=celsN L (j:Nat)) (i:=i) (by omega)
   have hrowy:((celsN L (j:Nat)).map encE)[(i:Int).toNat]? = some (encE y):=by simp [hy]
   obtain ⟨p1,p2,p3,a1,a2⟩:=hgj.at (by omega) hrowy
   have a2':rowO (h.g p1) p2 p3=some [.int .i64 y.f,.int .i64 y.s,.int .i64 y.c,.int .i64 y.o,.int .i64 y.p]:=a2
   have wi:=wrap_i64 (n:=(i:Int)+1) (by omega)
   simp -implicitDefEqProofs only [KK,eq_self,↓reduceIte,reduceLT,reduceEqDiff,reduceAdd,reduceLeDiff,e2,e4,e7,e22,e23,e27,e28,e29,hlt2,a1,a2']
   refine rclash_ok (k:=k) (a:=c) (b:=y) ?_
   by_cases hc:clashP c y n j
   ·rw [decide_eq_true hc]
    simp -implicitDefEqProofs only [KK,eq_self,↓reduceIte,reduceLT,reduceEqDiff,reduceAdd,reduceLeDiff]
    refine h0 (.inr ((hit_iff hL).mpr ⟨j,hj16,y,List.mem_of_getElem? hy,hc⟩))
   ·rw [decide_eq_false hc]
    simp -implicitDefEqProofs only [KK,eq_self,↓reduceIte,reduceLT,reduceEqDiff,reduceAdd,reduceLeDiff,wi,rd_n]
    refine ⟨m2-1,by omega,i+1,_,_,rfl,by omega,by omega,fun z hz=>?_,rfl,rfl,rfl,rfl,rfl,rfl,rfl,rfl⟩
    rw [take_snoc hy] at hz
    rcases List.mem_append.mp hz with hz|hz
    ·exact hno2 z hz
    ·have hz:=List.mem_singleton.mp hz
     subst hz;exact hc
  ·simp -implicitDefEqProofs only [KK,eq_self,↓reduceIte,reduceLT,reduceEqDiff,reduceLeDiff,e2,e4,e7,e22,e23,e27,e28,e29,hlt2,wj,rd_n]
   refine ⟨m-1,by omega,j+1,_,rfl,by omega,by omega,fun j' hj' y hy=>?_,rfl,rfl,rfl,rfl⟩
   rcases Nat.lt_or_ge j' j with h|h
   ·exact hno j' h y hy
   ·have:j'=j:=by omega
    subst this
    refine hno2 y ?_
    rw [List.take_of_length_le (by omega)]
    exact hy
 ·simp -implicitDefEqProofs only [KK,eq_self,↓reduceIte,reduceLT,reduceEqDiff,e2,e4,e22,e23,hlt]
  refine h1 (by omega) fun hh=>?_
  obtain ⟨j',hj',y,hy,hc⟩:=(hit_iff hL).mp hh
  exact hno j' (by omega) y hy hc
end
end
section
set_option maxHeartbeats 4000000
def setV (V:Nat→CV) (a:Nat) (v:CV):Nat→CV:=fun x=>if x=a then v else V x
theorem vrow_set (V:Nat→CV) (v:CV) {a:Nat} (ha:a<16):((List.range 16).map V).take a++v::((List.range 16).map V).drop (a+1)=(List.range 16).map (setV V a v):=by
 apply List.ext_getElem?
 intro i
 have hl:((List.range 16).map V).length=16:=by simp
 by_cases hi:i<16
 ·rw [List.getElem?_map,List.getElem?_range hi]
  rcases Nat.lt_trichotomy i a with h|h|h
  ·rw [List.getElem?_append_left (by rw [List.length_take];omega),List.getElem?_take,if_pos h,List.getElem?_map,List.getElem?_range hi]
   simp [setV,show i≠a by omega]
  ·subst h
   rw [List.getElem?_append_right (by rw [List.length_take];omega),List.length_take,hl,Nat.min_eq_left (by omega),Nat.sub_self]
   simp [setV]
  ·rw [List.getElem?_append_right (by rw [List.length_take];omega),List.length_take,hl,Nat.min_eq_left (by omega),show i-a=(i-a-1)+1 by omega,List.getElem?_cons_succ,List.getElem?_drop,show a+1+(i-a-1)=i by omega,List.getElem?_map,List.getElem?_range hi]
   simp [setV,show i≠a by omega]
 ·rw [List.getElem?_eq_none (by simp;omega),List.getElem?_eq_none (by simp;omega)]
theorem RD.app {h h2:Hp} {dd:Nat} {V:Nat→CV} {L:List Hd} (k:RD h dd V L) {a:Nat} (ha:a<16) {A:Cel} (f2:Fn h h2) {tv:TV} {lc:List (List CV)} (hx:sliceRows h2 lc 5 tv=some [encE A]) (hl:L.length≤100000) :
 ∃ v' h3,appT h2 lc 5 40 (.v (.c (V a))) tv=some (v',h3)∧h3.g dd=some (.rows true 16 0 0 [(List.range 16).map V])∧RD (h3.put dd (.rows true 16 0 0 [(List.range 16).map (setV V a v')])) dd (setV V a v') (L++[⟨(a:Nat),A⟩])∧
  (∀ x,x<16→Gw false (h3.put dd (.rows true 16 0 0 [(List.range 16).map (setV V a v')])) 5 (V x) ((celsN L x).map encE))∧Fm (fun j=>j=dd∨ownId (V a) j) h (h3.put dd (.rows true 16 0 0 [(List.range 16).map (setV V a v')]))∧(∀ j,ownId v' j→ownId (V a) j∨h.n≤j):=by
 have hcl:=celsN_len L ((a:Nat):Int)
 obtain ⟨v',h3,a1,a2,a3,_,a5,a6⟩:=((k.g a ha).mono f2 (fun _ _ e=>e)).app hx (by simp) (bytes:=40) (by rw [List.length_map];simp only [room,List.length_singleton];omega)
 have hd3:=a5.some (f2.some k.row (fun e=>e)) (fun e=>k.id a ha _ e rfl)
 have hdn:=lt_of_g k.row
 have fp:∀ X,Fm (fun j=>j=dd) h3 (h3.put dd X):=fun X=>Fm.put _ _ rfl
 have hq:∀ j,ownId v' j→ownId (V a) j∨h.n≤j:=fun j hj=>(a6 j hj).imp (fun e=>e) (fun e=>by have:=f2.n;omega)
 have hlt:∀ x,x<16→∀ j,ownId (V x) j→j<h.n:=fun x hx j hj=>(k.g x hx).lt hj
 have hv'd:∀ j,ownId v' j→j≠dd:=fun j hj=>(hq j hj).elim (k.id a ha j) (fun e=>by omega)
 have hoth:∀ x,x<16→x≠a→Gw false (h3.put dd (.rows true 16 0 0 [(List.range 16).map (setV V a v')])) 5 (V x) ((celsN L x).map encE):=fun x hx hxa=>
  (((k.g x hx).mono f2 (fun _ _ e=>e)).mono a5 (fun j hj e=>k.sep x a hx ha hxa j hj e)).mono (fp _) (fun j hj=>k.id x hx j hj)
 refine ⟨v',h3,a1,hd3,⟨by rw [g_put_eq,hd3];rfl,fun x hx=>?_,fun x y hx hy hxy j hj=>?_,fun x hx j hj=>?_⟩,fun x hx=>?_,?_,hq⟩
 ·rw [celsN_snoc]
  by_cases hxa:x=a
  ·subst hxa
   rw [if_pos rfl]
   have:setV V x v' x=v':=by simp [setV]
   rw [this,List.map_append]
   exact (a2.old).mono (fp _) hv'd
  ·rw [if_neg (show ¬((x:Nat):Int)=((a:Nat):Int) by omega)]
   have:setV V a v' x=V x:=by simp [setV,hxa]
   rw [this]
   exact hoth x hx hxa
 ·unfold setV at hj ⊢
  by_cases hxa:x=a
  ·rw [if_pos hxa] at hj
   rw [if_neg (by omega)]
   intro e
   rcases hq j hj with e'|e'
   ·exact k.sep a y ha hy (by omega) j e' e
   ·have:=hlt y hy j e;omega
  ·rw [if_neg hxa] at hj
   by_cases hya:y=a
   ·rw [if_pos hya]
    intro e
    rcases hq j e with e'|e'
    ·exact k.sep x a hx ha hxa j hj e'
    ·have:=hlt x hx j hj;omega
   ·rw [if_neg hya]
    exact k.sep x y hx hy hxy j hj
 ·unfold setV at hj
  split at hj
  ·exact hv'd j hj
  ·exact k.id x hx j hj
 ·by_cases hxa:x=a
  ·subst hxa
   exact a3.mono (fp _) (fun j hj=>k.id x hx j hj)
  ·exact hoth x hx hxa
 ·exact ((f2.mono (fun _ _ e=>e.elim)).trans (a5.mono (fun j _ e=>.inr e))).trans ((fp _).mono (fun j _ e=>.inl e))
section
variable {k:Nat} {h:Hp} {P:AV→Hp→Prop} {dd:Nat} {V:Nat→CV} {L:List Hd}
def RkL (d a b:Nat) (fr op:Int) (cn ln j:Nat) (l:List (Nat × TV)):Prop:=
 lk l 0 = .v (.c (.ptr d 0 0 0))∧lk l 1 = .v (.c (.int .i64 a))∧lk l 2 = .v (.c (.int .i64 b))∧lk l 3 = .v (.c (.int .i64 fr))∧lk l 5 = .v (.c (.int .i64 cn))∧lk l 6 = .v (.c (.int .i64 op))∧lk l 19 = .v (.c (.int .i64 ln))∧lk l 20 = .v (.c (.int .i64 j))
def RkA (h:Hp) (d a b:Nat) (fr op o:Int) (L:List Hd) (ln cn:Nat) (n:Nat) (s:St):Prop:=
 ∃ (j:Nat) (l:List (Nat × TV)) (lc:List (List CV)),s=ST 79 l lc h∧j≤ln∧n=ln-j∧(∀ s c,s<j→c<cn→¬(cntN L a<64∧cntN L b<64∧freeD fr L a b o s c))∧RkL d a b fr op cn ln j l
def RkB (h:Hp) (d a b:Nat) (fr op o:Int) (L:List Hd) (ln cn j:Nat) (n:Nat) (s:St):Prop:=
 ∃ (i:Nat) (l:List (Nat × TV)) (lc:List (List CV)),s=ST 79 l lc h∧i≤cn∧n=cn-i∧(∀ c,c<i→¬(cntN L a<64∧cntN L b<64∧freeD fr L a b o j c))∧RkL d a b fr op cn ln j l∧
  lk l 15 = .v (.c (.int .i64 j))∧lk l 23 = .v (.c (.int .i64 cn))∧lk l 24 = .v (.c (.int .i64 i))
theorem rlink_ok {a b ln cn:Nat} {fr op o:Int} (ho:IntKind.wrap .i64 (BitVec.ofInt IntKind.i64.bits 2 ||| BitVec.ofInt IntKind.i64.bits op).toNat=o) (hR:RD h dd V L) (hL:∀ y∈L,0≤y.n∧y.n<16) (ha:a<16) (hb:b<16) (hab:a≠b)
 (hln:ln≤1000) (hcn:cn≤16) (hl:L.length≤90000)
 (hP0:place fr L a b o ln cn=none→P (.c (.bool false)) h)
 (hP1:∀ h' V' x,place fr L a b o ln cn=some x→RD h' dd V' (L++twoD fr a b o x.1 x.2)→(∀ x,x<16→Gw false h' 5 (V x) ((celsN L x).map encE))→Fm (fun j=>j=dd∨ownV V j) h h'→(∀ j,ownV V' j→ownV V j∨h.n≤j)→P (.c (.bool true)) h') :
 callW N (k+5) 252 [.c (.ptr dd 0 0 0),.c (.int .i64 a),.c (.int .i64 b),.c (.int .i64 fr),.c (.int .i64 ln),.c (.int .i64 cn),.c (.int .i64 op)] h P:=by
 refine call_intro rfl (by simp only [List.length_cons,List.length_nil];omega) ?_
 simp -implicitDefEqProofs only [KK,eq_self,↓reduceIte,reduceLT,reduceEqDiff,reduceAdd,reduceCtorEq]
 refine loop_rd (callW_mono N _) (RkA h dd a b fr op o L ln cn) (n:=ln) ⟨0,_,_,rfl,by omega,by omega,fun s c hs=>by omega,rfl,rfl,rfl,rfl,rfl,rfl,rfl,rfl⟩ ?_
 rintro n s ⟨j,l,lc,rfl,hj,hn,hno,e0,e1,e2,e3,e5,e6,e19,e20⟩
 by_cases hlt:(j:Int)<ln
 ·simp -implicitDefEqProofs only [KK,eq_self,↓reduceIte,reduceLT,reduceEqDiff,reduceCtorEq,e0,e1,e2,e3,e5,e6,e19,e20,hlt]
  refine loop_rd (callW_mono N _) (RkB h dd a b fr op o L ln cn j) (n:=cn) ⟨0,_,_,rfl,by omega,by omega,fun c hs=>by omega,⟨rfl,rfl,rfl,rfl,rfl,rfl,rfl,rfl⟩,rfl,rfl,rfl⟩ ?_
  clear e0 e1 e2 e3 e5 e6 e19 e20
  rintro n2 s ⟨i,l,lc,rfl,hi,hn2,hno2,⟨e0,e1,e2,e3,e5,e6,e19,e20⟩,e15,e23,e24⟩
  have hw:=wrap_i64 (n:=(i:Int)+1) (by omega)
  have hw2:=wrap_i64 (n:=(j:Int)+1) (by omega)
  by_cases hlt2:(i:Int)<cn
  ·have no:¬(cntN L a<64∧cntN L b<64∧freeD fr L a b o j i)→∀ c,c<i+1→¬(cntN L a<64∧cntN L b<64∧freeD fr L a b o j c):=by
    intro hnf c hc
    rcases Nat.lt_or_ge c i with h|h
    ·exact hno2 c h
    ·rw [show c=i by omega];exact hnf
   simp -implicitDefEqProofs only [KK,eq_self,↓reduceIte,reduceLT,reduceEqDiff,reduceAdd,reduceLeDiff,reduceCtorEq,e0,e1,e2,e3,e5,e6,e19,e20,e15,e23,e24,hlt2,ho]
   refine fits_ok (k:=k) (c:=⟨fr,j,i,1,b⟩) hR ha hL (by omega) (fun hbad=>?_) fun ca hfa=>?_
   ·simp -implicitDefEqProofs only [KK,eq_self,↓reduceIte,reduceLT,reduceEqDiff,reduceAdd,reduceCtorEq,hw,rd_n]
    exact ⟨n2-1,by omega,i+1,_,_,rfl,by omega,by omega,no (fun h=>hbad.elim (by omega) h.2.2.1),⟨rfl,rfl,rfl,rfl,rfl,rfl,rfl,rfl⟩,rfl,rfl,rfl⟩
   ·simp -implicitDefEqProofs only [KK,eq_self,↓reduceIte,reduceLT,reduceEqDiff,reduceAdd,reduceCtorEq]
    refine fits_ok (k:=k) (c:=⟨fr,j,i,o,a⟩) hR hb hL (by omega) (fun hbad=>?_) fun cb hfb=>?_
    ·simp -implicitDefEqProofs only [KK,eq_self,↓reduceIte,reduceLT,reduceEqDiff,reduceAdd,reduceCtorEq,hw,rd_n]
     exact ⟨n2-1,by omega,i+1,_,_,rfl,by omega,by omega,no (fun h=>hbad.elim (by omega) h.2.2.2),⟨rfl,rfl,rfl,rfl,rfl,rfl,rfl,rfl⟩,rfl,rfl,rfl⟩
    ·have hpl:place fr L a b o ln cn=some (j,i):=place_some (by omega) (by omega) ca cb ⟨hfa,hfb⟩ (fun s' c' hc' hs hf=>by
      rcases hs with hs|⟨rfl,hs⟩
      ·exact hno s' c' hs hc' ⟨ca,cb,hf⟩
      ·exact hno2 c' hs ⟨ca,cb,hf⟩)
     obtain ⟨h1,hh1⟩:∃ h1,h1=h.reserve 1:=⟨_,rfl⟩
     have f1:Fn h h1:=by rw [hh1];exact Fm.reserve _ _ _
     have d1:h1.g h.n=some .dead:=by rw [hh1,g_reserve,if_pos (by omega)]
     obtain ⟨h2,hh2⟩:∃ h2,h2=h1.put h.n (.rows true 5 0 0 [[.int .i64 fr,.int .i64 j,.int .i64 i,.int .i64 1,.int .i64 b]]):=⟨_,rfl⟩
     have f2:Fn h h2:=by rw [hh2];exact f1.putNew _ (Nat.le_refl _)
     have hx:∀ lc,sliceRows h2 lc 5 (.v (.c (.sl h.n 0 0 1 (some 1))))=some [encE ⟨fr,j,i,1,b⟩]:=by
      intro lc
      have:h2.g h.n=some (.rows true 5 0 0 [[.int .i64 fr,.int .i64 j,.int .i64 i,.int .i64 1,.int .i64 b]]):=by rw [hh2,g_put_eq,d1];rfl
      simp [sliceRows,g_def,this,encE]
     obtain ⟨v3,h3,a1,a2,a3,a4,a5,a6⟩:=hR.app ha (A:=⟨fr,j,i,1,b⟩) f2 (hx [[.int .i64 fr,.int .i64 j,.int .i64 i,.int .i64 1,.int .i64 b],[.int .i64 fr,.int .i64 j,.int .i64 i,.int .i64 o,.int .i64 a]]) (by omega)
     obtain ⟨h4,hh4⟩:∃ h4,h4=h3.put dd (.rows true 16 0 0 [(List.range 16).map (setV V a v3)]):=⟨_,rfl⟩
     rw [←hh4] at a3 a4 a5
     obtain ⟨h5,hh5⟩:∃ h5,h5=h4.reserve 1:=⟨_,rfl⟩
     have f5:Fn h4 h5:=by rw [hh5];exact Fm.reserve _ _ _
     have d5:h5.g h4.n=some .dead:=by rw [hh5,g_reserve,if_pos (by omega)]
     obtain ⟨h6,hh6⟩:∃ h6,h6=h5.put h4.n (.rows true 5 0 0 [[.int .i64 fr,.int .i64 j,.int .i64 i,.int .i64 o,.int .i64 a]]):=⟨_,rfl⟩
     have f6:Fn h4 h6:=by rw [hh6];exact f5.putNew _ (Nat.le_refl _)
     have hx6:∀ lc,sliceRows h6 lc 5 (.v (.c (.sl h4.n 0 0 1 (some 1))))=some [encE ⟨fr,j,i,o,a⟩]:=by
      intro lc
      have:h6.g h4.n=some (.rows true 5 0 0 [[.int .i64 fr,.int .i64 j,.int .i64 i,.int .i64 o,.int .i64 a]]):=by rw [hh6,g_put_eq,d5];rfl
      simp [sliceRows,g_def,this,encE]
     obtain ⟨v7,h7,b1,b2,b3,b4,b5,b6⟩:=a3.app hb (A:=⟨fr,j,i,o,a⟩) f6 (hx6 [[.int .i64 fr,.int .i64 j,.int .i64 i,.int .i64 1,.int .i64 b],[.int .i64 fr,.int .i64 j,.int .i64 i,.int .i64 o,.int .i64 a]]) (by rw [List.length_append];simp;omega)
     have ia:iaddrAV 16 1 (.v (.c (.ptr dd 0 0 0))) a=some (.v (.c (.ptr dd 0 0 a))):=by
      unfold iaddrAV
      rw [if_pos (by omega)]
      simp
     have ib:iaddrAV 16 1 (.v (.c (.ptr dd 0 0 0))) b=some (.v (.c (.ptr dd 0 0 b))):=by
      unfold iaddrAV
      rw [if_pos (by omega)]
      simp
     have vat:∀ (V:Nat→CV) j,j<16→((List.range 16).map V)[j]? = some (V j):=fun V j hj=>by have:=vrow_at V hj;rwa [Nat.zero_add] at this
     have hr1:=f1.some hR.row (fun e=>e)
     have hr5:=f5.some a3.row (fun e=>e)
     have q1:=vat V a ha
     have q2:=vat (setV V a v3) b hb
     have q3:=vrow_set V v3 ha
     have q4:=vrow_set (setV V a v3) v7 hb
     have q5:∀ V:Nat→CV,((List.range 16).map V).length=16:=fun V=>by simp
     have q6:=q5 V
     have q7:=q5 (setV V a v3)
     have q8:a+1≤16:=by omega
     have q9:b+1≤16:=by omega
     have g1:=hh1.symm
     have g2:=hh2.symm
     have g4:=hh4.symm
     have g5:=hh5.symm
     have g6:=hh6.symm
     have hrow:=hR.row
     have hrow4:=a3.row
     have hVs:∀ x,x<16→Gw false (h7.put dd (.rows true 16 0 0 [(List.range 16).map (setV (setV V a v3) b v7)])) 5 (V x) ((celsN L x).map encE):=by
      intro x hx
      by_cases hxa:x=a
      ·subst hxa
       refine (a4 x hx).mono b5 (fun j' hj' e=>e.elim (hR.id x hx j' hj') (fun e=>?_))
       have:setV V x v3 b=V b:=by simp [setV,show b≠x by omega]
       rw [this] at e
       exact hR.sep x b hx hb hab j' hj' e
      ·have:=b4 x hx
       rw [celsN_snoc,if_neg (show ¬((x:Nat):Int)=((a:Nat):Int) by omega)] at this
       have e:setV V a v3 x=V x:=by simp [setV,hxa]
       rwa [e] at this
     have hfm:Fm (fun j=>j=dd∨ownV V j) h (h7.put dd (.rows true 16 0 0 [(List.range 16).map (setV (setV V a v3) b v7)])):=by
      refine (a5.mono (fun j' _ e=>e.imp (fun e=>e) (fun e=>⟨a,ha,e⟩))).trans (b5.mono (fun j' _ e=>e.imp (fun e=>e) (fun e=>⟨b,hb,?_⟩)))
      have:setV V a v3 b=V b:=by simp [setV,show b≠a by omega]
      rwa [this] at e
     have hown:∀ j',ownV (setV (setV V a v3) b v7) j'→ownV V j'∨h.n≤j':=by
      rintro j' ⟨x,hx,hj'⟩
      unfold setV at hj'
      split at hj'
      ·rcases b6 j' hj' with e|e
       ·have:setV V a v3 b=V b:=by simp [setV,show b≠a by omega]
        rw [this] at e
        exact .inl ⟨b,hb,e⟩
       ·have:=a5.n;exact .inr (by omega)
      ·split at hj'
       ·exact (a6 j' hj').imp (fun e=>⟨a,ha,e⟩) (fun e=>e)
       ·exact .inl ⟨x,hx,hj'⟩
     have hfin:P (.c (.bool true)) (h7.put dd (.rows true 16 0 0 [(List.range 16).map (setV (setV V a v3) b v7)])):=by
      refine hP1 _ _ (j,i) hpl ?_ hVs hfm hown
      unfold twoD
      rw [List.append_assoc] at b3
      exact b3
     generalize hW1:(List.range 16).map V=W1 at *
     generalize hW2:(List.range 16).map (setV V a v3)=W2 at *
     generalize hW3:(List.range 16).map (setV (setV V a v3) b v7)=W3 at *
     simp -implicitDefEqProofs only [KK,eq_self,↓reduceIte,reduceLT,reduceEqDiff,reduceAdd,reduceCtorEq,g1,hr1,ia,ib,q1,d1,g2,a1,a2,q3,q6,q8,g4,g5,hr5,q2,d5,g6,b1,b2,q4,q7,q9]
     exact hfin
  ·simp -implicitDefEqProofs only [KK,eq_self,↓reduceIte,reduceLT,reduceEqDiff,reduceCtorEq,e0,e1,e2,e3,e5,e6,e19,e20,e15,e23,e24,hlt2,hw2,rd_n]
   exact ⟨n-1,by omega,j+1,_,_,rfl,by omega,by omega,fun s c hs hc=>by
    rcases Nat.lt_or_ge s j with h|h
    ·exact hno s c h hc
    ·rw [show s=j by omega];exact hno2 c (by omega),rfl,rfl,rfl,rfl,rfl,rfl,rfl,rfl⟩
 ·simp -implicitDefEqProofs only [KK,eq_self,↓reduceIte,reduceLT,reduceEqDiff,reduceCtorEq,e0,e1,e2,e3,e5,e6,e19,e20,hlt]
  refine hP0 (place_none ?_)
  by_cases ca:64≤cntN L a
  ·exact .inl ca
  ·by_cases cb:64≤cntN L b
   ·exact .inr (.inl cb)
   ·exact .inr (.inr fun s c hs hc hf=>hno s c (by omega) hc ⟨by omega,by omega,hf⟩)
end
end
section
set_option maxHeartbeats 4000000
theorem sl_not_gw {h:Hp} {w v:CV} {r1 r2:List (List CV)} {b:Bool} (hw:SL h 1 w r1) (hv:Gw b h 5 v r2) {j:Nat} (h1:ownId w j):¬ownId v j:=by
 intro h2
 cases w <;> simp only [ownId] at h1
 cases v <;> simp only [ownId] at h2
 subst h1 h2
 obtain ⟨_,_,_,_,q1,_⟩:=hw
 obtain ⟨_,_,⟨_,_,_,q2,_⟩|⟨_,_,q2,_⟩⟩:=hv
 ·rw [q1] at q2;injection q2 with q2;injection q2 with _ q2;cases q2
 ·rw [q1] at q2;cases q2
theorem sl_not_ow {h:Hp} {u v:CV} {r1 r2:List (List CV)} (hu:SL h 5 u r1) (hv:Ow h 1 v r2) {j:Nat} (h1:ownId u j):¬ownId v j:=by
 intro h2
 cases u <;> simp only [ownId] at h1
 cases v <;> simp only [ownId] at h2
 subst h1 h2
 obtain ⟨_,_,_,_,q1,_⟩:=hu
 obtain ⟨_,_,_,_,q2,_⟩:=hv
 rw [q1] at q2;injection q2 with q2;injection q2 with _ q2;cases q2
def boolV (out:List Int):Nat→CV:=fun x=>.bool (decide ((x:Int)∈out))
theorem boolV_set (out:List Int) {x:Nat} (hx:x<16):((List.range 16).map (boolV out)).take x++CV.bool true::((List.range 16).map (boolV out)).drop (x+1)=(List.range 16).map (boolV (out++[(x:Int)])):=by
 rw [vrow_set _ _ hx]
 refine List.map_congr_left fun y _=>?_
 unfold setV boolV
 by_cases h:y=x
 ·subst h;simp
 ·rw [if_neg h]
  congr 2
  simp
  omega
section
variable {k r:Nat} {f:Int→Option Nat} {par:Int→List Int} {R:Nat→Int} {W:Nat→CV} {h:Hp} {P:AV→Hp→Prop} {fr:Int} {ln cn:Nat} {ol:List Int}
structure RdS (h0 h:Hp) (fr:Int) (ln cn:Nat) (par:Int→List Int) (ol:List Int) (w:CV) (V:Nat→CV) (i:Nat):Prop where
 rd:RD h (h0.n+1) V (dealF fr ln cn par (ol.take i)).1
 rng:∀ y∈(dealF fr ln cn par (ol.take i)).1,0≤y.n∧y.n<16
 fn:Fn h0 h
 so:SL h 1 w (rI ol)
 wd:∀ j,ownId w j→j≠h0.n+1
 lo:∀ j,ownV V j→h0.n+2≤j
 bx:h.g h0.n=some (.rows true 16 0 0 [List.replicate 16 .nils])
structure RcS (h0 h:Hp) (L:List Hd) (out:List Int) (V:Nat→CV) (w:CV) (i:Nat):Prop where
 row:h.g (h0.n+1)=some (.rows true 16 0 0 [(List.range 16).map V])
 bx:h.g h0.n=some (.rows true 16 0 0 [List.replicate 16 .nils])
 a:∀ x:Nat,x<16→x<i→SL h 5 (V x) ((srtC (celsN L ((x:Nat):Int))).map encE)
 b:∀ x:Nat,x<16→i≤x→Gw false h 5 (V x) ((celsN L ((x:Nat):Int)).map encE)
 lo:∀ j,ownV V j→h0.n+2≤j
 ow:Ow h 1 w (rI (upto (fun y=>decide ((y:Int)∈out)) i))
 wlo:∀ j,ownId w j→h0.n+2≤j
 fn:Fn h0 h
def RcA (h0:Hp) (L:List Hd) (out:List Int) (m:Nat) (s:St):Prop:=
 ∃ (i:Nat) (V:Nat→CV) (w:CV) (h':Hp) (l:List (Nat × TV)) (lc:List (List CV)),s=ST 101 l ((List.range 16).map (boolV out)::lc) h'∧i≤16∧m=16-i∧RcS h0 h' L out V w i∧
  lk l 8 = .v (.c (.ptr h0.n 0 0 0))∧lk l 10 = .v (.c (.ptr (h0.n+1) 0 0 0))∧lk l 11 = .lp 0 0∧lk l 16 = .v (.c w)∧lk l 80 = .v (.c (.int .i64 i))
theorem RcS.srt {h0 h1 h2:Hp} {L:List Hd} {out:List Int} {V:Nat→CV} {w u:CV} {i:Nat} (k:RcS h0 h1 L out V w i) (hi:i<16) (f:Fn h1 h2) (hu:Ow h2 5 u ((srtC (celsN L ((i:Nat):Int))).map encE)) (hq:∀ j,ownId u j→h1.n≤j) :
 let h3:=h2.put (h0.n+1) (.rows true 16 0 0 [(List.range 16).map (setV V i u)])
 h3.g (h0.n+1)=some (.rows true 16 0 0 [(List.range 16).map (setV V i u)])∧h3.g h0.n=some (.rows true 16 0 0 [List.replicate 16 .nils])∧(∀ x:Nat,x<16→x<i+1→SL h3 5 (setV V i u x) ((srtC (celsN L ((x:Nat):Int))).map encE))∧
  (∀ x:Nat,x<16→i+1≤x→Gw false h3 5 (setV V i u x) ((celsN L ((x:Nat):Int)).map encE))∧(∀ j,ownV (setV V i u) j→h0.n+2≤j)∧Ow h3 1 w (rI (upto (fun y=>decide ((y:Int)∈out)) i))∧Fn h0 h3∧h1.n≤h3.n:=by
 have hn1:=lt_of_g k.row
 have h2r:=f.some k.row (fun e=>e)
 have fp:Fm (fun j=>j=h0.n+1) h2 (h2.put (h0.n+1) (.rows true 16 0 0 [(List.range 16).map (setV V i u)])):=Fm.put _ _ rfl
 have f13:Fm (fun j=>j=h0.n+1) h1 (h2.put (h0.n+1) (.rows true 16 0 0 [(List.range 16).map (setV V i u)])):=(f.mono (fun _ _ e=>e.elim)).trans fp
 have hset:∀ x:Nat,x≠i→setV V i u x=V x:=fun x hx=>by unfold setV;rw [if_neg hx]
 have hseti:setV V i u i=u:=by unfold setV;rw [if_pos rfl]
 have hno:∀ x,x<16→∀ j,ownId (V x) j→j≠h0.n+1:=fun x hx j hj e=>by have:=k.lo j ⟨x,hx,hj⟩;omega
 refine ⟨by rw [g_put_eq,h2r];rfl,f13.some k.bx (fun e=>by omega),fun x hx hxi=>?_,fun x hx hxi=>?_,fun j hj=>?_,(k.ow.new f).mono fp (fun j hj e=>by have:=k.wlo j hj;omega),k.fn.fresh f13 (fun j e=>by omega),by have:=f13.n;exact this⟩
 ·rcases Nat.lt_or_ge x i with e|e
  ·rw [hset x (by omega)]
   exact (k.a x hx e).mono f13 (fun id _ _ _ _ e1 e2=>hno x hx id (by rw [e1];rfl) e2)
  ·have:x=i:=by omega
   subst this
   rw [hseti]
   exact (hu.mono fp (fun j hj e=>by have:=hq j hj;omega)).sl
 ·rw [hset x (by omega)]
  exact (k.b x hx (by omega)).mono f13 (fun j hj e=>hno x hx j hj e)
 ·obtain ⟨x,hx,hj⟩:=hj
  by_cases e:x=i
  ·subst e
   rw [hseti] at hj
   have:=hq j hj
   omega
  ·rw [hset x e] at hj
   exact k.lo j ⟨x,hx,hj⟩
theorem uptoL (p:Nat→Bool) {i:Nat} (hi:i≤16):(rI (upto p i)).length≤16:=by rw [rI_len];have:=upto_len p i;omega
def RdA (h0:Hp) (r:Nat) (fr:Int) (ln cn:Nat) (par:Int→List Int) (ol:List Int) (w:CV) (n:Nat) (s:St):Prop:=
 ∃ (i:Nat) (V:Nat→CV) (h':Hp) (l:List (Nat × TV)) (lc:List (List CV)),s=ST 101 l ((List.range 16).map (boolV (dealF fr ln cn par (ol.take i)).2)::lc) h'∧i≤ol.length∧n=ol.length-i∧RdS h0 h' fr ln cn par ol w V i∧
  lk l 0 = .v (.c (.ptr r 0 0 0))∧lk l 1 = .v (.c (.int .i64 fr))∧lk l 2 = .v (.c (.int .i64 ln))∧lk l 3 = .v (.c (.int .i64 cn))∧lk l 8 = .v (.c (.ptr h0.n 0 0 0))∧lk l 10 = .v (.c (.ptr (h0.n+1) 0 0 0))∧lk l 11 = .lp 0 0∧
  lk l 43 = .v (.c w)∧lk l 44 = .v (.c (.int .i64 ol.length))∧lk l 45 = .v (.c (.int .i64 i))
theorem RdS.step {h0 h1 h2:Hp} {w:CV} {V V':Nat→CV} {i:Nat} {L:List Hd} (k:RdS h0 h1 fr ln cn par ol w V i) (hd:(dealF fr ln cn par (ol.take (i+1))).1=L) (hr:RD h2 (h0.n+1) V' L) (hrng:∀ y∈L,0≤y.n∧y.n<16)
 (f:Fm (fun j=>j=h0.n+1∨ownV V j) h1 h2) (hq:∀ j,ownV V' j→ownV V j∨h1.n≤j):RdS h0 h2 fr ln cn par ol w V' (i+1):=by
 have hn1:=lt_of_g k.rd.row
 refine ⟨by rw [hd];exact hr,by rw [hd];exact hrng,k.fn.fresh f (fun j hj=>hj.elim (fun e=>by omega) (fun e=>by have:=k.lo j e;omega)),k.so.mono f (fun id _ _ _ _ e hj=>?_),k.wd,fun j hj=>(hq j hj).elim (k.lo j) (fun e=>by omega),f.some k.bx (fun e=>e.elim (fun e=>by omega) (fun e=>by have:=k.lo _ e;omega))⟩
 have hwi:ownId w id:=by rw [e];rfl
 rcases hj with hj|⟨x,hx,hj⟩
 ·exact k.wd id hwi hj
 ·exact sl_not_gw k.so (k.rd.g x hx) hwi hj
theorem rdeal_ok (hR:RTf h r f par R W) (ho:oL R 16=ol) (hO:OlP par ol) (hfr:0≤fr∧fr<4) (hln:1≤ln∧ln≤200) (hcn:1≤cn∧cn≤16)
 (hP:∀ h' V nv,Fn h h'→(∀ x:Nat,x<16→SL h' 5 (V x) ((srtC (celsN (dealF fr ln cn par ol).1 ((x:Nat):Int))).map encE))→SL h' 1 nv (rI (upto (fun i=>decide ((i:Int)∈(dealF fr ln cn par ol).2)) 16))→P (.tup [.agg ((List.range 16).map V),.c nv]) h') :
 callW N (k+10) 247 [.c (.ptr r 0 0 0),.c (.int .i64 fr),.c (.int .i64 ln),.c (.int .i64 cn)] h P:=by
 have c1:¬fr<0:=by omega
 have c2:¬(4:Int)≤fr:=by omega
 have c3:¬(ln:Int)<1:=by omega
 have c4:¬(200:Int)<ln:=by omega
 have c5:¬(cn:Int)<1:=by omega
 have c6:¬(16:Int)<cn:=by omega
 obtain ⟨h1,hh1⟩:∃ h1,h1=(h.push (.rows true 16 0 0 [List.replicate 16 .nils])).push (.rows true 16 0 0 [List.replicate 16 .nils]):=⟨_,rfl⟩
 have n0:(h.push (.rows true 16 0 0 [List.replicate 16 .nils])).n=h.n+1:=n_push _ _
 have n1:h1.n=h.n+2:=by rw [hh1,n_push,n0]
 have f1:Fn h h1:=by rw [hh1];exact (Fm.push _ _ _).trans (Fm.push _ _ _)
 have g1:h1.g h.n=some (.rows true 16 0 0 [List.replicate 16 .nils]):=by rw [hh1,g_push_ne _ _ (by omega),g_push_eq]
 have g2:h1.g (h.n+1)=some (.rows true 16 0 0 [List.replicate 16 .nils]):=by rw [hh1,←n0,g_push_eq]
 have hfold:(h.push (.rows true 16 0 0 [[.nils,.nils,.nils,.nils,.nils,.nils,.nils,.nils,.nils,.nils,.nils,.nils,.nils,.nils,.nils,.nils]])).push (.rows true 16 0 0 [[.nils,.nils,.nils,.nils,.nils,.nils,.nils,.nils,.nils,.nils,.nils,.nils,.nils,.nils,.nils,.nils]])=h1:=hh1.symm
 have n0':(h.push (.rows true 16 0 0 [[.nils,.nils,.nils,.nils,.nils,.nils,.nils,.nils,.nils,.nils,.nils,.nils,.nils,.nils,.nils,.nils]])).n=h.n+1:=n0
 refine call_intro rfl (by simp only [List.length_cons,List.length_nil];omega) ?_
 rw [a_fin]
 unfold n247b
 simp -implicitDefEqProofs only [KK,eq_self,↓reduceIte,reduceLT,reduceEqDiff,reduceAdd,reduceCtorEq,c1,c2,c3,c4,c5,c6,n0',hfold]
 refine rorder_ok (k:=k+8) (hR.new f1) fun h2 w hw f2=>?_
 rw [ho] at hw
 have hlw:∀ h':Hp,lenT h' .sl (.v (.c w))=some (ol.length:Int):=fun h'=>by rw [hw.len h',rI_len]
 have hol:=hO.len
 simp -implicitDefEqProofs only [KK,eq_self,↓reduceIte,reduceLT,reduceEqDiff,reduceCtorEq,hlw]
 have hb0:[CV.bool false,.bool false,.bool false,.bool false,.bool false,.bool false,.bool false,.bool false,.bool false,.bool false,.bool false,.bool false,.bool false,.bool false,.bool false,.bool false] = (List.range 16).map (boolV (dealF fr ln cn par (ol.take 0)).2):=rfl
 have hwd:∀ j,ownId w j→j≠h.n+1:=by
  rintro j hj rfl
  have hg:=f2.some g2 (fun e=>e)
  cases w <;> simp only [ownId] at hj
  obtain ⟨_,_,_,_,q1,_⟩:=hw
  subst hj
  rw [hg] at q1
  injection q1 with q1
  injection q1 with _ q1
  cases q1
 have hS0:RdS h h2 fr ln cn par ol w (fun _=>.nils) 0:=⟨⟨f2.some g2 (fun e=>e),fun x hx=>rfl,fun x y _ _ _ j hj=>hj.elim,fun x _ j hj=>hj.elim⟩,(fun y hy=>by cases hy),f1.trans f2,hw,hwd,(fun j hj=>by obtain ⟨_,_,hj⟩:=hj;exact hj.elim),f2.some g1 (fun e=>e)⟩
 rw [hb0]
 refine loop_rd (callW_mono N _) (RdA h r fr ln cn par ol w) (n:=ol.length) ⟨0,fun _=>.nils,h2,_,_,rfl,by omega,by omega,hS0,rfl,rfl,rfl,rfl,rfl,rfl,rfl,rfl,rfl,rfl⟩ ?_
 rintro n s ⟨i,V,h3,l,lc,rfl,hi,hni,hS,e0,e1,e2,e3,e8,e10,e11,e43,e44,e45⟩
 by_cases hlt:(i:Int)<ol.length
 ·obtain ⟨x,hx⟩:=some_at (L:=ol) (i:=i) (by omega)
  have hxm:=mem_pre hx
  have hrow:(rI ol)[(i:Int).toNat]? = some [.int .i64 x]:=by simp [rI,hx]
  obtain ⟨p1,p2,p3,a1,a2⟩:=hS.so.at (by omega) hrow
  have hw':=wrap_i64 (n:=(i:Int)+1) (by omega)
  have hst:dealF fr ln cn par (ol.take (i+1))=dstep fr ln cn par (dealF fr ln cn par (ol.take i)) x:=by rw [take_snoc hx,dealF_snoc]
  by_cases cx:x=0
  ·have dx:decide (x=0)=true:=decide_eq_true cx
   have hst0:dealF fr ln cn par (ol.take (i+1))=dealF fr ln cn par (ol.take i):=by rw [hst];unfold dstep;rw [if_pos cx]
   simp -implicitDefEqProofs only [KK,eq_self,↓reduceIte,reduceLT,reduceEqDiff,reduceLeDiff,reduceCtorEq,e0,e1,e2,e3,e8,e10,e11,e43,e44,e45,hlt,a1,a2,dx,hw',rd_n]
   refine ⟨n-1,by omega,i+1,V,h3,_,_,by rw [hst0],by omega,by omega,hS.step (by rw [hst0]) hS.rd hS.rng (Fm.refl _ _) (fun j hj=>.inl hj),rfl,rfl,rfl,rfl,rfl,rfl,rfl,rfl,rfl,rfl⟩
  ·cases hpx:par x with
   | nil=>exact absurd hpx (hO.pne x hxm cx)
   | cons p ps=>
    have hx16:=hO.rng x hxm
    have hp16:=hO.prng x p (by rw [hpx];simp)
    have hpd:=hO.pdiff x p (by rw [hpx];simp)
    obtain ⟨xn,rfl⟩:∃ xn:Nat,x=xn:=⟨x.toNat,by omega⟩
    obtain ⟨pn,rfl⟩:∃ pn:Nat,p=pn:=⟨p.toNat,by omega⟩
    have hR3:=hR.new hS.fn
    have ht3:h3.g r=some (.rows true 32 0 0 [rt R W]):=hR3.t
    have ia:iaddrAV 16 1 (.v (.c (.ptr r 0 0 16))) xn=some (.v (.c (.ptr r 0 0 (16+xn * 1)))):=by
     unfold iaddrAV
     rw [if_pos (by omega)]
     simp
    have rv:=rt_v R W (a:=xn) (by omega)
    have hsl:=hR3.v xn (by omega)
    have hrow0:(rI (par (xn:Nat)))[(0:Int).toNat]? = some [.int .i64 (pn:Nat)]:=by rw [hpx];rfl
    obtain ⟨b1,b2,b3,d1,d2⟩:=hsl.at (Int.le_refl 0) hrow0
    have hdd:=hS.rd.row
    have s4:((List.range 16).map V).length=16:=by simp
    have s5:((List.range 16).map V).take 16=(List.range 16).map V:=List.take_of_length_le (by omega)
    have s6:((List.range 16).map V).drop 16=[]:=List.drop_of_length_le (by omega)
    have hli:=(dealF_len fr ln cn par (ol.take i)).1
    have hti:(ol.take i).length≤16:=by rw [List.length_take];omega
    have hbl:((List.range 16).map (boolV (dealF fr ln cn par (ol.take i)).2)).length=16:=by simp
    have hbs:=boolV_set (dealF fr ln cn par (ol.take i)).2 (x:=xn) (by omega)
    have ib:iaddrAV 16 1 (.lp 0 0) xn=some (.lp 0 xn):=by
     unfold iaddrAV
     rw [if_pos (by omega)]
     simp
    have hle:xn+1≤16:=by omega
    have hbad:bothF fr (dealF fr ln cn par (ol.take i)).1 xn pn ln cn=none→dealF fr ln cn par (ol.take (i+1))=((dealF fr ln cn par (ol.take i)).1,(dealF fr ln cn par (ol.take i)).2++[(xn:Int)]):=by
     intro hb
     rw [hst]
     unfold dstep
     rw [if_neg cx,hpx]
     simp only [Int.toNat_natCast,hb]
    have hgood:∀ L',bothF fr (dealF fr ln cn par (ol.take i)).1 xn pn ln cn=some L'→dealF fr ln cn par (ol.take (i+1))=(L',(dealF fr ln cn par (ol.take i)).2):=by
     intro L' hb
     rw [hst]
     unfold dstep
     rw [if_neg cx,hpx]
     simp only [Int.toNat_natCast,hb]
    have hrd0:=hS.rd
    have back:∀ h5,Fm (fun j=>j=h.n+1∨ownV V j) h3 h5→(∀ x,x<16→Gw false h5 5 (V x) ((celsN (dealF fr ln cn par (ol.take i)).1 x).map encE))→∀ o,h5.g (h.n+1)=some o→
     RD (h5.put (h.n+1) (.rows true 16 0 0 [(List.range 16).map V])) (h.n+1) V (dealF fr ln cn par (ol.take i)).1∧Fm (fun j=>j=h.n+1∨ownV V j) h3 (h5.put (h.n+1) (.rows true 16 0 0 [(List.range 16).map V])):=by
     intro h5 f5 hg o hgo
     exact ⟨⟨by rw [g_put_eq,hgo];rfl,fun x hx=>(hg x hx).mono (Fm.put (S:=fun j=>j=h.n+1) _ _ rfl) (fun j hj=>hrd0.id x hx j hj),hrd0.sep,hrd0.id⟩,f5.trans (Fm.put _ _ (.inl rfl))⟩
    have hrng1:∀ s c,∀ y∈(dealF fr ln cn par (ol.take i)).1++twoD fr (xn:Int) (pn:Int) 2 s c,0≤y.n∧y.n<16:=by
     intro s c y hy
     rcases List.mem_append.mp hy with hy|hy
     ·exact hS.rng y hy
     ·simp only [twoD,List.mem_cons,List.not_mem_nil,or_false] at hy
      rcases hy with rfl|rfl
      ·exact ⟨by show (0:Int)≤xn;omega,by show (xn:Int)<16;omega⟩
      ·exact ⟨by show (0:Int)≤pn;omega,by show (pn:Int)<16;omega⟩
    have hrng2:∀ s c s2 c2,∀ y∈((dealF fr ln cn par (ol.take i)).1++twoD fr (xn:Int) (pn:Int) 2 s c)++twoD fr (pn:Int) (xn:Int) 10 s2 c2,0≤y.n∧y.n<16:=by
     intro s c s2 c2 y hy
     rcases List.mem_append.mp hy with hy|hy
     ·exact hrng1 s c y hy
     ·simp only [twoD,List.mem_cons,List.not_mem_nil,or_false] at hy
      rcases hy with rfl|rfl
      ·exact ⟨by show (0:Int)≤pn;omega,by show (pn:Int)<16;omega⟩
      ·exact ⟨by show (0:Int)≤xn;omega,by show (xn:Int)<16;omega⟩
    have hL0:(dealF fr ln cn par (ol.take i)).1.length≤80000:=by omega
    simp -implicitDefEqProofs only [KK,eq_self,↓reduceIte,reduceLT,reduceEqDiff,reduceAdd,reduceLeDiff,reduceCtorEq,e0,e1,e2,e3,e8,e10,e11,e43,e44,e45,hlt,a1,a2,cx,ht3,ia,rv,d1,d2,hdd,s4,s5]
    refine rlink_ok (k:=k+4) (o:=2) (by decide) hrd0 hS.rng (by omega) (by omega) (by omega) (by omega) (by omega) (by omega) (fun hno=>?_) fun h4 V4 x4 p1 hr4 hold4 f4 own4=>?_
    ·have hb1:bothF fr (dealF fr ln cn par (ol.take i)).1 xn pn ln cn=none:=by unfold bothF;rw [hno];rfl
     obtain ⟨k1,k2⟩:=back h3 (Fm.refl _ _) (fun x hx=>hrd0.g x hx) _ hdd
     generalize hBV:(List.range 16).map (boolV (dealF fr ln cn par (ol.take i)).2)=BV at *
     simp -implicitDefEqProofs only [KK,eq_self,↓reduceIte,reduceLT,reduceEqDiff,reduceAdd,reduceLeDiff,reduceCtorEq,hdd,s4,s5,s6,ib,hle,hbl,hbs,hw',rd_n]
     exact ⟨n-1,by omega,i+1,V,_,_,_,by rw [hbad hb1],by omega,by omega,hS.step (by rw [hbad hb1]) k1 hS.rng k2 (fun j hj=>.inl hj),rfl,rfl,rfl,rfl,rfl,rfl,rfl,rfl,rfl,rfl⟩
    ·simp -implicitDefEqProofs only [KK,eq_self,↓reduceIte,reduceLT,reduceEqDiff,reduceCtorEq]
     refine rlink_ok (k:=k+4) (o:=10) (by decide) hr4 (hrng1 _ _) (by omega) (by omega) (by omega) (by omega) (by omega) (by rw [List.length_append];simp [twoD];omega) (fun hno=>?_) fun h5 V5 x5 p2 hr5 hold5 f5 own5=>?_
     ·have hb1:bothF fr (dealF fr ln cn par (ol.take i)).1 xn pn ln cn=none:=by unfold bothF;rw [p1,Option.bind_some,hno];rfl
      obtain ⟨k1,k2⟩:=back h4 f4 hold4 _ hr4.row
      have hdd4:=hr4.row
      generalize hBV:(List.range 16).map (boolV (dealF fr ln cn par (ol.take i)).2)=BV at *
      have t4:((List.range 16).map V4).length=16:=by simp
      have t6:((List.range 16).map V4).drop 16=[]:=List.drop_of_length_le (by omega)
      simp -implicitDefEqProofs only [KK,eq_self,↓reduceIte,reduceLT,reduceEqDiff,reduceAdd,reduceLeDiff,reduceCtorEq,hdd4,s4,s5,t4,t6,ib,hle,hbl,hbs,hw',rd_n]
      exact ⟨n-1,by omega,i+1,V,_,_,_,by rw [hbad hb1],by omega,by omega,hS.step (by rw [hbad hb1]) k1 hS.rng k2 (fun j hj=>.inl hj),rfl,rfl,rfl,rfl,rfl,rfl,rfl,rfl,rfl,rfl⟩
     ·have hb1:bothF fr (dealF fr ln cn par (ol.take i)).1 xn pn ln cn=some (((dealF fr ln cn par (ol.take i)).1++twoD fr xn pn 2 x4.1 x4.2)++twoD fr pn xn 10 x5.1 x5.2):=by unfold bothF;rw [p1,Option.bind_some,p2];rfl
      simp -implicitDefEqProofs only [KK,eq_self,↓reduceIte,reduceLT,reduceEqDiff,reduceAdd,reduceLeDiff,reduceCtorEq,hw',rd_n]
      have f45:Fm (fun j=>j=h.n+1∨ownV V j) h3 h5:=f4.comp f5 (fun j hj e=>e.imp (fun e=>e) (fun e=>(own4 j e).elim (fun e=>e) (fun e=>by omega)))
      exact ⟨n-1,by omega,i+1,V5,_,_,_,by rw [hgood _ hb1],by omega,by omega,hS.step (by rw [hgood _ hb1]) hr5 (hrng2 _ _ _ _) f45 (fun j hj=>(own5 j hj).elim (fun e=>own4 j e) (fun e=>.inr (by have:=f4.n;omega))),rfl,rfl,rfl,rfl,rfl,rfl,rfl,rfl,rfl,rfl⟩
 ·have hio:i=ol.length:=by omega
  have hdo:dealF fr ln cn par (ol.take i)=dealF fr ln cn par ol:=by rw [List.take_of_length_le (by omega)]
  have hdl:=(dealF_len fr ln cn par ol).1
  simp -implicitDefEqProofs only [KK,eq_self,↓reduceIte,reduceLT,reduceEqDiff,reduceLeDiff,reduceCtorEq,e0,e1,e2,e3,e8,e10,e11,e43,e44,e45,hlt]
  have hrd:=hS.rd
  rw [hdo] at hrd
  rw [hdo]
  generalize hLL:(dealF fr ln cn par ol).1=L at *
  generalize hOO:(dealF fr ln cn par ol).2=out at *
  have hC0:RcS h h3 L out V .nils 0:=⟨hrd.row,hS.bx,fun x _ e=>by omega,fun x hx _=>hrd.g x hx,hS.lo,rfl,fun j hj=>hj.elim,hS.fn⟩
  refine loop_rd (callW_mono N _) (RcA h L out) (n:=16) ⟨0,V,.nils,h3,_,_,rfl,by omega,by omega,hC0,rfl,rfl,rfl,rfl,rfl⟩ ?_
  clear hC0 hrd hS e0 e1 e2 e3 e8 e10 e11 e43 e44 e45 hlt
  rintro m s ⟨i,V,w,h4,l,lc,rfl,hi,hm,hC,e8,e10,e11,e16,e80⟩
  have hrow:=hC.row
  have hbx:=hC.bx
  by_cases hlt:(i:Int)<16
  ·have hi16:i<16:=by omega
   have ia:iaddrAV 16 1 (.v (.c (.ptr (h.n+1) 0 0 0))) i=some (.v (.c (.ptr (h.n+1) 0 0 i))):=by
    unfold iaddrAV
    rw [if_pos (by omega)]
    simp
   have ib:iaddrAV 16 1 (.lp 0 0) i=some (.lp 0 i):=by
    unfold iaddrAV
    rw [if_pos (by omega)]
    simp
   have vat:∀ (V:Nat→CV),((List.range 16).map V)[i]? = some (V i):=fun V=>by have:=vrow_at V hi16;rwa [Nat.zero_add] at this
   have q1:=vat V
   have q2:=vat (boolV out)
   have q5:((List.range 16).map V).length=16:=by simp
   have q8:i+1≤16:=by omega
   have hwi:=wrap_i64 (n:=(i:Int)+1) (by omega)
   have hus:=upto_succ (fun y=>decide ((y:Int)∈out)) i
   have hcl:(celsN L (i:Nat)).length≤L.length:=celsN_len L _
   generalize hBV:(List.range 16).map (boolV out)=BV at *
   simp -implicitDefEqProofs only [KK,eq_self,↓reduceIte,reduceLT,reduceEqDiff,reduceLeDiff,e8,e10,e11,e16,e80,hlt,hrow,ia,q1]
   refine rsorted_ok (k:=k+7) (hC.b i hi16 (Nat.le_refl _)).sv (by omega) fun h5 u hu f5 hq=>?_
   obtain ⟨d1,d2,d3,d4,d5,d6,d7,d8⟩:=hC.srt hi16 f5 hu hq
   have hrow5:=f5.some hrow (fun e=>e)
   have q3:=vrow_set V u hi16
   have hVl:((List.range 16).map V).length=16:=by simp
   generalize hW:(List.range 16).map V=W1 at *
   generalize hW2:(List.range 16).map (setV V i u)=W2 at *
   by_cases c:((i:Nat):Int)∈out
   ·obtain ⟨w',h7,r1,r2,r3,r4⟩:=d6.app (lc:=[BV,[.int .i64 (i:Int)]]) (x:=.lsl 1 1) (xs:=[[.int .i64 (i:Int)]]) rfl (by simp) (bytes:=8) (by
     have:=uptoL (fun y=>decide ((y:Int)∈out)) hi
     simp only [room,List.length_singleton]
     omega)
    have hbi:boolV out i = .bool true:=by unfold boolV;rw [decide_eq_true c]
    rw [hbi] at q2
    simp -implicitDefEqProofs only [KK,eq_self,↓reduceIte,reduceLT,reduceEqDiff,reduceAdd,reduceLeDiff,hrow5,ia,q3,hVl,q8,ib,q2,r1,hwi,rd_n]
    have hnw:∀ v rows,SL _ 5 v rows→∀ j,ownId v j→¬ownId w j:=fun v rows hv j=>sl_not_ow hv d6
    refine ⟨m-1,by omega,i+1,setV V i u,w',h7,_,_,by rw [hBV],by omega,by omega,⟨?_,?_,fun x hx hxi=>?_,fun x hx hxi=>?_,d5,?_,fun j hj=>?_,?_⟩,rfl,rfl,rfl,rfl,rfl⟩
    ·rw [hW2]
     exact r3.some d1 (fun e=>by have:=hC.wlo _ e;omega)
    ·exact r3.some d2 (fun e=>by have:=hC.wlo _ e;omega)
    ·exact (d3 x hx hxi).mono r3 (fun id _ _ _ _ e1 e2=>sl_not_ow (d3 x hx hxi) d6 (by rw [e1];rfl) e2)
    ·exact (d4 x hx hxi).mono r3 (fun j hj e=>sl_not_gw d6.sl (d4 x hx hxi) e hj)
    ·rw [hus,if_pos (decide_eq_true c)]
     simpa [rI] using r2
    ·exact (r4 j hj).elim (hC.wlo j) (fun e=>by have:=lt_of_g hrow;omega)
    ·exact d7.fresh r3 (fun j e=>by have:=hC.wlo j e;omega)
   ·have hbi:boolV out i = .bool false:=by unfold boolV;rw [decide_eq_false c]
    rw [hbi] at q2
    simp -implicitDefEqProofs only [KK,eq_self,↓reduceIte,reduceLT,reduceEqDiff,hrow5,ia,q3,hVl,q8,ib,q2,hwi,rd_n]
    refine ⟨m-1,by omega,i+1,setV V i u,w,_,_,_,by rw [hBV],by omega,by omega,⟨by rw [hW2];exact d1,d2,d3,d4,d5,?_,hC.wlo,d7⟩,rfl,rfl,rfl,rfl,rfl⟩
    rw [hus,if_neg (by rw [decide_eq_true_eq];exact c),List.append_nil]
    exact d6
  ·have:i=16:=by omega
   subst this
   have q5:((List.range 16).map V).length=16:=by simp
   have q6:((List.range 16).map V).take 16=(List.range 16).map V:=List.take_of_length_le (by omega)
   have q7:((List.range 16).map V).drop 16=[]:=List.drop_of_length_le (by omega)
   generalize hBV:(List.range 16).map (boolV out)=BV at *
   have hn4:=lt_of_g hrow
   have hg:(h4.put h.n (.rows true 16 0 0 [(List.range 16).map V])).g h.n=some (.rows true 16 0 0 [(List.range 16).map V]):=by rw [g_put_eq,hbx];rfl
   have fp:Fm (fun j=>j=h.n) h4 (h4.put h.n (.rows true 16 0 0 [(List.range 16).map V])):=Fm.put _ _ rfl
   have hP':=hP (h4.put h.n (.rows true 16 0 0 [(List.range 16).map V])) V w (hC.fn.fresh fp (fun j e=>by omega)) (fun x hx=>(hC.a x hx hx).mono fp (fun id _ _ _ _ e1 e2=>by have:=hC.lo id ⟨x,hx,by rw [e1];rfl⟩;omega)) (hC.ow.mono fp (fun j hj e=>by have:=hC.wlo j hj;omega)).sl
   generalize (List.range 16).map V=W1 at *
   simp -implicitDefEqProofs only [KK,eq_self,↓reduceIte,reduceLT,reduceEqDiff,reduceAdd,reduceLeDiff,e8,e10,e11,e16,e80,hlt,hrow,hbx,q5,q6,hg,fz_r]
   exact hP'
end
end
section
set_option maxHeartbeats 4000000
theorem samec_ok {k:Nat} {h:Hp} {P:AV→Hp→Prop} {v w:CV} {a:List Cel} (hv:SL h 5 v (a.map encE)) (hw:SL h 5 w (a.map encE)) (hb:a.length≤1000000) (hP:P (.c (.bool true)) h):callW N (k+1) 229 [.c v,.c w] h P:=by
 have hlen:∀ h':Hp,lenT h' .sl (.v (.c v))=some (a.length:Int):=fun h'=>by rw [hv.len h',List.length_map]
 have hlen2:∀ h':Hp,lenT h' .sl (.v (.c w))=some (a.length:Int):=fun h'=>by rw [hw.len h',List.length_map]
 refine call_intro rfl (by simp only [List.length_cons,List.length_nil];omega) ?_
 have hd:decide ((a.length:Int)=a.length)=true:=by simp
 simp -implicitDefEqProofs only [KK,eq_self,↓reduceIte,reduceLT,reduceEqDiff,reduceAdd,reduceCtorEq,hlen,hlen2]
 refine loop_rd (callW_mono N _) (fun n s=>∃ (i:Nat) (l:List (Nat × TV)) (lc:List (List CV)),s=ST 26 l lc h∧i≤a.length∧n=a.length-i∧
  lk l 0 = .v (.c v)∧lk l 1 = .v (.c w)∧lk l 12 = .v (.c (.int .i64 a.length))∧lk l 13 = .v (.c (.int .i64 i))) (n:=a.length) ⟨0,_,_,rfl,by omega,by omega,rfl,rfl,rfl,rfl⟩ ?_
 rintro n s ⟨i,l,lc,rfl,hi,hn,e0,e1,e12,e13⟩
 by_cases hlt:(i:Int)<a.length
 ·obtain ⟨y,hy⟩:∃ y,a[i]? = some y:=⟨_,List.getElem?_eq_getElem (by omega)⟩
  have hrow:(a.map encE)[((i:Int)).toNat]? = some [.int .i64 y.f,.int .i64 y.s,.int .i64 y.c,.int .i64 y.o,.int .i64 y.p]:=by simp [encE,hy]
  obtain ⟨pid,ptok,pj,a1,a2⟩:=hv.at (by omega) hrow
  obtain ⟨pid',ptok',pj',b1,b2⟩:=hw.at (by omega) hrow
  have hww:=wrap_i64 (n:=(i:Int)+1) (by omega)
  simp -implicitDefEqProofs only [KK,eq_self,↓reduceIte,reduceLT,reduceEqDiff,reduceAdd,reduceCtorEq,e0,e1,e12,e13,hlt,a1,a2,b1,b2,hww,rd_n]
  exact ⟨n-1,by omega,i+1,_,_,rfl,by omega,by omega,rfl,rfl,rfl,rfl⟩
 ·simp -implicitDefEqProofs only [KK,eq_self,↓reduceIte,reduceLT,reduceEqDiff,reduceCtorEq,e0,e1,e12,e13,hlt]
  exact hP
theorem oL_ord {nn:Nat} {q:Int→Int→Option Int} {least:Int} (hn:1≤nn∧nn≤16) {R:Nat→Int} (he:∀ b:Nat,b<16→R b=enc (rk q least nn b)):oL R 16=ordL q least nn nn:=by
 have key:∀ d,oL R d=ordL q least nn d:=by
  intro d
  induction d with
  | zero=>rfl
  | succ d ih=>
   rw [oL,ordL_succ,ih]
   congr 1
   refine asc_eq (upto_asc _ _) (lv_asc d) fun x=>?_
   rw [mem_upto,decide_eq_true_eq,←rk_lv hn.1]
   constructor
   ·rintro ⟨h1,h2,h3⟩
    rw [he _ (by omega),show ((x.toNat:Nat):Int)=x by omega] at h3
    cases hf:rk q least nn x with
    | none=>rw [hf] at h3;simp only [enc] at h3;omega
    | some y=>rw [hf] at h3;simp only [enc] at h3;congr 1;omega
   ·intro hf
    have h1:=(rk_range hn.1 hf).1
    refine ⟨h1.1,by omega,?_⟩
    rw [he _ (by omega),show ((x.toNat:Nat):Int)=x by omega,hf]
    rfl
 rw [key,ordL_stay hn.1 (lv_nil hn.1 hn.2)]
theorem dealF_rng {fr:Int} {ln cn:Nat} {par:Int→List Int} {ol:List Int} (hO:OlP par ol):∀ i,i≤ol.length→(∀ y∈(dealF fr ln cn par (ol.take i)).1,0≤y.n∧y.n<16)∧∀ x∈(dealF fr ln cn par (ol.take i)).2,0≤x∧x<16
 | 0,_=>⟨fun y hy=>by simp [dealF] at hy,fun y hy=>by simp [dealF] at hy⟩
 | i+1,hi=>by
  obtain ⟨h1,h2⟩:=dealF_rng (fr:=fr) (ln:=ln) (cn:=cn) hO i (by omega)
  obtain ⟨x,hx⟩:=some_at (L:=ol) (i:=i) (by omega)
  have hxm:=mem_pre hx
  have hxr:=hO.rng x hxm
  rw [take_snoc hx,dealF_snoc]
  unfold dstep
  by_cases c:x=0
  ·rw [if_pos c];exact ⟨h1,h2⟩
  ·rw [if_neg c]
   cases hp:par x with
   | nil=>exact absurd hp (hO.pne x hxm c)
   | cons p ps=>
    have hpr:=hO.prng x p (by rw [hp];simp)
    simp only
    cases hb:bothF fr (dealF fr ln cn par (ol.take i)).1 x.toNat p.toNat ln cn with
    | none=>
     refine ⟨h1,fun z hz=>?_⟩
     rcases List.mem_append.mp hz with hz|hz
     ·exact h2 z hz
     ·rw [List.mem_singleton.mp hz];exact hxr
    | some L'=>
     refine ⟨fun y hy=>?_,h2⟩
     unfold bothF at hb
     cases h3:place fr (dealF fr ln cn par (ol.take i)).1 x.toNat p.toNat 2 ln cn with
     | none=>rw [h3] at hb;exact absurd hb (by simp)
     | some u=>
      rw [h3,Option.bind_some] at hb
      cases h4:place fr ((dealF fr ln cn par (ol.take i)).1++twoD fr x.toNat p.toNat 2 u.1 u.2) p.toNat x.toNat 10 ln cn with
      | none=>rw [h4] at hb;exact absurd hb (by simp)
      | some w=>
       rw [h4,Option.map_some] at hb
       injection hb with hb
       subst hb
       simp only [twoD,List.mem_append,List.mem_cons,List.not_mem_nil,or_false] at hy
       rcases hy with (hy|rfl|rfl)|rfl|rfl
       ·exact h1 y hy
       all_goals (constructor <;> simp only <;> omega)
def Vld (fr ln cn:Int):Prop:=(0≤fr∧fr<4)∧(1≤ln∧ln≤200)∧1≤cn∧cn≤16
instance (fr ln cn:Int):Decidable (Vld fr ln cn):=by unfold Vld;infer_instance
noncomputable def XD (fr ln cn:Int) (par:Int→List Int) (ol:List Int) (x:Nat):List Cel:=if Vld fr ln cn then srtC (celsN (dealF fr ln.toNat cn.toNat par ol).1 ((x:Nat):Int)) else []
noncomputable def TD (fr ln cn:Int) (par:Int→List Int) (ol:List Int):List Int:=if Vld fr ln cn then upto (fun i=>decide ((i:Int)∈(dealF fr ln.toNat cn.toNat par ol).2)) 16 else []
theorem XD_len {fr ln cn:Int} {par:Int→List Int} {ol:List Int} (hol:ol.length≤16) (x:Nat):(XD fr ln cn par ol x).length≤64:=by
 unfold XD
 split
 ·rw [srtC_len]
  have:=celsN_len (dealF fr ln.toNat cn.toNat par ol).1 (x:Nat)
  have:=(dealF_len fr ln.toNat cn.toNat par ol).1
  omega
 ·simp
theorem TD_len {fr ln cn:Int} {par:Int→List Int} {ol:List Int}:(TD fr ln cn par ol).length≤16:=by
 unfold TD
 split
 ·exact upto_len _ _
 ·simp
def DM (h:Hp) (mv:CV) (X:Nat→List Cel):Prop:=∀ h',Fn h h'→(∀ x:Nat,x<16→∃ o,lookT h' (.int .i64) (.v (.c mv)) (some (.c (.int .i64 (x:Int))))=some o∧((o=none∧X x=[])∨∃ v,o=some (.c v)∧SL h' 5 v ((X x).map encE)))∧
 lenT h' .map (.v (.c mv))=some ((upto (fun x=>decide (X x≠[])) 16).length:Int)
theorem DM.new {h h':Hp} {mv:CV} {X:Nat→List Cel} (k:DM h mv X) (f:Fn h h'):DM h' mv X:=fun h'' f'=>k h'' (f.trans f')
theorem DM.nil {h:Hp} {X:Nat→List Cel} (hX:∀ x,X x=[]):DM h .nilm X:=by
 intro h' _
 refine ⟨fun x _=>⟨none,rfl,.inl ⟨rfl,hX x⟩⟩,?_⟩
 have:upto (fun x=>decide (X x≠[])) 16=[]:=by
  unfold upto
  rw [List.filter_eq_nil_iff.mpr (fun x _=>by simp [hX x])]
  rfl
 rw [this]
 rfl
theorem DM.of {h:Hp} {b m clock:Nat} {es:List ME} {Lk:Int→List Cel} {X:Nat→List Cel} (hM:MS h b m es clock Lk) (hX:∀ x:Nat,x<16→Lk (x:Int)=X x) (hr:∀ n,Lk n≠[]→0≤n∧n<16):DM h (.map m) X:=by
 intro h' f
 have hM:=hM.new f
 refine ⟨fun x hx=>?_,?_⟩
 ·rcases hM.look (x:Int) with ⟨h1,h2⟩|⟨e,he,v,h1,h2,h3,h4,h5,h6⟩
  ·exact ⟨none,h2,.inl ⟨rfl,by rw [←hX x hx];exact h1⟩⟩
  ·exact ⟨_,h6,.inr ⟨v,rfl,by rw [←hX x hx];exact h3.sl⟩⟩
 ·have hl:lenT h' .map (.v (.c (.map m)))=some (es.length:Int):=by
   have:=hM.hm
   simp [lenT,lenV,g_def,this] at *
  rw [hl]
  congr 2
  have hkey:∀ e∈es,e.key=kI (kN e):=by
   intro e he
   obtain ⟨n,v,q,_⟩:=hM.each e he
   simp only [kN,q]
  have hnd:(es.map kN).Nodup:=by
   unfold List.Nodup
   rw [List.pairwise_map]
   exact hM.en.uniq.imp_of_mem fun ha hb hne he=>hne (by rw [hkey _ ha,hkey _ hb,he])
  rw [←List.length_map (f:=kN)]
  refine List.Perm.length_eq ((List.perm_ext_iff_of_nodup hnd ((upto_asc _ _).imp (fun h=>by omega))).mpr fun n=>?_)
  rw [mem_upto,decide_eq_true_eq]
  constructor
  ·intro hn
   obtain ⟨e,he,rfl⟩:=List.mem_map.mp hn
   obtain ⟨n,v,q1,q2,q3,q4,_⟩:=hM.each e he
   have hk:kN e=n:=by simp only [kN,q1]
   rw [hk]
   have:=hr n q4
   refine ⟨this.1,by omega,?_⟩
   rw [←hX _ (by omega),show ((n.toNat:Nat):Int)=n by omega]
   exact q4
  ·rintro ⟨h1,h2,h3⟩
   rw [←hX _ (by omega),show ((n.toNat:Nat):Int)=n by omega] at h3
   obtain ⟨e,he,hk⟩:=hM.all n h3
   refine List.mem_map.mpr ⟨e,he,?_⟩
   simp only [kN,hk]
section
variable {k t r:Nat} {f:Int→Option Nat} {par:Int→List Int} {ol:List Int} {R:Nat→Int} {W:Nat→CV} {h:Hp} {P:AV→Hp→Prop} {fr ln cn:Int}
theorem deal_bad {tp:CV} (hv:tp = .nilp∨∃ t,tp = .ptr t 0 0 0) (hb:tp = .nilp∨¬Vld fr ln cn) (hP:P (.tup [.c .nilm,.c .nils]) h):callW N (k+100) 246 [.c tp,.c (.int .i64 fr),.c (.int .i64 ln),.c (.int .i64 cn)] h P:=by
 refine call_intro rfl (by simp only [List.length_cons,List.length_nil];omega) ?_
 rcases hv with rfl|⟨t,rfl⟩
 ·simp -implicitDefEqProofs only [KK,eq_self,↓reduceIte,reduceLT,reduceEqDiff,reduceAdd,reduceCtorEq]
  exact hP
 ·have hb:¬Vld fr ln cn:=hb.resolve_left (by simp)
  unfold Vld at hb
  by_cases c1:fr<0
  ·simp -implicitDefEqProofs only [KK,eq_self,↓reduceIte,reduceLT,reduceEqDiff,reduceAdd,reduceCtorEq,c1];exact hP
  by_cases c2:4≤fr
  ·simp -implicitDefEqProofs only [KK,eq_self,↓reduceIte,reduceLT,reduceEqDiff,reduceAdd,reduceCtorEq,c1,c2];exact hP
  by_cases c3:ln<1
  ·simp -implicitDefEqProofs only [KK,eq_self,↓reduceIte,reduceLT,reduceEqDiff,reduceAdd,reduceCtorEq,c1,c2,c3];exact hP
  by_cases c4:200<ln
  ·simp -implicitDefEqProofs only [KK,eq_self,↓reduceIte,reduceLT,reduceEqDiff,reduceAdd,reduceCtorEq,c1,c2,c3,c4];exact hP
  by_cases c5:cn<1
  ·simp -implicitDefEqProofs only [KK,eq_self,↓reduceIte,reduceLT,reduceEqDiff,reduceAdd,reduceCtorEq,c1,c2,c3,c4,c5];exact hP
  by_cases c6:16<cn
  ·simp -implicitDefEqProofs only [KK,eq_self,↓reduceIte,reduceLT,reduceEqDiff,reduceAdd,reduceCtorEq,c1,c2,c3,c4,c5,c6];exact hP
  omega
theorem deal_any (hT:TrF h t f par ol) (hO:OlP par ol) (hP:∀ h' mv nv,Fn h h'→DM h' mv (XD fr ln cn par ol)→SL h' 1 nv (rI (TD fr ln cn par ol))→P (.tup [.c mv,.c nv]) h') :
 callW N (k+100) 246 [.c (.ptr t 0 0 0),.c (.int .i64 fr),.c (.int .i64 ln),.c (.int .i64 cn)] h P:=by
 by_cases hv:Vld fr ln cn
 ·have hv':=hv
  unfold Vld at hv'
  obtain ⟨ln,rfl⟩:∃ n:Nat,ln=n:=⟨ln.toNat,by omega⟩
  obtain ⟨cn,rfl⟩:∃ n:Nat,cn=n:=⟨cn.toNat,by omega⟩
  refine deal_ok hT hO.len hO.nd hO.rng hO.prng hO.plen hv'.1 (by omega) (by omega) fun h' b m es clock Lk nv T f hM hLk hS hT hTs=>?_
  obtain ⟨r1,r2⟩:=dealF_rng (fr:=fr) (ln:=ln) (cn:=cn) hO ol.length (Nat.le_refl _)
  rw [List.take_length] at r1 r2
  refine hP h' (.map m) nv f (DM.of hM (fun x hx=>?_) fun n hn=>?_) ?_
  ·unfold XD
   rw [if_pos hv]
   simp only [Int.toNat_natCast]
   exact srt_uniq ((hLk x).1.trans (srtC_perm _).symm) (hLk x).2 (srtC_sorted _)
  ·have h1:celsN (dealF fr ln cn par ol).1 n≠[]:=fun e=>hn (by have:=(hLk n).1.length_eq;rw [e] at this;exact List.eq_nil_of_length_eq_zero this)
   obtain ⟨c,hc⟩:=List.exists_mem_of_ne_nil _ h1
   unfold celsN at hc
   obtain ⟨y,hy,_⟩:=List.mem_map.mp hc
   obtain ⟨h2,h3⟩:=List.mem_filter.mp hy
   simp only [decide_eq_true_eq] at h3
   rw [←h3]
   exact r1 y h2
  ·have:T=TD fr ln cn par ol:=by
    unfold TD
    rw [if_pos hv]
    simp only [Int.toNat_natCast]
    refine asc_eq hTs (upto_asc _ _) fun x=>?_
    rw [hT.mem_iff,mem_upto,decide_eq_true_eq]
    constructor
    ·intro hx
     have:=r2 x hx
     exact ⟨this.1,by omega,by rw [show ((x.toNat:Nat):Int)=x by omega];exact hx⟩
    ·rintro ⟨h1,h2,h3⟩
     rwa [show ((x.toNat:Nat):Int)=x by omega] at h3
   rw [←this]
   exact hS
 ·refine deal_bad (.inr ⟨t,rfl⟩) (.inr hv) (hP h .nilm .nils (Fm.refl _ _) (DM.nil fun x=>?_) ?_)
  ·unfold XD;rw [if_neg hv]
  ·unfold TD;rw [if_neg hv];rfl
theorem rdeal_any (hR:RTf h r f par R W) (ho:oL R 16=ol) (hO:OlP par ol) (hP:∀ h' V nv,Fn h h'→(∀ x:Nat,x<16→SL h' 5 (V x) ((XD fr ln cn par ol x).map encE))→SL h' 1 nv (rI (TD fr ln cn par ol))→P (.tup [.agg ((List.range 16).map V),.c nv]) h') :
 callW N (k+10) 247 [.c (.ptr r 0 0 0),.c (.int .i64 fr),.c (.int .i64 ln),.c (.int .i64 cn)] h P:=by
 by_cases hv:Vld fr ln cn
 ·have hv':=hv
  unfold Vld at hv'
  obtain ⟨ln,rfl⟩:∃ n:Nat,ln=n:=⟨ln.toNat,by omega⟩
  obtain ⟨cn,rfl⟩:∃ n:Nat,cn=n:=⟨cn.toNat,by omega⟩
  have e1:XD fr ln cn par ol=fun x:Nat=>srtC (celsN (dealF fr ln cn par ol).1 ((x:Nat):Int)):=by
   funext x
   unfold XD
   rw [if_pos hv]
   simp only [Int.toNat_natCast]
  have e2:TD fr ln cn par ol=upto (fun i=>decide ((i:Int)∈(dealF fr ln cn par ol).2)) 16:=by
   unfold TD
   rw [if_pos hv]
   simp only [Int.toNat_natCast]
  rw [e1,e2] at hP
  exact rdeal_ok hR ho hO hv'.1 (by omega) (by omega) hP
 ·have e1:∀ x,XD fr ln cn par ol x=[]:=fun x=>by unfold XD;rw [if_neg hv]
  have e2:TD fr ln cn par ol=[]:=by unfold TD;rw [if_neg hv]
  have hPn:∀ h',Fn h h'→P (.tup [.agg [.nils,.nils,.nils,.nils,.nils,.nils,.nils,.nils,.nils,.nils,.nils,.nils,.nils,.nils,.nils,.nils],.c .nils]) h':=fun h' f=>hP h' (fun _=>.nils) .nils f (fun x _=>by rw [e1];rfl) (by rw [e2];rfl)
  clear hP e1 e2
  obtain ⟨h1,hh1⟩:∃ h1,h1=(h.push (.rows true 16 0 0 [List.replicate 16 .nils])).push (.rows true 16 0 0 [List.replicate 16 .nils]):=⟨_,rfl⟩
  have n0:(h.push (.rows true 16 0 0 [List.replicate 16 .nils])).n=h.n+1:=n_push _ _
  have f1:Fn h h1:=by rw [hh1];exact (Fm.push _ _ _).trans (Fm.push _ _ _)
  have g1:h1.g h.n=some (.rows true 16 0 0 [List.replicate 16 .nils]):=by rw [hh1,g_push_ne _ _ (by omega),g_push_eq]
  have g2:h1.g (h.n+1)=some (.rows true 16 0 0 [List.replicate 16 .nils]):=by rw [hh1,←n0,g_push_eq]
  have hfold:(h.push (.rows true 16 0 0 [[.nils,.nils,.nils,.nils,.nils,.nils,.nils,.nils,.nils,.nils,.nils,.nils,.nils,.nils,.nils,.nils]])).push (.rows true 16 0 0 [[.nils,.nils,.nils,.nils,.nils,.nils,.nils,.nils,.nils,.nils,.nils,.nils,.nils,.nils,.nils,.nils]])=h1:=hh1.symm
  have n0':(h.push (.rows true 16 0 0 [[.nils,.nils,.nils,.nils,.nils,.nils,.nils,.nils,.nils,.nils,.nils,.nils,.nils,.nils,.nils,.nils]])).n=h.n+1:=n0
  obtain ⟨h2,hh2⟩:∃ h2,h2=h1.put h.n (.rows true 16 0 0 [[.nils,.nils,.nils,.nils,.nils,.nils,.nils,.nils,.nils,.nils,.nils,.nils,.nils,.nils,.nils,.nils]]):=⟨_,rfl⟩
  have f2:Fn h h2:=by rw [hh2];exact f1.putNew _ (Nat.le_refl _)
  have g3:h2.g h.n=some (.rows true 16 0 0 [[.nils,.nils,.nils,.nils,.nils,.nils,.nils,.nils,.nils,.nils,.nils,.nils,.nils,.nils,.nils,.nils]]):=by rw [hh2,g_put_eq,g1];rfl
  have hf2:=hh2.symm
  have g1':h1.g h.n=some (.rows true 16 0 0 [[.nils,.nils,.nils,.nils,.nils,.nils,.nils,.nils,.nils,.nils,.nils,.nils,.nils,.nils,.nils,.nils]]):=g1
  have g2':h1.g (h.n+1)=some (.rows true 16 0 0 [[.nils,.nils,.nils,.nils,.nils,.nils,.nils,.nils,.nils,.nils,.nils,.nils,.nils,.nils,.nils,.nils]]):=g2
  have hPf:=hPn h2 f2
  refine call_intro rfl (by simp only [List.length_cons,List.length_nil];omega) ?_
  rw [a_fin]
  unfold n247b
  unfold Vld at hv
  by_cases c1:fr<0
  ·simp -implicitDefEqProofs only [KK,eq_self,↓reduceIte,reduceLT,reduceEqDiff,reduceAdd,reduceCtorEq,c1,n0',hfold,g1',g2',hf2,g3,fz_r];exact hPf
  by_cases c2:4≤fr
  ·simp -implicitDefEqProofs only [KK,eq_self,↓reduceIte,reduceLT,reduceEqDiff,reduceAdd,reduceCtorEq,c1,c2,n0',hfold,g1',g2',hf2,g3,fz_r];exact hPf
  by_cases c3:ln<1
  ·simp -implicitDefEqProofs only [KK,eq_self,↓reduceIte,reduceLT,reduceEqDiff,reduceAdd,reduceCtorEq,c1,c2,c3,n0',hfold,g1',g2',hf2,g3,fz_r];exact hPf
  by_cases c4:200<ln
  ·simp -implicitDefEqProofs only [KK,eq_self,↓reduceIte,reduceLT,reduceEqDiff,reduceAdd,reduceCtorEq,c1,c2,c3,c4,n0',hfold,g1',g2',hf2,g3,fz_r];exact hPf
  by_cases c5:cn<1
  ·simp -implicitDefEqProofs only [KK,eq_self,↓reduceIte,reduceLT,reduceEqDiff,reduceAdd,reduceCtorEq,c1,c2,c3,c4,c5,n0',hfold,g1',g2',hf2,g3,fz_r];exact hPf
  by_cases c6:16<cn
  ·simp -implicitDefEqProofs only [KK,eq_self,↓reduceIte,reduceLT,reduceEqDiff,reduceAdd,reduceCtorEq,c1,c2,c3,c4,c5,c6,n0',hfold,g1',g2',hf2,g3,fz_r];exact hPf
  omega
end
end
section
set_option maxHeartbeats 4000000
section
variable {k:Nat} {h:Hp} {P:AV→Hp→Prop}
def LdA (h:Hp) (fr ln cn:Int) (mv:CV) (W:List CV) (X:Nat→List Cel) (m:Nat) (s:St):Prop:=
 ∃ (i:Nat) (l:List (Nat × TV)) (lc:List (List CV)),s=ST 108 l lc h∧i≤16∧m=16-i∧
  lk l 3 = .v (.c (.int .i64 fr))∧lk l 4 = .v (.c (.int .i64 ln))∧lk l 5 = .v (.c (.int .i64 cn))∧lk l 16 = .v (.c mv)∧lk l 20 = .v (.c (.int .i64 (upto (fun x=>decide (X x≠[])) i).length))∧lk l 69 = .v (.agg W)∧lk l 70 = .v (.c (.int .i64 i))
theorem allocDeals_ok {nodes least fr ln0 cn:Int} {v:CV} {C:List Cl} (hl:SL h 3 v (rC C)) (hC:∀ c∈C,SL h 3 c.v (rL c.L)) (hP:∀ h',P (.c (.bool true)) h') :
 callW N (k+102) 245 [.c (.int .i64 nodes),.c v,.c (.int .i64 least),.c (.int .i64 fr),.c (.int .i64 ln0),.c (.int .i64 cn)] h P:=by
 refine call_intro rfl (by simp only [List.length_cons,List.length_nil];omega) ?_
 simp -implicitDefEqProofs only [KK,eq_self,↓reduceIte,reduceLT,reduceEqDiff,reduceAdd,reduceCtorEq]
 refine made_ok (k:=k+97) hl hC fun h1 g m0 r nn q Q hg hrg hR hn f1=>?_
 obtain ⟨nn,rfl⟩:∃ n:Nat,nn=n:=⟨nn.toNat,by omega⟩
 have z0:decide ((0:Int)=0)=true:=rfl
 have hq:=hR.qle
 have hn1:1≤nn∧nn≤16:=by omega
 have H:=falls (q:=q) (least:=least) hn1.1 hq
 have hO:=olP hn1 H
 have c:(60<ln0∧ln0≤200)∨(60<ln0∧¬ln0≤200)∨¬60<ln0:=by omega
 rcases c with ⟨c1,c2⟩|⟨c1,c2⟩|c1
 case' inl=>
  simp -implicitDefEqProofs only [KK,eq_self,↓reduceIte,reduceLT,reduceEqDiff,reduceCtorEq,c1,c2]
  generalize (60:Int)=ln
 case' inr.inl=>
  simp -implicitDefEqProofs only [KK,eq_self,↓reduceIte,reduceLT,reduceEqDiff,reduceCtorEq,c1,c2]
  generalize ln0=ln at *
 case' inr.inr=>
  simp -implicitDefEqProofs only [KK,eq_self,↓reduceIte,reduceLT,reduceEqDiff,reduceCtorEq,c1]
  generalize ln0=ln at *
 all_goals
  refine build_ok (by omega) hg (by omega) hq fun h2 t hT f2=>?_
  simp -implicitDefEqProofs only [KK,eq_self,↓reduceIte,reduceLT,reduceEqDiff]
  refine deal_any (k:=k+1) hT hO fun h3 mv nv f3 hD hS=>?_
  simp -implicitDefEqProofs only [KK,eq_self,↓reduceIte,reduceLT,reduceEqDiff]
  refine rbuild_ok (k:=k+95) ((hrg.new f2).new f3) hR hn1 H fun h4 r R V hr f4=>?_
  have hoL:=oL_ord (q:=q) (least:=least) hn1 hr.e
  simp -implicitDefEqProofs only [KK,eq_self,↓reduceIte,reduceLT,reduceEqDiff]
  refine rdeal_any (k:=k+91) hr hoL hO fun h5 V nv2 f5 hV hS2=>?_
  generalize fol q least nn (rk q least nn)=par at *
  generalize ordL q least nn nn=ol at *
  have hD:=hD.new (f4.trans f5)
  have hS:=hS.new (f4.trans f5)
  have q5:((List.range 16).map V).length=16:=by simp
  have q6:((List.range 16).map V).take 16=(List.range 16).map V:=List.take_of_length_le (by omega)
  have q7:((List.range 16).map V).drop 16=[]:=List.drop_of_length_le (by omega)
  have vat:∀ j,j<16→((List.range 16).map V)[j]? = some (V j):=fun j hj=>by have:=vrow_at V hj;rwa [Nat.zero_add] at this
  generalize (List.range 16).map V=W at *
  simp -implicitDefEqProofs only [KK,eq_self,↓reduceIte,reduceLT,reduceEqDiff,reduceAdd,q5]
  refine same_ok (k:=k+100) hS hS2 (by have:=TD_len (fr:=fr) (ln:=ln) (cn:=cn) (par:=par) (ol:=ol);omega) ?_
  simp -implicitDefEqProofs only [KK,eq_self,↓reduceIte,reduceLT,reduceEqDiff,q5,q6]
  have hXl:=XD_len (fr:=fr) (ln:=ln) (cn:=cn) (par:=par) hO.len
  generalize XD fr ln cn par ol=X at *
  refine loop_rd (callW_mono N _) (LdA h5 fr ln cn mv W X) (n:=16) ⟨0,_,_,rfl,by omega,by omega,rfl,rfl,rfl,rfl,rfl,rfl,rfl⟩ ?_
  rintro m s ⟨i,l,lc,rfl,hi,hm,e3,e4,e5,e16,e20,e69,e70⟩
  obtain ⟨hlook,hcnt⟩:=hD h5 (Fm.refl _ _)
  by_cases hlt:(i:Int)<16
  ·have hi16:i<16:=by omega
   have q1:(0:Int)≤(i:Int):=by omega
   have q2:(i:Int)<((16:Nat):Int):=by omega
   have vi:=vat i hi16
   have wi:=wrap_i64 (n:=(i:Int)+1) (by omega)
   have hul:=upto_len (fun x=>decide (X x≠[])) i
   have wc:=wrap_i64 (n:=((upto (fun x=>decide (X x≠[])) i).length:Int)+1) (by omega)
   have hus:=upto_succ (fun x=>decide (X x≠[])) i
   have hlv:∀ h':Hp,lenT h' .sl (.v (.c (V i)))=some ((X i).length:Int):=fun h'=>by rw [(hV i hi16).len h',List.length_map]
   have hvi:=hV i hi16
   have hxi:=hXl i
   obtain ⟨o,ho,hv⟩:=hlook i hi16
   obtain ⟨u,hu,hsu⟩:∃ u,o.getD (.c .nils) = .c u∧SL h5 5 u ((X i).map encE):=by
    rcases hv with ⟨rfl,hx⟩|⟨u,rfl,hu⟩
    ·exact ⟨.nils,rfl,by rw [hx];rfl⟩
    ·exact ⟨u,rfl,hu⟩
   simp -implicitDefEqProofs only [KK,eq_self,ne_eq,↓reduceIte,reduceLT,reduceEqDiff,e3,e4,e5,e16,e20,e69,e70,hlt,q1,q2,Int.toNat_natCast,Nat.mul_one,vi,ho,hu]
   refine samec_ok (k:=k+100) hsu hvi (by omega) ?_
   by_cases hx:X i=[]
   ·have z:¬(0:Int)<((X i).length:Int):=by rw [hx];simp
    simp -implicitDefEqProofs only [KK,eq_self,↓reduceIte,reduceLT,reduceEqDiff,hlv,z,wi,rd_n]
    refine ⟨m-1,by omega,i+1,_,_,rfl,by omega,by omega,rfl,rfl,rfl,rfl,?_,rfl,rfl⟩
    rw [hus,if_neg (by simp [hx]),List.append_nil]
    rfl
   ·have z:(0:Int)<((X i).length:Int):=by have:=List.length_pos_iff.mpr hx;omega
    simp -implicitDefEqProofs only [KK,eq_self,ne_eq,↓reduceIte,reduceLT,reduceEqDiff,hlv,z,wi,wc,rd_n]
    refine ⟨m-1,by omega,i+1,_,_,rfl,by omega,by omega,rfl,rfl,rfl,rfl,?_,rfl,rfl⟩
    rw [hus,if_pos (by simp [hx]),List.length_append]
    rfl
  ·have:i=16:=by omega
   subst this
   simp -implicitDefEqProofs only [KK,eq_self,ne_eq,↓reduceIte,reduceLT,reduceEqDiff,e3,e4,e5,e16,e20,e69,e70,hlt]
   refine deal_bad (k:=k+1) (.inl rfl) (.inl rfl) ?_
   have l0:lenT h5 .map (.v (.c .nilm))=some 0:=rfl
   have l1:lenT h5 .sl (.v (.c .nils))=some 0:=rfl
   have l2:IntKind.wrap .i64 (0+0)=0:=by decide
   simp -implicitDefEqProofs only [KK,eq_self,ne_eq,↓reduceIte,reduceLT,reduceEqDiff,hcnt,l0,l1,l2]
   refine awakeA_ok (k:=k+92) fun h6 f6=>?_
   simp -implicitDefEqProofs only [KK,eq_self,↓reduceIte,reduceLT]
   exact hP h6
end
end
end Camp
