/- Channels. The root: what it sends. The root: the frame that it sends. The root: what it sends in a slot. The law's config. -/
import Derived.Test.YtcjijkejnolfiaaLawC
import Derived.Test.YtcjijkejnolfiaaUseB
set_option linter.unnecessarySimpa false
set_option linter.unusedVariables false
set_option linter.unusedSimpArgs false
set_option linter.unusedSectionVars false
namespace Camp
open Go
section
set_option maxHeartbeats 8000000
structure HpL (L:List Int):Prop where
 rng:∀ x∈L,0≤x∧x≤31
 nd:L.Nodup
 one:1≤L.length
 most:L.length≤16
section
variable {k:Nat} {h:Hp} {P:AV→Hp→Prop} {v:CV} {L:List Int}
def NxI (h:Hp) (v:CV) (x:Int) (L:List Int) (n:Nat) (s:St):Prop:=∃ (i:Nat) (l:List (Nat × TV)) (lc:List (List CV)),s=ST 19 l lc h∧i≤L.length∧n=L.length-i∧
 lk l 0 = .v (.c v)∧lk l 1 = .v (.c (.int .i64 x))∧lk l 7 = .v (.c (.int .i64 L.length))∧lk l 8 = .v (.c (.int .i64 i))
theorem idxnone_ok {x:Int} (hv:SL h 1 v (L.map encI)) (hx:x∉L) (hl:L.length≤1000000) (hP:P (.c (.int .i64 (-1))) h):callW N (k+1) 327 [.c v,.c (.int .i64 x)] h P:=by
 have hlen:∀ h':Hp,lenT h' .sl (.v (.c v))=some (L.length:Int):=fun h'=>by rw [hv.len h',List.length_map]
 refine call_intro rfl (by simp only [List.length_cons,List.length_nil];omega) ?_
 simp (maxSteps:=200000) -implicitDefEqProofs only [KA,KB,KC,KD,KE,KF,eq_self,ne_eq,↓reduceIte,Nat.reduceLT,Nat.reduceEqDiff,Nat.reduceAdd,Nat.reduceLeDiff,Nat.reduceSub,Nat.reduceMul,reduceCtorEq,hlen]
 refine loop_rd (callW_mono N _) (NxI h v x L) (n:=L.length) ⟨0,_,_,rfl,by omega,by omega,rfl,rfl,rfl,rfl⟩ ?_
 rintro n s ⟨i,l,lc,rfl,hi,hn,e0,e1,e7,e8⟩
 by_cases hlt:(i:Int)<L.length
 ·obtain ⟨y,hy⟩:∃ y,L[i]? = some y:=⟨_,List.getElem?_eq_getElem (by omega)⟩
  obtain ⟨pid,ptok,pj,a1,a2⟩:=hv.at (i:=(i:Int)) (r:=[.int .i64 y]) (by omega) (by simp [encI,hy])
  have hne:¬x=y:=fun e=>hx (by rw [e];exact List.mem_of_getElem? hy)
  have w3:IntKind.wrap .i64 ((i:Int)+1)=((i+1:Nat):Int):=by rw [wrap_i64 (by omega)];omega
  simp (maxSteps:=200000) -implicitDefEqProofs only [KA,KB,KC,KD,KE,KF,eq_self,ne_eq,↓reduceIte,Nat.reduceLT,Nat.reduceEqDiff,Nat.reduceAdd,Nat.reduceLeDiff,Nat.reduceSub,Nat.reduceMul,reduceCtorEq,e0,e1,e7,e8,hlt,a1,a2,hne,w3,rd_n]
  exact ⟨n-1,by omega,i+1,_,_,rfl,by omega,by omega,rfl,rfl,rfl,rfl⟩
 ·simp (maxSteps:=200000) -implicitDefEqProofs only [KA,KB,KC,KD,KE,KF,eq_self,ne_eq,↓reduceIte,Nat.reduceLT,Nat.reduceEqDiff,Nat.reduceAdd,Nat.reduceLeDiff,Nat.reduceSub,Nat.reduceMul,reduceCtorEq,e0,e1,e7,e8,hlt]
  exact hP
theorem contnone_ok {x:Int} (hv:SL h 1 v (L.map encI)) (hx:x∉L) (hl:L.length≤1000000) (hP:P (.c (.bool false)) h):callW N (k+2) 305 [.c v,.c (.int .i64 x)] h P:=by
 have z1:¬((0:Int)≤-1):=by decide
 refine call_intro rfl (by simp only [List.length_cons,List.length_nil];omega) ?_
 simp (maxSteps:=200000) -implicitDefEqProofs only [KA,KB,KC,KD,KE,KF,eq_self,ne_eq,↓reduceIte,Nat.reduceLT,Nat.reduceEqDiff,Nat.reduceAdd,Nat.reduceLeDiff,Nat.reduceSub,Nat.reduceMul,reduceCtorEq]
 refine idxnone_ok (k:=k) hv hx hl ?_
 simp (maxSteps:=200000) -implicitDefEqProofs only [KA,KB,KC,KD,KE,KF,eq_self,ne_eq,↓reduceIte,Nat.reduceLT,Nat.reduceEqDiff,Nat.reduceAdd,Nat.reduceLeDiff,Nat.reduceSub,Nat.reduceMul,reduceCtorEq,z1,hP]
def HmI (h:Hp) (v:CV) (L:List Int) (n:Nat) (s:St):Prop:=∃ (i:Nat) (l:List (Nat × TV)) (lc:List (List CV)),s=ST 34 l lc h∧i≤L.length∧n=L.length-i∧
 lk l 0 = .v (.c v)∧lk l 5 = .v (.c v)∧lk l 6 = .v (.c (.int .i64 L.length))∧lk l 7 = .v (.c (.int .i64 i))
theorem nodup_take {i:Nat} {y:Int} (hn:L.Nodup) (hy:L[i]? = some y):y∉L.take i:=by
 intro hm
 obtain ⟨j,hj⟩:=List.getElem?_of_mem hm
 rw [List.getElem?_take] at hj
 split at hj
 ·rename_i hji
  have h1:=(List.getElem?_eq_some_iff.mp hj).1
  have h2:j=i:=(List.getElem?_inj h1 hn).mp (hj.trans hy.symm)
  omega
 ·cases hj
theorem hmay_ok (hv:SL h 1 v (L.map encI)) (hc:CapL v) (hL:HpL L) (hP:P (.c (.bool true)) h):callW N (k+3) 288 [.c v] h P:=by
 have hlen:∀ h':Hp,lenT h' .sl (.v (.c v))=some (L.length:Int):=fun h'=>by rw [hv.len h',List.length_map]
 have hm:=hL.most
 have h1:(1:Int)≤L.length:=by have:=hL.one;omega
 have h16:(L.length:Int)≤16:=by omega
 refine call_intro rfl (by simp only [List.length_cons,List.length_nil];omega) ?_
 simp (maxSteps:=200000) -implicitDefEqProofs only [KA,KB,KC,KD,KE,KF,eq_self,ne_eq,↓reduceIte,Nat.reduceLT,Nat.reduceEqDiff,Nat.reduceAdd,Nat.reduceLeDiff,Nat.reduceSub,Nat.reduceMul,reduceCtorEq,hlen]
 refine loop_rd (callW_mono N _) (HmI h v L) (n:=L.length) ⟨0,_,_,rfl,by omega,by omega,rfl,rfl,rfl,rfl⟩ ?_
 rintro n s ⟨i,l,lc,rfl,hi,hn,e0,e5,e6,e7⟩
 by_cases hlt:(i:Int)<L.length
 ·obtain ⟨y,hy⟩:∃ y,L[i]? = some y:=⟨_,List.getElem?_eq_getElem (by omega)⟩
  obtain ⟨pid,ptok,pj,a1,a2⟩:=hv.at (i:=(i:Int)) (r:=[.int .i64 y]) (by omega) (by simp [encI,hy])
  have hr:=hL.rng y (List.mem_of_getElem? hy)
  have c1:¬y<0:=by omega
  have c2:¬31<y:=by omega
  obtain ⟨v1,s1,s2,s3,s4⟩:=hv.firstB hc (by decide) (m:=(i:Int)) (by rw [List.length_map];omega)
  rw [Int.toNat_natCast,←List.map_take] at s2
  have w3:IntKind.wrap .i64 ((i:Int)+1)=((i+1:Nat):Int):=by rw [wrap_i64 (by omega)];omega
  simp (maxSteps:=200000) -implicitDefEqProofs only [KA,KB,KC,KD,KE,KF,eq_self,ne_eq,↓reduceIte,Nat.reduceLT,Nat.reduceEqDiff,Nat.reduceAdd,Nat.reduceLeDiff,Nat.reduceSub,Nat.reduceMul,reduceCtorEq,e0,e5,e6,e7,hlt,a1,a2,c1,c2,s1]
  refine contnone_ok (k:=k) s2 (nodup_take hL.nd hy) (by rw [List.length_take];omega) ?_
  simp (maxSteps:=200000) -implicitDefEqProofs only [KA,KB,KC,KD,KE,KF,eq_self,ne_eq,↓reduceIte,Nat.reduceLT,Nat.reduceEqDiff,Nat.reduceAdd,Nat.reduceLeDiff,Nat.reduceSub,Nat.reduceMul,reduceCtorEq,e0,e5,e6,e7,w3,rd_n]
  exact ⟨n-1,by omega,i+1,_,_,rfl,by omega,by omega,rfl,rfl,rfl,rfl⟩
 ·simp (maxSteps:=200000) -implicitDefEqProofs only [KA,KB,KC,KD,KE,KF,eq_self,ne_eq,↓reduceIte,Nat.reduceLT,Nat.reduceEqDiff,Nat.reduceAdd,Nat.reduceLeDiff,Nat.reduceSub,Nat.reduceMul,reduceCtorEq,e0,e5,e6,e7,hlt,hlen,h1,h16]
  exact hP
theorem clonei_ok (hs:SL h 1 v (L.map encI)) (h0:L≠[]) (hn:L.length≤1000000)
 (hP:∀ h' u,Ow h' 1 u (L.map encI)→(∀ j,ownId u j→h.n≤j)→Fn h h'→P (.c u) h'):callW N (k+1) 203 [.c v] h P:=by
 cases v <;> simp only [SL] at hs
 case nils=>exact absurd (List.map_eq_nil_iff.mp hs) h0
 case sl id tok off len cap=>
  have hs:SL h 1 (.sl id tok off len cap) (L.map encI):=hs
  obtain ⟨h2,hh2⟩:∃ h2,h2=h.push (.rows true 1 0 0 []):=⟨_,rfl⟩
  have hf2:Fn h h2:=by rw [hh2];exact Fm.push _ _ _
  have hn2:h2.n=h.n+1:=by rw [hh2,n_push]
  have hg2:h2.g h.n=some (.rows true 1 0 0 []):=by rw [hh2,g_push_eq]
  have hfold:=hh2.symm
  have hrd:sliceRows h2 [] 1 (.v (.c (.sl id tok off len cap)))=some (L.map encI):=(hs.new hf2).read
  have hl:(L.map encI).length=L.length:=List.length_map ..
  cases L with
  | nil=>exact absurd rfl h0
  | cons y ys=>
   have happ:appT h2 [] 1 8 (.v (.c (.sl h.n 0 0 0 (some 0)))) (.v (.c (.sl id tok off len cap)))=some (.sl h2.n 0 0 ((y::ys).map encI).length none,h2.push (.rows true 1 0 0 ((y::ys).map encI))):=by
    simp only [appT,asC_c,Option.bind_some,hrd]
    simp only [List.map_cons,appRows,g_def,hg2]
    rw [if_pos ⟨trivial,Nat.le_refl _,by simp only [room,List.length_cons,List.length_map] at hn ⊢;omega⟩]
    rw [if_neg (by simp only [List.length_cons];omega)]
    simp only [List.drop_nil,List.take_nil,List.nil_append,Nat.zero_add]
    rfl
   refine call_intro rfl (by simp only [List.length_cons,List.length_nil];omega) ?_
   simp (maxSteps:=200000) -implicitDefEqProofs only [KA,KB,KC,KD,KE,KF,eq_self,ne_eq,↓reduceIte,Nat.reduceLT,Nat.reduceEqDiff,Nat.reduceAdd,Nat.reduceLeDiff,Nat.reduceSub,Nat.reduceMul,reduceCtorEq,chunks,hfold,happ]
   refine hP _ _ ⟨rfl,rfl,0,_,g_push_eq _ _,Nat.le_refl _,Nat.le_refl _,(List.take_of_length_le (Nat.le_refl _)).symm⟩ ?_ (hf2.trans (Fm.push _ _ _))
   intro j hj
   simp only [ownId] at hj
   omega
theorem black_ok {b:Nat} {x:Int} (hb:h.g b=some (.rows true 1 0 0 [[.int .u32 0]])) (hx:0≤x∧x≤31) (hP:P (.c (.bool false)) h):callW N (k+1) 310 [.c (.int .i64 x),.c (.ptr b 0 0 0)] h P:=by
 obtain ⟨m,rfl⟩:∃ m:Nat,x=m:=⟨x.toNat,by omega⟩
 have r1:binC .shr .num (.int .u32 0) (.int .i64 (m:Int))=some (.int .u32 0):=by
  have:=shr_n .num .u32 .i64 0 m (by show m≤32;omega)
  rw [Nat.zero_div] at this
  exact this
 have a1:IntKind.wrap .u32 ((BitVec.ofInt (IntKind.bits .u32) 0 &&& BitVec.ofInt (IntKind.bits .u32) 1).toNat:Nat)=0:=by decide
 have z1:¬((0:Int)=1):=by decide
 refine call_intro rfl (by simp only [List.length_cons,List.length_nil];omega) ?_
 simp (maxSteps:=200000) -implicitDefEqProofs only [KA,KB,KC,KD,KE,KF,eq_self,ne_eq,↓reduceIte,Nat.reduceLT,Nat.reduceEqDiff,Nat.reduceAdd,Nat.reduceLeDiff,Nat.reduceSub,Nat.reduceMul,reduceCtorEq,hb,r1,a1,z1,hP]
def NhI (h:Hp) (v:CV) (b:Nat) (L:List Int) (n:Nat) (s:St):Prop:=∃ (i:Nat) (l:List (Nat × TV)) (lc:List (List CV)),s=ST 19 l lc h∧i≤L.length∧n=L.length-i∧
 lk l 0 = .v (.c v)∧lk l 1 = .v (.c (.fn 310 [.ptr b 0 0 0]))∧lk l 7 = .v (.c (.int .i64 L.length))∧lk l 8 = .v (.c (.int .i64 i))
theorem nohit_ok {b:Nat} (hb:h.g b=some (.rows true 1 0 0 [[.int .u32 0]])) (hv:SL h 1 v (L.map encI)) (hL:∀ x∈L,0≤x∧x≤31) (hl:L.length≤1000000) (hP:P (.c (.int .i64 (-1))) h):callW N (k+2) 328 [.c v,.c (.fn 310 [.ptr b 0 0 0])] h P:=by
 have hlen:∀ h':Hp,lenT h' .sl (.v (.c v))=some (L.length:Int):=fun h'=>by rw [hv.len h',List.length_map]
 refine call_intro rfl (by simp only [List.length_cons,List.length_nil];omega) ?_
 simp (maxSteps:=200000) -implicitDefEqProofs only [KA,KB,KC,KD,KE,KF,eq_self,ne_eq,↓reduceIte,Nat.reduceLT,Nat.reduceEqDiff,Nat.reduceAdd,Nat.reduceLeDiff,Nat.reduceSub,Nat.reduceMul,reduceCtorEq,hlen]
 refine loop_rd (callW_mono N _) (NhI h v b L) (n:=L.length) ⟨0,_,_,rfl,by omega,by omega,rfl,rfl,rfl,rfl⟩ ?_
 rintro n s ⟨i,l,lc,rfl,hi,hn,e0,e1,e7,e8⟩
 by_cases hlt:(i:Int)<L.length
 ·obtain ⟨y,hy⟩:∃ y,L[i]? = some y:=⟨_,List.getElem?_eq_getElem (by omega)⟩
  obtain ⟨pid,ptok,pj,a1,a2⟩:=hv.at (i:=(i:Int)) (r:=[.int .i64 y]) (by omega) (by simp [encI,hy])
  have w3:IntKind.wrap .i64 ((i:Int)+1)=((i+1:Nat):Int):=by rw [wrap_i64 (by omega)];omega
  simp (maxSteps:=200000) -implicitDefEqProofs only [KA,KB,KC,KD,KE,KF,eq_self,ne_eq,↓reduceIte,Nat.reduceLT,Nat.reduceEqDiff,Nat.reduceAdd,Nat.reduceLeDiff,Nat.reduceSub,Nat.reduceMul,reduceCtorEq,e0,e1,e7,e8,hlt,a1,a2]
  refine black_ok (k:=k) hb (hL y (List.mem_of_getElem? hy)) ?_
  simp (maxSteps:=200000) -implicitDefEqProofs only [KA,KB,KC,KD,KE,KF,eq_self,ne_eq,↓reduceIte,Nat.reduceLT,Nat.reduceEqDiff,Nat.reduceAdd,Nat.reduceLeDiff,Nat.reduceSub,Nat.reduceMul,reduceCtorEq,e0,e1,e7,e8,w3,rd_n]
  exact ⟨n-1,by omega,i+1,_,_,rfl,by omega,by omega,rfl,rfl,rfl,rfl⟩
 ·simp (maxSteps:=200000) -implicitDefEqProofs only [KA,KB,KC,KD,KE,KF,eq_self,ne_eq,↓reduceIte,Nat.reduceLT,Nat.reduceEqDiff,Nat.reduceAdd,Nat.reduceLeDiff,Nat.reduceSub,Nat.reduceMul,reduceCtorEq,e0,e1,e7,e8,hlt]
  exact hP
theorem open_ok (hv:SL h 1 v (L.map encI)) (hc:CapL v) (hL:HpL L) (hP:∀ h' u,SL h' 1 u (L.map encI)→Fn h h'→P (.c u) h'):callW N (k+4) 294 [.c v,.c (.int .u32 0)] h P:=by
 have hm:=hL.most
 have h0:L≠[]:=fun e=>by have:=hL.one;rw [e] at this;simp at this
 obtain ⟨h1,hh1⟩:∃ g,g=h.push (.rows true 1 0 0 [[.int .u32 0]]):=⟨_,rfl⟩
 have g1:h1.g h.n=some (.rows true 1 0 0 [[.int .u32 0]]):=by rw [hh1,g_push_eq]
 have f1:Fn h h1:=by rw [hh1];exact Fm.push _ _ _
 have z1:¬((L.length:Int)=0):=by have:=hL.one;omega
 refine call_intro rfl (by simp only [List.length_cons,List.length_nil];omega) ?_
 simp (maxSteps:=200000) -implicitDefEqProofs only [KA,KB,KC,KD,KE,KF,eq_self,ne_eq,↓reduceIte,Nat.reduceLT,Nat.reduceEqDiff,Nat.reduceAdd,Nat.reduceLeDiff,Nat.reduceSub,Nat.reduceMul,reduceCtorEq,hh1.symm]
 refine hmay_ok (k:=k) (hv.new f1) hc hL ?_
 simp (maxSteps:=200000) -implicitDefEqProofs only [KA,KB,KC,KD,KE,KF,eq_self,ne_eq,↓reduceIte,Nat.reduceLT,Nat.reduceEqDiff,Nat.reduceAdd,Nat.reduceLeDiff,Nat.reduceSub,Nat.reduceMul,reduceCtorEq]
 refine clonei_ok (k:=k+2) (hv.new f1) h0 (by omega) fun h2 u ku _ f2=>?_
 have hlen:∀ h':Hp,lenT h' .sl (.v (.c u))=some (L.length:Int):=fun h'=>by rw [ku.sl.len h',List.length_map]
 simp (maxSteps:=200000) -implicitDefEqProofs only [KA,KB,KC,KD,KE,KF,eq_self,ne_eq,↓reduceIte,Nat.reduceLT,Nat.reduceEqDiff,Nat.reduceAdd,Nat.reduceLeDiff,Nat.reduceSub,Nat.reduceMul,reduceCtorEq]
 refine call_intro rfl (by simp only [List.length_cons,List.length_nil];omega) ?_
 simp (maxSteps:=200000) -implicitDefEqProofs only [KA,KB,KC,KD,KE,KF,eq_self,ne_eq,↓reduceIte,Nat.reduceLT,Nat.reduceEqDiff,Nat.reduceAdd,Nat.reduceLeDiff,Nat.reduceSub,Nat.reduceMul,reduceCtorEq]
 refine nohit_ok (k:=k) (b:=h.n) (f2.some g1 (fun e=>e)) ku.sl hL.rng (by omega) ?_
 have z2:((-1:Int) = -1):=rfl
 simp (maxSteps:=200000) -implicitDefEqProofs only [KA,KB,KC,KD,KE,KF,eq_self,ne_eq,↓reduceIte,Nat.reduceLT,Nat.reduceEqDiff,Nat.reduceAdd,Nat.reduceLeDiff,Nat.reduceSub,Nat.reduceMul,reduceCtorEq,hlen,z1]
 exact hP _ _ ku.sl (f1.trans f2)
theorem chan_ok {now:Nat} {c:Int} (hv:SL h 1 v (L.map encI)) (hc:CapL v) (hL:HpL L) (hn:now<1099511627776) (hcc:L[now % L.length]? = some c) (hP:∀ h',Fn h h'→P (.c (.int .i64 c)) h') :
 callW N (k+5) 278 [.c v,.c (.int .u32 0),.c (.int .i64 now),.c (.int .i64 0)] h P:=by
 have h1:=hL.one
 have hm:=hL.most
 have z0:¬((L.length:Int)=0):=by omega
 have z1:¬(now:Int)<0:=by omega
 have z2:¬(1099511627776:Int)≤(now:Int):=by omega
 have z3:¬(0:Int)<0:=by decide
 have z4:¬(255:Int)<0:=by decide
 have w1:IntKind.wrap .i64 ((now:Int)+0)=(now:Int):=by rw [wrap_i64 (by omega)];omega
 have t1:Int.tmod (now:Int) (L.length:Int)=((now % L.length:Nat):Int):=by rw [Int.tmod_eq_emod_of_nonneg (by omega)];simp
 refine call_intro rfl (by simp only [List.length_cons,List.length_nil];omega) ?_
 simp (maxSteps:=200000) -implicitDefEqProofs only [KA,KB,KC,KD,KE,KF,eq_self,ne_eq,↓reduceIte,Nat.reduceLT,Nat.reduceEqDiff,Nat.reduceAdd,Nat.reduceLeDiff,Nat.reduceSub,Nat.reduceMul,reduceCtorEq]
 refine open_ok (k:=k) hv hc hL fun h2 u ku f2=>?_
 have hlen:∀ h':Hp,lenT h' .sl (.v (.c u))=some (L.length:Int):=fun h'=>by rw [ku.len h',List.length_map]
 obtain ⟨pid,ptok,pj,a1,a2⟩:=ku.at (i:=((now % L.length:Nat):Int)) (r:=[.int .i64 c]) (by omega) (by rw [Int.toNat_natCast,List.getElem?_map,hcc];rfl)
 simp (maxSteps:=200000) -implicitDefEqProofs only [KA,KB,KC,KD,KE,KF,eq_self,ne_eq,↓reduceIte,Nat.reduceLT,Nat.reduceEqDiff,Nat.reduceAdd,Nat.reduceLeDiff,Nat.reduceSub,Nat.reduceMul,reduceCtorEq,hlen,z0,z1,z2,z3,z4,w1,t1,a1,a2]
 exact hP _ f2
end
end
section
set_option maxHeartbeats 8000000
def rootC (n:Int) (nr hp:CV) (gu er ke lo qu li:Int) (ck qp up dn gt pm:CV) (seq:Int) (s1 s2 s3 s4 s5:Int) (s6 s7:CV) (s8:Bool):List CV:=
 [.int .i64 n,nr,hp,.int .i64 gu,.int .i64 er,.int .i64 ke,.int .i64 lo,.int .i64 qu,.int .i64 li,.int .i64 0,ck,qp,up,dn,gt,.int .i64 seq,.int .i64 (-1),.int .i64 0,.bool true,.nilp,.nilp,.int .i64 0,pm,
  .int .i64 s1,.int .i64 s2,.int .i64 s3,.int .i64 s4,.int .i64 s5,s6,s7,.bool s8,.nils]
def Root (h:Hp) (p n q seq:Nat) (L:List Int):Prop:=
 ∃ nr hp gu er ke lo li ck qi up dn gt pm s1 s2 s3 s4 s5 s6 s7 s8,h.g p=some (.rows true 32 0 0 [rootC n nr hp gu er ke lo q li ck (.ptr qi 0 0 0) up dn gt (.map pm) seq s1 s2 s3 s4 s5 s6 s7 s8])∧
  (∃ r x,h.g qi=some (.rows true 3 0 0 [[.int .i64 r,.nils,.int .i64 x]]))∧h.g pm=some (.map true [] 0)∧SL h 1 hp (L.map encI)∧CapL hp∧Bf p hp
theorem Root.new {h h':Hp} {p n q seq:Nat} {L:List Int} (k:Root h p n q seq L) (f:Fn h h'):Root h' p n q seq L:=by
 obtain ⟨nr,hp,gu,er,ke,lo,li,ck,qi,up,dn,gt,pm,s1,s2,s3,s4,s5,s6,s7,s8,g1,⟨r,x,g2⟩,g3,g4,g5,g6⟩:=k
 exact ⟨nr,hp,gu,er,ke,lo,li,ck,qi,up,dn,gt,pm,s1,s2,s3,s4,s5,s6,s7,s8,f.some g1 (fun e=>e),⟨r,x,f.some g2 (fun e=>e)⟩,f.some g3 (fun e=>e),g4.new f,g5,g6⟩
section
variable {k:Nat} {h:Hp} {P:AV→Hp→Prop} {p n q seq:Nat} {L:List Int}
theorem asn_ok {a:Int} (ha:0≤a∧a<1099511627776) (hP:P (.c (.bool true)) h):callW N (k+1) 272 [.c (.int .i64 a)] h P:=by
 refine call_intro rfl (by simp only [List.length_cons,List.length_nil];omega) ?_
 simp (maxSteps:=200000) -implicitDefEqProofs only [KA,KB,KC,KD,KE,KF,eq_self,ne_eq,↓reduceIte,Nat.reduceLT,Nat.reduceEqDiff,Nat.reduceAdd,Nat.reduceLeDiff,Nat.reduceSub,Nat.reduceMul,reduceCtorEq,ha.1,ha.2,hP]
theorem rrank_ok (hr:Root h p n q seq L) (hP:P (.c (.int .i64 0)) h):callW N (k+1) 312 [.c (.ptr p 0 0 0)] h P:=by
 obtain ⟨nr,hp,gu,er,ke,lo,li,ck,qi,up,dn,gt,pm,s1,s2,s3,s4,s5,s6,s7,s8,g1,⟨r,x,g2⟩,g3,g4,g5,g6⟩:=hr
 unfold rootC at g1
 refine call_intro rfl (by simp only [List.length_cons,List.length_nil];omega) ?_
 simp (maxSteps:=200000) -implicitDefEqProofs only [KA,KB,KC,KD,KE,KF,eq_self,ne_eq,↓reduceIte,Nat.reduceLT,Nat.reduceEqDiff,Nat.reduceAdd,Nat.reduceLeDiff,Nat.reduceSub,Nat.reduceMul,reduceCtorEq,g1,hP]
theorem first_ok (hr:Root h p n q seq L) (hP:P (.c (.int .i64 64)) h):callW N (k+2) 274 [.c (.ptr p 0 0 0)] h P:=by
 obtain ⟨nr,hp,gu,er,ke,lo,li,ck,qi,up,dn,gt,pm,s1,s2,s3,s4,s5,s6,s7,s8,g1,⟨r,x,g2⟩,g3,g4,g5,g6⟩:=hr
 unfold rootC at g1
 refine call_intro rfl (by simp only [List.length_cons,List.length_nil];omega) ?_
 simp (maxSteps:=200000) -implicitDefEqProofs only [KA,KB,KC,KD,KE,KF,eq_self,ne_eq,↓reduceIte,Nat.reduceLT,Nat.reduceEqDiff,Nat.reduceAdd,Nat.reduceLeDiff,Nat.reduceSub,Nat.reduceMul,reduceCtorEq,g1]
 refine call_intro rfl (by simp only [List.length_cons,List.length_nil];omega) ?_
 simp (maxSteps:=200000) -implicitDefEqProofs only [KA,KB,KC,KD,KE,KF,eq_self,ne_eq,↓reduceIte,Nat.reduceLT,Nat.reduceEqDiff,Nat.reduceAdd,Nat.reduceLeDiff,Nat.reduceSub,Nat.reduceMul,reduceCtorEq,hP]
theorem sync_ok {a:Int} (hr:Root h p n q seq L) (hP:∀ h',Fn h h'→P (.agg [.int .i64 1,.int .i64 a,.int .i64 0,.int .i64 0,.nils]) h'):callW N (k+2) 295 [.c (.ptr p 0 0 0),.c (.int .i64 a)] h P:=by
 refine call_intro rfl (by simp only [List.length_cons,List.length_nil];omega) ?_
 rw [a_fin]
 unfold n295b
 obtain ⟨h1,hh1⟩:∃ g,g=h.push (.rows true 5 0 0 [[.int .i64 0,.int .i64 0,.int .i64 0,.int .i64 0,.nils]]):=⟨_,rfl⟩
 have g1:h1.g h.n=some (.rows true 5 0 0 [[.int .i64 0,.int .i64 0,.int .i64 0,.int .i64 0,.nils]]):=by rw [hh1,g_push_eq]
 have f1:Fn h h1:=by rw [hh1];exact Fm.push _ _ _
 simp (maxSteps:=200000) -implicitDefEqProofs only [KA,KB,KC,KD,KE,KF,eq_self,ne_eq,↓reduceIte,Nat.reduceLT,Nat.reduceEqDiff,Nat.reduceAdd,Nat.reduceLeDiff,Nat.reduceSub,Nat.reduceMul,reduceCtorEq,hh1.symm]
 refine rrank_ok (k:=k) (hr.new f1) ?_
 simp (maxSteps:=200000) -implicitDefEqProofs only [KA,KB,KC,KD,KE,KF,eq_self,ne_eq,↓reduceIte,Nat.reduceLT,Nat.reduceEqDiff,Nat.reduceAdd,Nat.reduceLeDiff,Nat.reduceSub,Nat.reduceMul,reduceCtorEq,g1,fz_r,fz_n]
 exact hP _ (f1.fresh (Fm.put (S:=fun j=>j=h.n) _ _ rfl) (fun j e=>by omega))
theorem packet_ok (hr:Root h p n q seq L) (hP:P (.tup [.c .nils,.c (.int .i64 0),.c (.bool false)]) h):callW N (k+2) 296 [.c (.ptr p 0 0 0)] h P:=by
 obtain ⟨nr,hp,gu,er,ke,lo,li,ck,qi,up,dn,gt,pm,s1,s2,s3,s4,s5,s6,s7,s8,g1,⟨r,x,g2⟩,g3,g4,g5,g6⟩:=hr
 unfold rootC at g1
 have hl0:∀ h',lenT h' .sl (.v (.c .nils))=some 0:=fun _=>rfl
 have z1:¬((0:Int)<0):=by decide
 have z0:(0:Int)≤0:=by decide
 refine call_intro rfl (by simp only [List.length_cons,List.length_nil];omega) ?_
 simp (maxSteps:=200000) -implicitDefEqProofs only [KA,KB,KC,KD,KE,KF,eq_self,ne_eq,↓reduceIte,Nat.reduceLT,Nat.reduceEqDiff,Nat.reduceAdd,Nat.reduceLeDiff,Nat.reduceSub,Nat.reduceMul,reduceCtorEq,g1]
 refine call_intro rfl (by simp only [List.length_cons,List.length_nil];omega) ?_
 simp (maxSteps:=200000) -implicitDefEqProofs only [KA,KB,KC,KD,KE,KF,eq_self,ne_eq,↓reduceIte,Nat.reduceLT,Nat.reduceEqDiff,Nat.reduceAdd,Nat.reduceLeDiff,Nat.reduceSub,Nat.reduceMul,reduceCtorEq,g2,hl0,z0,z1]
 exact hP
theorem waiting_ok (hr:Root h p n q seq L) (hP:P (.c (.int .i64 0)) h):callW N (k+2) 263 [.c (.ptr p 0 0 0)] h P:=by
 obtain ⟨nr,hp,gu,er,ke,lo,li,ck,qi,up,dn,gt,pm,s1,s2,s3,s4,s5,s6,s7,s8,g1,⟨r,x,g2⟩,g3,g4,g5,g6⟩:=hr
 unfold rootC at g1
 have hl0:∀ h',lenT h' .sl (.v (.c .nils))=some 0:=fun _=>rfl
 refine call_intro rfl (by simp only [List.length_cons,List.length_nil];omega) ?_
 simp (maxSteps:=200000) -implicitDefEqProofs only [KA,KB,KC,KD,KE,KF,eq_self,ne_eq,↓reduceIte,Nat.reduceLT,Nat.reduceEqDiff,Nat.reduceAdd,Nat.reduceLeDiff,Nat.reduceSub,Nat.reduceMul,reduceCtorEq,g1]
 refine call_intro rfl (by simp only [List.length_cons,List.length_nil];omega) ?_
 simp (maxSteps:=200000) -implicitDefEqProofs only [KA,KB,KC,KD,KE,KF,eq_self,ne_eq,↓reduceIte,Nat.reduceLT,Nat.reduceEqDiff,Nat.reduceAdd,Nat.reduceLeDiff,Nat.reduceSub,Nat.reduceMul,reduceCtorEq,g2,hl0,hP]
theorem in_ok {a lo hi:Int} (hP:∀ r:Bool,(r=true↔lo≤a∧a≤hi)→P (.c (.bool r)) h):callW N (k+1) 267 [.c (.int .i64 a),.c (.int .i64 lo),.c (.int .i64 hi)] h P:=by
 refine call_intro rfl (by simp only [List.length_cons,List.length_nil];omega) ?_
 by_cases c1:lo≤a
 ·by_cases c2:a≤hi
  ·simp (maxSteps:=200000) -implicitDefEqProofs only [KA,KB,KC,KD,KE,KF,eq_self,ne_eq,↓reduceIte,Nat.reduceLT,Nat.reduceEqDiff,Nat.reduceAdd,Nat.reduceLeDiff,Nat.reduceSub,Nat.reduceMul,reduceCtorEq,c1,c2]
   exact hP true (by simp [c1,c2])
  ·simp (maxSteps:=200000) -implicitDefEqProofs only [KA,KB,KC,KD,KE,KF,eq_self,ne_eq,↓reduceIte,Nat.reduceLT,Nat.reduceEqDiff,Nat.reduceAdd,Nat.reduceLeDiff,Nat.reduceSub,Nat.reduceMul,reduceCtorEq,c1,c2]
   exact hP false (by simp [c2])
 ·simp (maxSteps:=200000) -implicitDefEqProofs only [KA,KB,KC,KD,KE,KF,eq_self,ne_eq,↓reduceIte,Nat.reduceLT,Nat.reduceEqDiff,Nat.reduceAdd,Nat.reduceLeDiff,Nat.reduceSub,Nat.reduceMul,reduceCtorEq,c1]
  exact hP false (by simp [c1])
theorem has_ok {a:Int} (hn:n≤1000) (hr:Root h p n q seq L) (hP:∀ r:Bool,P (.c (.bool r)) h):callW N (k+2) 273 [.c (.ptr p 0 0 0),.c (.int .i64 a)] h P:=by
 obtain ⟨nr,hp,gu,er,ke,lo,li,ck,qi,up,dn,gt,pm,s1,s2,s3,s4,s5,s6,s7,s8,g1,⟨r,x,g2⟩,g3,g4,g5,g6⟩:=hr
 unfold rootC at g1
 refine call_intro rfl (by simp only [List.length_cons,List.length_nil];omega) ?_
 simp (maxSteps:=200000) -implicitDefEqProofs only [KA,KB,KC,KD,KE,KF,eq_self,ne_eq,↓reduceIte,Nat.reduceLT,Nat.reduceEqDiff,Nat.reduceAdd,Nat.reduceLeDiff,Nat.reduceSub,Nat.reduceMul,reduceCtorEq,g1]
 refine in_ok (k:=k) fun r _=>?_
 simp (maxSteps:=200000) -implicitDefEqProofs only [KA,KB,KC,KD,KE,KF,eq_self,ne_eq,↓reduceIte,Nat.reduceLT,Nat.reduceEqDiff,Nat.reduceAdd,Nat.reduceLeDiff,Nat.reduceSub,Nat.reduceMul,reduceCtorEq]
 exact hP r
end
end
section
set_option maxHeartbeats 8000000
section
variable {k:Nat} {h:Hp} {P:AV→Hp→Prop} {p n q seq:Nat} {L:List Int}
theorem next_ok {a:Nat} (hr:Root h p n q seq L) (hP:∀ h' e hp,SL h' 5 e (bR a hp)→SL h' 1 hp (L.map encI)→Fn h h'→P (.agg [.int .i64 3,.int .i64 0,.int .i64 64,.int .i64 seq,e,.nils]) h') :
 callW N (k+4) 279 [.c (.ptr p 0 0 0),.c (.int .i64 a)] h P:=by
 refine call_intro rfl (by simp only [List.length_cons,List.length_nil];omega) ?_
 rw [a_fin]
 unfold n279b
 obtain ⟨h1,hh1⟩:∃ g,g=h.push (.rows true 6 0 0 [[.int .i64 0,.int .i64 0,.int .i64 0,.int .i64 0,.nils,.nils]]):=⟨_,rfl⟩
 have g1:h1.g h.n=some (.rows true 6 0 0 [[.int .i64 0,.int .i64 0,.int .i64 0,.int .i64 0,.nils,.nils]]):=by rw [hh1,g_push_eq]
 have f1:Fn h h1:=by rw [hh1];exact Fm.push _ _ _
 have n1:h1.n=h.n+1:=by rw [hh1,n_push]
 obtain ⟨h2,hh2⟩:∃ g,g=h1.reserve 2:=⟨_,rfl⟩
 have f2:Fn h1 h2:=by rw [hh2];exact Fm.reserve _ _ _
 have n2:h2.n=h1.n+2:=by rw [hh2];exact n_reserve _ _
 have d0:h2.g h1.n=some .dead:=by rw [hh2,g_reserve,if_pos (by omega)]
 have d1:h2.g (h1.n+1)=some .dead:=by rw [hh2,g_reserve,if_pos (by omega)]
 have r2:=hr.new (f1.trans f2)
 obtain ⟨nr,hp,gu,er,ke,lo,li,ck,qi,up,dn,gt,pm,s1,s2,s3,s4,s5,s6,s7,s8,gp0,⟨r,x,gq⟩,gm,gh,gc,gb⟩:=id hr
 unfold rootC at gp0
 have gp:=(f1.trans f2).some gp0 (fun e=>e)
 simp (maxSteps:=200000) -implicitDefEqProofs only [KA,KB,KC,KD,KE,KF,eq_self,ne_eq,↓reduceIte,Nat.reduceLT,Nat.reduceEqDiff,Nat.reduceAdd,Nat.reduceLeDiff,Nat.reduceSub,Nat.reduceMul,reduceCtorEq,hh1.symm,hh2.symm,gp]
 refine sync_ok (k:=k+1) r2 fun h3 f3=>?_
 have gp3:=f3.some gp (fun e=>e)
 have d03:h3.g (h.n+1)=some .dead:=by rw [←n1];exact f3.some d0 (fun e=>e)
 have d13:h3.g (h.n+1+1)=some .dead:=by rw [←n1];exact f3.some d1 (fun e=>e)
 have n3:=f3.n
 obtain ⟨h4,hh4⟩:∃ g,g=h3.put (h.n+1) (.rows true 5 0 0 [[.int .i64 1,.int .i64 a,.int .i64 0,.int .i64 0,.nils]]):=⟨_,rfl⟩
 have f4:Fm (fun j=>h.n≤j) h3 h4:=by rw [hh4];exact Fm.put _ _ (by show h.n≤h.n+1;omega)
 have n4:h4.n=h3.n:=by rw [hh4,n_put]
 have d14:h4.g (h.n+1+1)=some .dead:=by rw [hh4,g_put_ne _ _ (by omega)];exact d13
 have t4:h4.g (h.n+1)=some (.rows true 5 0 0 [[.int .i64 1,.int .i64 a,.int .i64 0,.int .i64 0,.nils]]):=by rw [hh4,g_put_eq,d03];rfl
 obtain ⟨h5,hh5⟩:∃ g,g=h4.put (h.n+1+1) (.rows true 6 0 0 [[.int .i64 0,.int .i64 0,.int .i64 0,.int .i64 0,.nils,.nils]]):=⟨_,rfl⟩
 have t5:h5.g (h.n+1+1)=some (.rows true 6 0 0 [[.int .i64 0,.int .i64 0,.int .i64 0,.int .i64 0,.nils,.nils]]):=by rw [hh5,g_put_eq,d14];rfl
 obtain ⟨h6,hh6⟩:∃ g,g=h5.put (h.n+1+1) (.rows true 6 0 0 [[.int .i64 0,.int .i64 0,.int .i64 0,.int .i64 seq,.sl (h.n+1) 0 0 1 (some 1),.nils]]):=⟨_,rfl⟩
 simp (maxSteps:=200000) -implicitDefEqProofs only [KA,KB,KC,KD,KE,KF,eq_self,ne_eq,↓reduceIte,Nat.reduceLT,Nat.reduceEqDiff,Nat.reduceAdd,Nat.reduceLeDiff,Nat.reduceSub,Nat.reduceMul,reduceCtorEq,n1,gp3,d03,hh4.symm,d14,hh5.symm,t5,hh6.symm]
 have f5:Fm (fun j=>h.n≤j) h4 h5:=by rw [hh5];exact Fm.put _ _ (by show h.n≤h.n+1+1;omega)
 have f6:Fm (fun j=>h.n≤j) h5 h6:=by rw [hh6];exact Fm.put _ _ (by show h.n≤h.n+1+1;omega)
 have n6:h6.n=h3.n:=by rw [hh6,n_put,hh5,n_put,n4]
 have t6:h6.g (h.n+1)=some (.rows true 5 0 0 [[.int .i64 1,.int .i64 a,.int .i64 0,.int .i64 0,.nils]]):=by rw [hh6,g_put_ne _ _ (by omega),hh5,g_put_ne _ _ (by omega)];exact t4
 have u6:h6.g (h.n+1+1)=some (.rows true 6 0 0 [[.int .i64 0,.int .i64 0,.int .i64 0,.int .i64 seq,.sl (h.n+1) 0 0 1 (some 1),.nils]]):=by rw [hh6,g_put_eq,t5];rfl
 have f06:Fm (fun j=>h.n≤j) h h6:=((f1.trans (f2.trans f3)).mono (fun _ _ e=>e.elim)).trans (f4.trans (f5.trans f6))
 have F6:Fn h h6:=(Fm.refl _ h).fresh f06 (fun j e=>e)
 have g6:h6.g h.n=some (.rows true 6 0 0 [[.int .i64 0,.int .i64 0,.int .i64 0,.int .i64 0,.nils,.nils]]):=by
  rw [hh6,g_put_ne _ _ (by omega),hh5,g_put_ne _ _ (by omega),hh4,g_put_ne _ _ (by omega)]
  exact (f2.trans f3).some g1 (fun e=>e)
 refine packet_ok (k:=k+1) (hr.new F6) ?_
 simp (maxSteps:=200000) -implicitDefEqProofs only [KA,KB,KC,KD,KE,KF,eq_self,ne_eq,↓reduceIte,Nat.reduceLT,Nat.reduceEqDiff,Nat.reduceAdd,Nat.reduceLeDiff,Nat.reduceSub,Nat.reduceMul,reduceCtorEq]
 refine first_ok (k:=k+1) (hr.new F6) ?_
 have z64:((64:Int)=64):=rfl
 obtain ⟨h7,hh7⟩:∃ g,g=h6.put (h.n+1+1) (.rows true 6 0 0 [[.int .i64 3,.int .i64 0,.int .i64 0,.int .i64 seq,.sl (h.n+1) 0 0 1 (some 1),.nils]]):=⟨_,rfl⟩
 have u7:h7.g (h.n+1+1)=some (.rows true 6 0 0 [[.int .i64 3,.int .i64 0,.int .i64 0,.int .i64 seq,.sl (h.n+1) 0 0 1 (some 1),.nils]]):=by rw [hh7,g_put_eq,u6];rfl
 obtain ⟨h8,hh8⟩:∃ g,g=h7.put (h.n+1+1) (.rows true 6 0 0 [[.int .i64 3,.int .i64 0,.int .i64 64,.int .i64 seq,.sl (h.n+1) 0 0 1 (some 1),.nils]]):=⟨_,rfl⟩
 have u8:h8.g (h.n+1+1)=some (.rows true 6 0 0 [[.int .i64 3,.int .i64 0,.int .i64 64,.int .i64 seq,.sl (h.n+1) 0 0 1 (some 1),.nils]]):=by rw [hh8,g_put_eq,u7];rfl
 have f8:Fm (fun j=>j=h.n+1+1) h6 h8:=by rw [hh8,hh7];exact (Fm.put (S:=fun j=>j=h.n+1+1) _ _ rfl).trans (Fm.put (S:=fun j=>j=h.n+1+1) _ _ rfl)
 have n8:h8.n=h6.n:=by rw [hh8,n_put,hh7,n_put]
 obtain ⟨h9,hh9⟩:∃ g,g=h8.reserve 1:=⟨_,rfl⟩
 have f9:Fn h8 h9:=by rw [hh9];exact Fm.reserve _ _ _
 have n9:h9.n=h8.n+1:=by rw [hh9];exact n_reserve _ _
 have d9:h9.g h8.n=some .dead:=by rw [hh9,g_reserve,if_pos (by omega)]
 have F9:Fn h h9:=F6.fresh (f8.trans (f9.mono (fun _ _ e=>e.elim))) (fun j e=>by omega)
 have gp9:=F9.some gp0 (fun e=>e)
 have u9:=f9.some u8 (fun e=>e)
 obtain ⟨h10,hh10⟩:∃ g,g=h9.put h8.n (.rows true 5 0 0 [[.int .i64 3,.int .i64 0,.int .i64 0,.int .i64 0,hp]]):=⟨_,rfl⟩
 simp (maxSteps:=200000) -implicitDefEqProofs only [KA,KB,KC,KD,KE,KF,eq_self,ne_eq,↓reduceIte,Nat.reduceLT,Nat.reduceEqDiff,Nat.reduceAdd,Nat.reduceLeDiff,Nat.reduceSub,Nat.reduceMul,reduceCtorEq,z64,u6,hh7.symm,u7,hh8.symm,hh9.symm,d9,u9,gp9,hh10.symm]
 have f10:Fm (fun j=>h.n≤j) h9 h10:=by rw [hh10];exact Fm.put _ _ (by show h.n≤h8.n;omega)
 have n10:h10.n=h9.n:=by rw [hh10,n_put]
 have c10:h10.g (h.n+1)=some (.rows true 5 0 0 [[.int .i64 1,.int .i64 a,.int .i64 0,.int .i64 0,.nils]]):=by
  rw [hh10,g_put_ne _ _ (by omega)]
  exact f9.some (f8.some t6 (by omega)) (fun e=>e)
 have e10:h10.g h8.n=some (.rows true 5 0 0 [[.int .i64 3,.int .i64 0,.int .i64 0,.int .i64 0,hp]]):=by rw [hh10,g_put_eq,d9];rfl
 obtain ⟨h11,hh11⟩:∃ g,g=h10.push (.rows true 5 0 0 (bR a hp)):=⟨_,rfl⟩
 have happ:appT h10 [] 5 56 (TV.v (AV.c (CV.sl (h.n+1) 0 0 1 (some 1)))) (TV.v (AV.c (CV.sl h8.n 0 0 1 (some 1))))=some (.sl h10.n 0 0 2 none,h11):=by
  rw [hh11]
  simp only [appT,asC_c,Option.bind_some,sliceRows,appRows,g_def,c10,e10]
  simp (config:={ decide:=true }) [room,bR,bE]
  rfl
 have n11:h11.n=h10.n+1:=by rw [hh11,n_push]
 have f11:Fn h10 h11:=by rw [hh11];exact Fm.push _ _ _
 have u11:h11.g (h.n+1+1)=some (.rows true 6 0 0 [[.int .i64 3,.int .i64 0,.int .i64 64,.int .i64 seq,.sl (h.n+1) 0 0 1 (some 1),.nils]]):=f11.some (by rw [hh10,g_put_ne _ _ (by omega)];exact u9) (fun e=>e)
 obtain ⟨h12,hh12⟩:∃ g,g=h11.put (h.n+1+1) (.rows true 6 0 0 [[.int .i64 3,.int .i64 0,.int .i64 64,.int .i64 seq,.sl h10.n 0 0 2 none,.nils]]):=⟨_,rfl⟩
 have u12:h12.g (h.n+1+1)=some (.rows true 6 0 0 [[.int .i64 3,.int .i64 0,.int .i64 64,.int .i64 seq,.sl h10.n 0 0 2 none,.nils]]):=by rw [hh12,g_put_eq,u11];rfl
 have g12:h12.g h.n=some (.rows true 6 0 0 [[.int .i64 0,.int .i64 0,.int .i64 0,.int .i64 0,.nils,.nils]]):=by
  rw [hh12,g_put_ne _ _ (by omega)]
  refine f11.some ?_ (fun e=>e)
  rw [hh10,g_put_ne _ _ (by omega)]
  exact f9.some (f8.some g6 (by omega)) (fun e=>e)
 obtain ⟨h13,hh13⟩:∃ g,g=h12.put h.n (.rows true 6 0 0 [[.int .i64 3,.int .i64 0,.int .i64 64,.int .i64 seq,.sl h10.n 0 0 2 none,.nils]]):=⟨_,rfl⟩
 have g13:h13.g h.n=some (.rows true 6 0 0 [[.int .i64 3,.int .i64 0,.int .i64 64,.int .i64 seq,.sl h10.n 0 0 2 none,.nils]]):=by rw [hh13,g_put_eq,g12];rfl
 have e13:h13.g h10.n=some (.rows true 5 0 0 (bR a hp)):=by
  rw [hh13,g_put_ne _ _ (by omega),hh12,g_put_ne _ _ (by omega),hh11,g_push_eq]
 have f13:Fm (fun j=>h.n≤j) h11 h13:=by
  rw [hh13,hh12]
  exact (Fm.put (S:=fun j=>h.n≤j) _ _ (by show h.n≤h.n+1+1;omega)).trans (Fm.put (S:=fun j=>h.n≤j) _ _ (Nat.le_refl _))
 have F13:Fn h h13:=F9.fresh ((f10.trans (f11.mono (fun _ _ e=>e.elim))).trans f13) (fun j e=>e)
 simp (maxSteps:=200000) -implicitDefEqProofs only [KA,KB,KC,KD,KE,KF,eq_self,ne_eq,↓reduceIte,Nat.reduceLT,Nat.reduceEqDiff,Nat.reduceAdd,Nat.reduceLeDiff,Nat.reduceSub,Nat.reduceMul,reduceCtorEq,happ,u11,hh12.symm,u12,g12,hh13.symm,fz_r,g13]
 exact hP h13 _ hp ⟨true,0,0,_,e13,Nat.le_refl _,Nat.le_refl 2,rfl⟩ (gh.new F13) F13
end
end
section
set_option maxHeartbeats 8000000
section
variable {k:Nat} {h:Hp} {P:AV→Hp→Prop} {p n q seq:Nat} {L:List Int}
theorem plan_ok {now:Nat} {c:Int} (hr:Root h p n q seq L) (hn:2≤n∧n≤64) (hL:HpL L) (hnow:now<1099511627776) (hcc:L[now % L.length]? = some c) (hsq:seq<256)
 (hP1:now % n≠0→∀ h',Fn h h'→P (.tup [.c (.int .i64 c),.c .nils]) h')
 (hP2:now % n=0→∀ h' u,Root h' p n q ((seq+1) % 256) L→SL h' 1 u ((apx (bcB seq now L)).map eB)→(∀ id tok off len cap,u = .sl id tok off len cap→cap=none)→Fm (fun j=>j=p) h h'→P (.tup [.c (.int .i64 c),.c u]) h') :
 callW N (k+11) 262 [.c (.ptr p 0 0 0),.c (.int .i64 now)] h P:=by
 have z1:¬(now:Int)<0:=by omega
 have hrn:∀ x∈L,0≤x∧x≤255:=fun x hx=>by have:=hL.rng x hx;omega
 have hm:=hL.most
 obtain ⟨nr,hp,gu,er,ke,lo,li,ck,qi,up,dn,gt,pm,s1,s2,s3,s4,s5,s6,s7,s8,gp,⟨r,x,gq⟩,gm,gh,gc,gb⟩:=id hr
 unfold rootC at gp
 refine call_intro rfl (by simp only [List.length_cons,List.length_nil];omega) ?_
 simp (maxSteps:=200000) -implicitDefEqProofs only [KA,KB,KC,KD,KE,KF,eq_self,ne_eq,↓reduceIte,Nat.reduceLT,Nat.reduceEqDiff,Nat.reduceAdd,Nat.reduceLeDiff,Nat.reduceSub,Nat.reduceMul,reduceCtorEq]
 refine asn_ok (k:=k+9) (by omega) ?_
 simp (maxSteps:=200000) -implicitDefEqProofs only [KA,KB,KC,KD,KE,KF,eq_self,ne_eq,↓reduceIte,Nat.reduceLT,Nat.reduceEqDiff,Nat.reduceAdd,Nat.reduceLeDiff,Nat.reduceSub,Nat.reduceMul,reduceCtorEq,gp]
 refine chan_ok (k:=k+5) gh gc hL hnow hcc fun h1 f1=>?_
 have gp1:=f1.some gp (fun e=>e)
 have t1:Int.tmod (now:Int) (n:Int)=((now % n:Nat):Int):=by rw [Int.tmod_eq_emod_of_nonneg (by omega)];simp
 have zn:¬((n:Int)=0):=by omega
 by_cases hz:now % n=0
 ·have zz:((now % n:Nat):Int)=0:=by omega
  simp (maxSteps:=200000) -implicitDefEqProofs only [KA,KB,KC,KD,KE,KF,eq_self,ne_eq,↓reduceIte,Nat.reduceLT,Nat.reduceEqDiff,Nat.reduceAdd,Nat.reduceLeDiff,Nat.reduceSub,Nat.reduceMul,reduceCtorEq,gp1,t1,zn,zz]
  refine next_ok (k:=k+6) (hr.new f1) fun h2 e hp2 k2 v2 f2=>?_
  simp (maxSteps:=200000) -implicitDefEqProofs only [KA,KB,KC,KD,KE,KF,eq_self,ne_eq,↓reduceIte,Nat.reduceLT,Nat.reduceEqDiff,Nat.reduceAdd,Nat.reduceLeDiff,Nat.reduceSub,Nat.reduceMul,reduceCtorEq]
  refine fencode_ok (k:=k) hsq hnow v2 hrn hm k2 fun h3 u k3 c3 f3=>?_
  have gp3:=(f1.trans (f2.trans f3)).some gp (fun e=>e)
  have w1:IntKind.wrap .i64 ((seq:Int)+1)=((seq+1:Nat):Int):=by rw [wrap_i64 (by omega)];omega
  have t2:Int.tmod ((seq+1:Nat):Int) 256=(((seq+1) % 256:Nat):Int):=by rw [Int.tmod_eq_emod_of_nonneg (by omega)];simp
  have z3:((3:Int)=3):=rfl
  obtain ⟨h4,hh4⟩:∃ g,g=h3.put p (.rows true 32 0 0 [rootC n nr hp gu er ke lo q li ck (.ptr qi 0 0 0) up dn gt (.map pm) ((seq+1) % 256:Nat) s1 s2 s3 s4 s5 s6 s7 s8]):=⟨_,rfl⟩
  have gp4:h4.g p=some (.rows true 32 0 0 [rootC n nr hp gu er ke lo q li ck (.ptr qi 0 0 0) up dn gt (.map pm) ((seq+1) % 256:Nat) s1 s2 s3 s4 s5 s6 s7 s8]):=by rw [hh4,g_put_eq,gp3];rfl
  obtain ⟨h5,hh5⟩:∃ g,g=h4.put p (.rows true 32 0 0 [rootC n nr hp gu er ke lo q li ck (.ptr qi 0 0 0) up dn gt (.map pm) ((seq+1) % 256:Nat) now 3 0 64 seq e .nils false]):=⟨_,rfl⟩
  have gp5:h5.g p=some (.rows true 32 0 0 [rootC n nr hp gu er ke lo q li ck (.ptr qi 0 0 0) up dn gt (.map pm) ((seq+1) % 256:Nat) now 3 0 64 seq e .nils false]):=by rw [hh5,g_put_eq,gp4];rfl
  have f5:Fm (fun j=>j=p) h3 h5:=by rw [hh5,hh4];exact (Fm.put (S:=fun j=>j=p) _ _ rfl).trans (Fm.put (S:=fun j=>j=p) _ _ rfl)
  have F5:Fm (fun j=>j=p) h h5:=((f1.trans (f2.trans f3)).mono (fun _ _ e=>e.elim)).trans f5
  have hne:qi≠p:=fun e=>by rw [e,gp] at gq;cases gq
  have hne2:pm≠p:=fun e=>by rw [e,gp] at gm;cases gm
  have k5:SL h5 1 u ((apx (bcB seq now L)).map eB):=k3.mono f5 (by
   rintro id tok off len cap rfl rfl
   obtain ⟨wr,cur,lw,rs,e1,_⟩:=k3
   rw [gp3] at e1
   cases e1)
  unfold rootC at hh4 gp4 hh5
  simp (maxSteps:=200000) -implicitDefEqProofs only [KA,KB,KC,KD,KE,KF,eq_self,ne_eq,↓reduceIte,Nat.reduceLT,Nat.reduceEqDiff,Nat.reduceAdd,Nat.reduceLeDiff,Nat.reduceSub,Nat.reduceMul,reduceCtorEq,w1,t2,z3,gp3,hh4.symm,gp4,hh5.symm]
  refine ⟨by decide,?_⟩
  refine hP2 hz _ u ⟨nr,hp,gu,er,ke,lo,li,ck,qi,up,dn,gt,pm,_,_,_,_,_,_,_,_,gp5,⟨r,x,F5.some gq hne⟩,F5.some gm hne2,?_,gc,gb⟩ k5 c3 F5
  exact gh.mono F5 (fun id tok off len cap e=>by have:=gb _ _ _ _ _ e;omega)
 ·have zz:¬((now % n:Nat):Int)=0:=by omega
  simp (maxSteps:=200000) -implicitDefEqProofs only [KA,KB,KC,KD,KE,KF,eq_self,ne_eq,↓reduceIte,Nat.reduceLT,Nat.reduceEqDiff,Nat.reduceAdd,Nat.reduceLeDiff,Nat.reduceSub,Nat.reduceMul,reduceCtorEq,gp1,t1,zn,zz]
  exact hP1 hz _ f1
theorem send_ok {a to:Int} {d:CV} {len:Nat} (hr:Root h p n q seq L) (hn:n≤1000) (ha:0≤a∧a<1099511627776) (hlen:∀ h',lenT h' .sl (.v (.c d))=some (len:Int))
 (hP:∀ h' e,Fn h h'→P (.tup [.c (.int .i64 0),.c e]) h'):callW N (k+3) 261 [.c (.ptr p 0 0 0),.c (.int .i64 a),.c (.int .i64 to),.c d] h P:=by
 obtain ⟨nr,hp,gu,er,ke,lo,li,ck,qi,up,dn,gt,pm,s1,s2,s3,s4,s5,s6,s7,s8,gp,⟨r,x,gq⟩,gm,gh,gc,gb⟩:=id hr
 unfold rootC at gp
 refine call_intro rfl (by simp only [List.length_cons,List.length_nil];omega) ?_
 simp (maxSteps:=200000) -implicitDefEqProofs only [KA,KB,KC,KD,KE,KF,eq_self,ne_eq,↓reduceIte,Nat.reduceLT,Nat.reduceEqDiff,Nat.reduceAdd,Nat.reduceLeDiff,Nat.reduceSub,Nat.reduceMul,reduceCtorEq]
 refine asn_ok (k:=k+1) ha ?_
 simp (maxSteps:=200000) -implicitDefEqProofs only [KA,KB,KC,KD,KE,KF,eq_self,ne_eq,↓reduceIte,Nat.reduceLT,Nat.reduceEqDiff,Nat.reduceAdd,Nat.reduceLeDiff,Nat.reduceSub,Nat.reduceMul,reduceCtorEq]
 refine has_ok (k:=k) hn hr fun b=>?_
 cases b
 ·simp (maxSteps:=200000) -implicitDefEqProofs only [KA,KB,KC,KD,KE,KF,eq_self,ne_eq,↓reduceIte,Nat.reduceLT,Nat.reduceEqDiff,Nat.reduceAdd,Nat.reduceLeDiff,Nat.reduceSub,Nat.reduceMul,reduceCtorEq]
  exact hP _ _ (Fm.refl _ _)
 by_cases hto:to=0
 ·simp (maxSteps:=200000) -implicitDefEqProofs only [KA,KB,KC,KD,KE,KF,eq_self,ne_eq,↓reduceIte,Nat.reduceLT,Nat.reduceEqDiff,Nat.reduceAdd,Nat.reduceLeDiff,Nat.reduceSub,Nat.reduceMul,reduceCtorEq,gp,hto]
  exact hP _ _ (Fm.refl _ _)
 simp (maxSteps:=200000) -implicitDefEqProofs only [KA,KB,KC,KD,KE,KF,eq_self,ne_eq,↓reduceIte,Nat.reduceLT,Nat.reduceEqDiff,Nat.reduceAdd,Nat.reduceLeDiff,Nat.reduceSub,Nat.reduceMul,reduceCtorEq,gp,hto,hlen]
 refine in_ok (k:=k+1) fun b _=>?_
 cases b
 ·simp (maxSteps:=200000) -implicitDefEqProofs only [KA,KB,KC,KD,KE,KF,eq_self,ne_eq,↓reduceIte,Nat.reduceLT,Nat.reduceEqDiff,Nat.reduceAdd,Nat.reduceLeDiff,Nat.reduceSub,Nat.reduceMul,reduceCtorEq]
  exact hP _ _ (Fm.refl _ _)
 obtain ⟨h1,hh1⟩:∃ g,g=h.reserve 2:=⟨_,rfl⟩
 have f1:Fn h h1:=by rw [hh1];exact Fm.reserve _ _ _
 have d0:h1.g h.n=some .dead:=by rw [hh1,g_reserve,if_pos (by omega)]
 have d1:h1.g (h.n+1)=some .dead:=by rw [hh1,g_reserve,if_pos (by omega)]
 obtain ⟨h2,hh2⟩:∃ g,g=h1.put h.n (.rows true 1 0 0 [[.int .i64 0]]):=⟨_,rfl⟩
 have d2:h2.g (h.n+1)=some .dead:=by rw [hh2,g_put_ne _ _ (by omega)];exact d1
 obtain ⟨h3,hh3⟩:∃ g,g=h2.put (h.n+1) (.rows true 6 0 0 [[.int .i64 0,.int .i64 0,.int .i64 0,.int .i64 0,.nils,.nils]]):=⟨_,rfl⟩
 have u3:h3.g (h.n+1)=some (.rows true 6 0 0 [[.int .i64 0,.int .i64 0,.int .i64 0,.int .i64 0,.nils,.nils]]):=by rw [hh3,g_put_eq,d2];rfl
 have w1:IntKind.wrap .i64 (a * 64)=a * 64:=wrap_i64 (by omega)
 have m1:max (IntKind.wrap .i64 (-1+1)) (a * 64)=a * 64:=by
  rw [show IntKind.wrap .i64 (-1+1)=0 from by decide];omega
 obtain ⟨h4,hh4⟩:∃ g,g=h3.put (h.n+1) (.rows true 6 0 0 [[.int .i64 0,.int .i64 to,.int .i64 (a * 64),.int .i64 li,.sl h.n 0 0 1 (some 1),d]]):=⟨_,rfl⟩
 have f14:Fm (fun j=>h.n≤j) h1 h4:=by
  rw [hh4,hh3,hh2]
  exact ((Fm.put (S:=fun j=>h.n≤j) _ _ (Nat.le_refl _)).trans (Fm.put (S:=fun j=>h.n≤j) _ _ (by show h.n≤h.n+1;omega))).trans (Fm.put (S:=fun j=>h.n≤j) _ _ (by show h.n≤h.n+1;omega))
 have F4:Fn h h4:=(Fm.refl _ _).fresh ((f1.mono (fun _ _ e=>e.elim)).trans f14) (fun j e=>e)
 have gp1:=f1.some gp (fun e=>e)
 have gp4:=F4.some gp (fun e=>e)
 have gm4:=F4.some gm (fun e=>e)
 simp (maxSteps:=200000) -implicitDefEqProofs only [KA,KB,KC,KD,KE,KF,eq_self,ne_eq,↓reduceIte,Nat.reduceLT,Nat.reduceEqDiff,Nat.reduceAdd,Nat.reduceLeDiff,Nat.reduceSub,Nat.reduceMul,reduceCtorEq,gp,hh1.symm,gp1,w1,m1,d0,hh2.symm,d2,hh3.symm,u3,hh4.symm,gp4,gm4]
 have hlook:lookT h4 (KT.int IntKind.i64) (TV.v (AV.c (CV.map pm))) (some (AV.c (CV.int IntKind.i64 to)))=some none:=by
  exact look_ok (M:=fun _=>none) gm4 (IsMap.nil (fun _=>rfl)) rfl
 have i0:(none:Option AV).isSome=false:=rfl
 simp (maxSteps:=200000) -implicitDefEqProofs only [KA,KB,KC,KD,KE,KF,eq_self,ne_eq,↓reduceIte,Nat.reduceLT,Nat.reduceEqDiff,Nat.reduceAdd,Nat.reduceLeDiff,Nat.reduceSub,Nat.reduceMul,reduceCtorEq,hlook,i0,Bool.not_false,Option.getD_none]
 exact hP _ _ F4
end
end
section
set_option maxHeartbeats 8000000
def u6 (x:Nat):List CV:=[.int .u64 (x:Int)]
def NearOk (n:Nat) (xs:List Nat):Prop:=xs.length=n∧∀ i x,xs[i]? = some x→x<2 ^ n∧x.testBit i=false
theorem NearOk.set {n a b:Nat} {xs:List Nat} {x:Nat} (k:NearOk n xs) (hx:xs[a]? = some x) (hb:b<n) (hab:a≠b):NearOk n (xs.set a (x ||| 2 ^ b)):=by
 refine ⟨by rw [List.length_set];exact k.1,fun i y hy=>?_⟩
 have hal:=lt_at hx
 by_cases hi:i=a
 ·subst hi
  rw [List.getElem?_set_self hal] at hy
  obtain ⟨h1,h2⟩:=k.2 _ _ hx
  cases hy
  refine ⟨Nat.or_lt_two_pow h1 (Nat.pow_lt_pow_right (by decide) hb),?_⟩
  rw [Nat.testBit_or,h2,Nat.testBit_two_pow,Bool.false_or,decide_eq_false (by omega)]
 ·rw [List.getElem?_set_ne (by omega)] at hy
  exact k.2 _ _ hy
theorem near_new (n:Nat):NearOk n (List.replicate n 0):=by
 refine ⟨List.length_replicate ..,fun i x hx=>?_⟩
 rw [List.getElem?_replicate] at hx
 split at hx
 ·cases hx;exact ⟨Nat.two_pow_pos n,Nat.zero_testBit i⟩
 ·cases hx
theorem shl_one {b:Nat} (hb:b<64):binC .shl .num (.int .u64 1) (.int .u64 (b:Int))=some (.int .u64 ((2 ^ b:Nat):Int)):=by
 have h0:¬((b:Int)<0):=by omega
 have h2:2 ^ b<2 ^ 64:=Nat.pow_lt_pow_right (by decide) hb
 show shiftBin .shl .u64 1 (b:Int)=_
 unfold shiftBin
 rw [if_neg h0]
 have:(1:Int) * 2 ^ (min (b:Int).toNat (IntKind.bits .u64))=((2 ^ b:Nat):Int):=by
  rw [Int.toNat_natCast,Nat.min_eq_left (by show b≤64;omega),Int.one_mul];simp
 simp only [this]
 rw [wrapU (k:=.u64) rfl h2]
theorem wrap_pos (x:Int):∃ m:Nat,IntKind.wrap .u64 x=(m:Int):=by
 refine ⟨(IntKind.wrap .u64 x).toNat,(Int.toNat_of_nonneg ?_).symm⟩
 unfold IntKind.wrap
 simp only [IntKind.signed,Bool.false_and,Bool.false_eq_true,if_false]
 exact Int.emod_nonneg _ (by decide)
theorem tmod_nat (a b:Nat):Int.tmod (a:Int) (b:Int)=((a % b:Nat):Int):=by
 rw [Int.tmod_eq_emod_of_nonneg (by omega)];simp
def CfgC (nr hp n q:Nat):List CV:=[.int .i64 n,.sl nr 0 0 n (some n),.sl hp 0 0 3 (some 3),.int .i64 300,.int .i64 1,.int .i64 6,.int .i64 (2 * n+5),.int .i64 q,.int .i64 6]
section
variable {k:Nat} {h:Hp} {P:AV→Hp→Prop} {n q:Nat}
def CfO (nr hp n q r:Nat) (h0:Hp) (m:Nat) (s:St):Prop:=∃ (i:Nat) (l:List (Nat × TV)) (h':Hp) (xs:List Nat),s=ST 99 l [CfgC nr hp n q] h'∧i≤n∧m=n-i∧Ar u6 1 h' nr 0 [] xs∧NearOk n xs∧Fm (fun j=>j=nr) h0 h'∧
 lk l 14 = .v (.c (.ptr r 0 0 0))∧lk l 15 = .v (.c (.int .i64 n))∧lk l 16 = .v (.c (.int .i64 3))∧lk l 17 = .lp 0 0∧lk l 61 = .v (.c (.int .i64 n))∧lk l 62 = .v (.c (.int .i64 i))
def CfN (nr hp n q r:Nat) (h0:Hp) (i:Nat) (m:Nat) (s:St):Prop:=∃ (j:Nat) (l:List (Nat × TV)) (h':Hp) (xs:List Nat),s=ST 99 l [CfgC nr hp n q] h'∧j≤n∧m=n-j∧Ar u6 1 h' nr 0 [] xs∧NearOk n xs∧Fm (fun j=>j=nr) h0 h'∧
 lk l 14 = .v (.c (.ptr r 0 0 0))∧lk l 15 = .v (.c (.int .i64 n))∧lk l 16 = .v (.c (.int .i64 3))∧lk l 17 = .lp 0 0∧lk l 18 = .v (.c (.int .i64 i))∧lk l 61 = .v (.c (.int .i64 n))∧lk l 62 = .v (.c (.int .i64 i))∧lk l 65 = .v (.c (.int .i64 n))∧lk l 66 = .v (.c (.int .i64 j))
theorem config_ok {nodes queue:Int} (hP:∀ h' nr hp n q xs,2≤n∧n≤8→1≤q∧q≤8→h'.g nr=some (.rows true 1 0 0 (xs.map u6))→NearOk n xs→h'.g hp=some (.rows true 1 0 0 [[.int .i64 11],[.int .i64 15],[.int .i64 20]])→Fn h h'→P (.agg (CfgC nr hp n q)) h') :
 callW N (k+1) 259 [.c (.int .i64 nodes),.c (.int .i64 2),.c (.int .i64 5),.c (.int .i64 5),.c (.int .i64 queue),.c (.int .i64 5),.c (.int .i64 1)] h P:=by
 obtain ⟨n0,hn0⟩:=wrap_pos nodes
 obtain ⟨q0,hq0⟩:=wrap_pos queue
 obtain ⟨n,hn⟩:∃ n,n=2+n0 % 7:=⟨_,rfl⟩
 obtain ⟨q,hq⟩:∃ q,q=1+q0 % 8:=⟨_,rfl⟩
 have t7:Int.tmod (n0:Int) 7=((n0 % 7:Nat):Int):=tmod_nat n0 7
 have t8:Int.tmod (q0:Int) 8=((q0 % 8:Nat):Int):=tmod_nat q0 8
 have w1:IntKind.wrap .i64 ((n0 % 7:Nat):Int)=((n0 % 7:Nat):Int):=wrap_i64 (by omega)
 have w2:IntKind.wrap .i64 (2+((n0 % 7:Nat):Int))=(n:Int):=by rw [wrap_i64 (by omega)];omega
 have w3:IntKind.wrap .i64 ((q0 % 8:Nat):Int)=((q0 % 8:Nat):Int):=wrap_i64 (by omega)
 have w4:IntKind.wrap .i64 (1+((q0 % 8:Nat):Int))=(q:Int):=by rw [wrap_i64 (by omega)];omega
 have w5:IntKind.wrap .i64 (2 * (n:Int))=2 * (n:Int):=wrap_i64 (by omega)
 have a1:IntKind.wrap .i64 (2 * (n:Int)+IntKind.wrap .i64 (Int.tmod (IntKind.wrap .u64 5) 60))=2 * (n:Int)+5:=by
  rw [show IntKind.wrap .i64 (Int.tmod (IntKind.wrap .u64 5) 60)=5 from by decide];exact wrap_i64 (by omega)
 have a2:IntKind.wrap .i64 (1+IntKind.wrap .i64 (Int.tmod (IntKind.wrap .u64 2) 3))=3:=by decide
 have a3:IntKind.wrap .i64 (Int.tmod (IntKind.wrap .u64 1) 6)=1:=by decide
 have a4:IntKind.wrap .i64 (1+IntKind.wrap .i64 (Int.tmod (IntKind.wrap .u64 5) 30))=6:=by decide
 have a5:IntKind.wrap .i64 (1+IntKind.wrap .i64 (Int.tmod (IntKind.wrap .u64 5) 15))=6:=by decide
 have z7:¬((7:Int)=0):=by decide
 have z3:¬((3:Int)=0):=by decide
 have z6:¬((6:Int)=0):=by decide
 have z30:¬((30:Int)=0):=by decide
 have z60:¬((60:Int)=0):=by decide
 have z8:¬((8:Int)=0):=by decide
 have z15:¬((15:Int)=0):=by decide
 have c0:(0:Int)≤(n:Int):=by omega
 have c1:(n:Int) * ((8:Nat):Int)≤70368744177664:=by omega
 have c2:(n:Int)≤70368744177664:=by omega
 have c3:(n:Int)≤(n:Int):=by omega
 refine call_intro rfl (by simp only [List.length_cons,List.length_nil];omega) ?_
 rw [a_fin]
 unfold n259b
 obtain ⟨h1,hh1⟩:∃ g,g=h.push (.rows true 9 0 0 [[.int .i64 0,.nils,.nils,.int .i64 0,.int .i64 0,.int .i64 0,.int .i64 0,.int .i64 0,.int .i64 0]]):=⟨_,rfl⟩
 have n1:h1.n=h.n+1:=by rw [hh1,n_push]
 have f1:Fn h h1:=by rw [hh1];exact Fm.push _ _ _
 have g1:h1.g h.n=some (.rows true 9 0 0 [[.int .i64 0,.nils,.nils,.int .i64 0,.int .i64 0,.int .i64 0,.int .i64 0,.int .i64 0,.int .i64 0]]):=by rw [hh1,g_push_eq]
 obtain ⟨h2,hh2⟩:∃ g,g=h1.push (.rows true 1 0 0 (List.replicate n [.int .u64 0])):=⟨_,rfl⟩
 have n2:h2.n=h.n+1+1:=by rw [hh2,n_push,n1]
 have f2:Fn h1 h2:=by rw [hh2];exact Fm.push _ _ _
 have g2:h2.g (h.n+1)=some (.rows true 1 0 0 (List.replicate n [.int .u64 0])):=by rw [hh2,←n1,g_push_eq]
 obtain ⟨h3,hh3⟩:∃ g,g=h2.push (.rows true 1 0 0 [[.int .i64 11],[.int .i64 15],[.int .i64 20]]):=⟨_,rfl⟩
 have n3:h3.n=h.n+1+1+1:=by rw [hh3,n_push,n2]
 have f3:Fn h2 h3:=by rw [hh3];exact Fm.push _ _ _
 have g3:h3.g (h.n+1+1)=some (.rows true 1 0 0 [[.int .i64 11],[.int .i64 15],[.int .i64 20]]):=by rw [hh3,←n2,g_push_eq]
 simp (maxSteps:=200000) -implicitDefEqProofs only [KA,KB,KC,KD,KE,KF,eq_self,ne_eq,↓reduceIte,Nat.reduceLT,Nat.reduceEqDiff,Nat.reduceAdd,Nat.reduceLeDiff,Nat.reduceSub,Nat.reduceMul,reduceCtorEq,hn0,hq0,hh1.symm,hh2.symm,hh3.symm,n1,n2,Int.toNat_natCast,chunks,t7,t8,w1,w2,w3,w4,w5,a1,a2,a3,a4,a5,z7,z3,z6,z30,z60,z8,z15,c0,c1,c2,c3]
 have ar0:Ar u6 1 h3 (h.n+1) 0 [] (List.replicate n 0):=⟨0,Nat.le_refl _,by rw [f3.some g2 (fun e=>e)];simp [u6]⟩
 refine loop_rd (callW_mono N _) (CfO (h.n+1) (h.n+1+1) n q h.n h3) (n:=n) ⟨0,_,_,_,rfl,by omega,rfl,ar0,near_new n,Fm.refl _ _,rfl,rfl,rfl,rfl,rfl,rfl⟩ ?_
 rintro m s ⟨i,l,h4,xs,rfl,hi,hm,ar4,nk4,f4,e14,e15,e16,e17,e61,e62⟩
 by_cases hlt:(i:Int)<n
 ·simp (maxSteps:=200000) -implicitDefEqProofs only [KA,KB,KC,KD,KE,KF,eq_self,ne_eq,↓reduceIte,Nat.reduceLT,Nat.reduceEqDiff,Nat.reduceAdd,Nat.reduceLeDiff,Nat.reduceSub,Nat.reduceMul,reduceCtorEq,e14,e15,e16,e17,e61,e62,hlt]
  refine loop_rd (callW_mono N _) (CfN (h.n+1) (h.n+1+1) n q h.n h3 i) (n:=n) ⟨0,_,_,_,rfl,by omega,rfl,ar4,nk4,f4,rfl,rfl,rfl,rfl,rfl,rfl,rfl,rfl,rfl⟩ ?_
  rintro m s ⟨j,l,h5,ys,rfl,hj,hm,ar5,nk5,f5,e14,e15,e16,e17,e18,e61,e62,e65,e66⟩
  by_cases hlt2:(j:Int)<n
  ·have w6:IntKind.wrap .i64 ((j:Int)+1)=((j+1:Nat):Int):=by rw [wrap_i64 (by omega)];omega
   have w7:IntKind.wrap .i64 ((i:Int)-j)=(i:Int)-j:=wrap_i64 (by omega)
   have w8:IntKind.wrap .i64 ((j:Int)-i)=(j:Int)-i:=wrap_i64 (by omega)
   by_cases hij:(i:Int)=j
   ·simp (maxSteps:=200000) -implicitDefEqProofs only [KA,KB,KC,KD,KE,KF,eq_self,ne_eq,↓reduceIte,Nat.reduceLT,Nat.reduceEqDiff,Nat.reduceAdd,Nat.reduceLeDiff,Nat.reduceSub,Nat.reduceMul,reduceCtorEq,e14,e15,e16,e17,e18,e61,e62,e65,e66,hlt2,hij,w6,rd_n]
    exact ⟨m-1,by omega,j+1,_,_,_,rfl,by omega,by omega,ar5,nk5,f5,rfl,rfl,rfl,rfl,by rw [hij];rfl,rfl,by rw [hij];rfl,rfl,rfl⟩
   by_cases c1:(i:Int)-j≤3
   ·by_cases c2:(j:Int)-i≤3
    ·obtain ⟨x,hx⟩:∃ x,ys[i]? = some x:=⟨_,List.getElem?_eq_getElem (by rw [nk5.1];omega)⟩
     have adr:=ar5.adr (n:=n) (m:=i) (by omega) (some n)
     have row:=ar5.row hx
     simp only [u6] at row
     have hxl:x<2 ^ 64:=Nat.lt_of_lt_of_le (nk5.2 _ _ hx).1 (Nat.pow_le_pow_right (by decide) (by omega))
     have hj64:2 ^ j<2 ^ 64:=Nat.pow_lt_pow_right (by decide) (by omega)
     have o1:=or_k (k:=.u64) rfl hxl hj64
     have w9:IntKind.wrap .u64 (j:Int)=(j:Int):=wrap_u64 (by omega)
     have s1:=shl_one (b:=j) (by omega)
     obtain ⟨h6,st,ar6,f6,n6⟩:=ar5.put (fun _=>rfl) (m:=i) (by rw [nk5.1];omega) (x ||| 2 ^ j)
     simp only [u6] at st
     have nk6:=nk5.set hx (b:=j) (by omega) (by omega)
     simp (maxSteps:=200000) -implicitDefEqProofs only [KA,KB,KC,KD,KE,KF,eq_self,ne_eq,↓reduceIte,Nat.reduceLT,Nat.reduceEqDiff,Nat.reduceAdd,Nat.reduceLeDiff,Nat.reduceSub,Nat.reduceMul,reduceCtorEq,e14,e15,e16,e17,e18,e61,e62,e65,e66,hlt2,hij,w6,w7,w8,c1,c2,CfgC,adr,row,w9,s1,o1,st,rd_n]
     exact ⟨m-1,by omega,j+1,_,_,_,rfl,by omega,by omega,ar6,nk6,f5.trans f6,rfl,rfl,rfl,rfl,rfl,rfl,rfl,rfl,rfl⟩
    ·simp (maxSteps:=200000) -implicitDefEqProofs only [KA,KB,KC,KD,KE,KF,eq_self,ne_eq,↓reduceIte,Nat.reduceLT,Nat.reduceEqDiff,Nat.reduceAdd,Nat.reduceLeDiff,Nat.reduceSub,Nat.reduceMul,reduceCtorEq,e14,e15,e16,e17,e18,e61,e62,e65,e66,hlt2,hij,w6,w7,w8,c1,c2,rd_n]
     exact ⟨m-1,by omega,j+1,_,_,_,rfl,by omega,by omega,ar5,nk5,f5,rfl,rfl,rfl,rfl,rfl,rfl,rfl,rfl,rfl⟩
   ·simp (maxSteps:=200000) -implicitDefEqProofs only [KA,KB,KC,KD,KE,KF,eq_self,ne_eq,↓reduceIte,Nat.reduceLT,Nat.reduceEqDiff,Nat.reduceAdd,Nat.reduceLeDiff,Nat.reduceSub,Nat.reduceMul,reduceCtorEq,e14,e15,e16,e17,e18,e61,e62,e65,e66,hlt2,hij,w6,w7,c1,rd_n]
    exact ⟨m-1,by omega,j+1,_,_,_,rfl,by omega,by omega,ar5,nk5,f5,rfl,rfl,rfl,rfl,rfl,rfl,rfl,rfl,rfl⟩
  ·have w6:IntKind.wrap .i64 ((i:Int)+1)=((i+1:Nat):Int):=by rw [wrap_i64 (by omega)];omega
   simp (maxSteps:=200000) -implicitDefEqProofs only [KA,KB,KC,KD,KE,KF,eq_self,ne_eq,↓reduceIte,Nat.reduceLT,Nat.reduceEqDiff,Nat.reduceAdd,Nat.reduceLeDiff,Nat.reduceSub,Nat.reduceMul,reduceCtorEq,e14,e15,e16,e17,e18,e61,e62,e65,e66,hlt2,w6,rd_n]
   exact ⟨n-i-1,by omega,i+1,_,_,_,rfl,by omega,by omega,ar5,nk5,f5,rfl,rfl,rfl,rfl,rfl,rfl⟩
 ·obtain ⟨lw,hlw,g4⟩:=ar4
  have hlw0:lw=0:=by omega
  subst hlw0
  rw [List.append_nil] at g4
  have F4:Fn h h4:=(f1.trans (f2.trans f3)).fresh f4 (fun j e=>by omega)
  have r4:h4.g h.n=some (.rows true 9 0 0 [[.int .i64 0,.nils,.nils,.int .i64 0,.int .i64 0,.int .i64 0,.int .i64 0,.int .i64 0,.int .i64 0]]):=f4.some ((f2.trans f3).some g1 (fun e=>e)) (by omega)
  have g5:=f4.some g3 (by omega)
  obtain ⟨h5,hh5⟩:∃ g,g=h4.put h.n (.rows true 9 0 0 [CfgC (h.n+1) (h.n+1+1) n q]):=⟨_,rfl⟩
  have r5:h5.g h.n=some (.rows true 9 0 0 [CfgC (h.n+1) (h.n+1+1) n q]):=by rw [hh5,g_put_eq,r4];rfl
  have F5:Fn h h5:=by rw [hh5];exact F4.putNew _ (Nat.le_refl _)
  have g45:h5.g (h.n+1)=some (.rows true 1 0 0 (xs.map u6)):=by rw [hh5,g_put_ne _ _ (by omega)];exact g4
  have g55:h5.g (h.n+1+1)=some (.rows true 1 0 0 [[.int .i64 11],[.int .i64 15],[.int .i64 20]]):=by rw [hh5,g_put_ne _ _ (by omega)];exact g5
  unfold CfgC at hh5 r5
  simp (maxSteps:=200000) -implicitDefEqProofs only [KA,KB,KC,KD,KE,KF,eq_self,ne_eq,↓reduceIte,Nat.reduceLT,Nat.reduceEqDiff,Nat.reduceAdd,Nat.reduceLeDiff,Nat.reduceSub,Nat.reduceMul,reduceCtorEq,e14,e15,e16,e17,e61,e62,hlt,CfgC,r4,hh5.symm,fz_n,fz_r,r5]
  exact hP h5 _ _ n q xs (by omega) (by omega) g45 nk4 g55 F5
end
end
end Camp
