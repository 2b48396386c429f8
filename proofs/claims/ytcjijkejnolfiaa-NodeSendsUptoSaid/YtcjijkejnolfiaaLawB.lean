/- A beacon: its elements, that it may be. A beacon: it may be sent; the bytes of its elements. A beacon's bytes. A beacon's frame as bytes. -/
import Derived.Test.YtcjijkejnolfiaaLaw
set_option linter.unnecessarySimpa false
set_option linter.unusedVariables false
set_option linter.unusedSimpArgs false
set_option linter.unusedSectionVars false
namespace Camp
open Go
section
set_option maxHeartbeats 4000000
def bE (a:Int) (v:CV):Bool→List CV
 | true=>[.int .i64 1,.int .i64 a,.int .i64 0,.int .i64 0,.nils]
 | false=>[.int .i64 3,.int .i64 0,.int .i64 0,.int .i64 0,v]
def bR (a:Int) (v:CV):List (List CV):=[true,false].map (bE a v)
section
variable {k:Nat} {h:Hp} {P:AV→Hp→Prop} {a:Int} {v e:CV} {L:List Int}
theorem bmay_ok (ha:0≤a∧a<1099511627776) (hv:SL h 1 v (L.map encI)) (hL:∀ x∈L,0≤x∧x≤255) (hl:L.length≤16) (b:Bool) (hP:∀ h',Fn h h'→P (.c (.bool true)) h'):callW N (k+5) 330 [.agg (bE a v b)] h P:=by
 cases b with
 | true=>exact iemay_sync (k:=k+2) ha (by decide) hP
 | false=>exact iemay_hops (k:=k) hv hL hl hP
theorem bnot_ok (ha:0≤a∧a<1099511627776) (hv:SL h 1 v (L.map encI)) (hL:∀ x∈L,0≤x∧x≤255) (hl:L.length≤16) (b:Bool) (hP:∀ h',Fn h h'→P (.c (.bool false)) h'):callW N (k+6) 317 [.agg (bE a v b)] h P:=by
 have h5:(bE a v b).length=5:=by cases b <;> rfl
 have t5:(bE a v b).take 5=bE a v b:=List.take_of_length_le (by omega)
 refine call_intro rfl (by simp only [List.length_cons,List.length_nil];omega) ?_
 simp (maxSteps:=200000) -implicitDefEqProofs only [KA,KB,KC,KD,KE,KF,eq_self,ne_eq,↓reduceIte,Nat.reduceLT,Nat.reduceEqDiff,Nat.reduceAdd,Nat.reduceLeDiff,Nat.reduceSub,Nat.reduceMul,reduceCtorEq,h5,t5]
 refine bmay_ok (k:=k) ha hv hL hl b fun h1 f1=>?_
 simp (maxSteps:=200000) -implicitDefEqProofs only [KA,KB,KC,KD,KE,KF,eq_self,ne_eq,↓reduceIte,Nat.reduceLT,Nat.reduceEqDiff,Nat.reduceAdd,Nat.reduceLeDiff,Nat.reduceSub,Nat.reduceMul,reduceCtorEq]
 exact hP _ f1
theorem bnot2_ok (ha:0≤a∧a<1099511627776) (hv:SL h 1 v (L.map encI)) (hL:∀ x∈L,0≤x∧x≤255) (hl:L.length≤16) (b:Bool) (hP:∀ h',Fn h h'→P (.c (.bool false)) h'):callW N (k+6) 319 [.agg (bE a v b)] h P:=by
 have h5:(bE a v b).length=5:=by cases b <;> rfl
 have t5:(bE a v b).take 5=bE a v b:=List.take_of_length_le (by omega)
 refine call_intro rfl (by simp only [List.length_cons,List.length_nil];omega) ?_
 simp (maxSteps:=200000) -implicitDefEqProofs only [KA,KB,KC,KD,KE,KF,eq_self,ne_eq,↓reduceIte,Nat.reduceLT,Nat.reduceEqDiff,Nat.reduceAdd,Nat.reduceLeDiff,Nat.reduceSub,Nat.reduceMul,reduceCtorEq,h5,t5]
 refine bmay_ok (k:=k) ha hv hL hl b fun h1 f1=>?_
 simp (maxSteps:=200000) -implicitDefEqProofs only [KA,KB,KC,KD,KE,KF,eq_self,ne_eq,↓reduceIte,Nat.reduceLT,Nat.reduceEqDiff,Nat.reduceAdd,Nat.reduceLeDiff,Nat.reduceSub,Nat.reduceMul,reduceCtorEq]
 exact hP _ f1
theorem bany_ok {g:Nat} (hg:g=317∨g=319) (ha:0≤a∧a<1099511627776) (hv:SL h 1 v (L.map encI)) (hL:∀ x∈L,0≤x∧x≤255) (hl:L.length≤16) (he:SL h 5 e (bR a v))
 (hP:∀ h',Fn h h'→P (.c (.bool false)) h'):callW N (k+8) 316 [.c e,.c (.fn g [])] h P:=by
 have z1:¬((0:Int)≤-1):=by decide
 refine call_intro rfl (by simp only [List.length_cons,List.length_nil];omega) ?_
 simp (maxSteps:=200000) -implicitDefEqProofs only [KA,KB,KC,KD,KE,KF,eq_self,ne_eq,↓reduceIte,Nat.reduceLT,Nat.reduceEqDiff,Nat.reduceAdd,Nat.reduceLeDiff,Nat.reduceSub,Nat.reduceMul,reduceCtorEq]
 refine indexF_ok (k:=k+6) (f:=329) (sz:=5) (enc:=bE a v) (L:=[true,false]) (p:=fun _=>false) rfl (fun x=>by cases x <;> rfl) ?_ he.sv (by decide) (fun h1 f1 _=>?_) (fun h1 i x _ _ hp _=>by cases hp)
 ·intro x h1 Q f1 hQ
  rcases hg with rfl|rfl
  ·exact bnot_ok (k:=k) ha (hv.new f1) hL hl x fun h2 f2=>hQ h2 f2
  ·exact bnot2_ok (k:=k) ha (hv.new f1) hL hl x fun h2 f2=>hQ h2 f2
 ·simp (maxSteps:=200000) -implicitDefEqProofs only [KA,KB,KC,KD,KE,KF,eq_self,ne_eq,↓reduceIte,Nat.reduceLT,Nat.reduceEqDiff,Nat.reduceAdd,Nat.reduceLeDiff,Nat.reduceSub,Nat.reduceMul,reduceCtorEq,z1]
  exact hP _ f1
theorem clonen_ok (hP:P (.c .nils) h):callW N (k+1) 203 [.c .nils] h P:=by
 refine call_intro rfl (by simp only [List.length_cons,List.length_nil];omega) ?_
 simp (maxSteps:=200000) -implicitDefEqProofs only [KA,KB,KC,KD,KE,KF,eq_self,ne_eq,↓reduceIte,Nat.reduceLT,Nat.reduceEqDiff,Nat.reduceAdd,Nat.reduceLeDiff,Nat.reduceSub,Nat.reduceMul,reduceCtorEq,hP]
theorem find_ok (he:SL h 5 e (bR a v)) (hP:∀ h',Fn h h'→P (.tup [.agg (bE a v true),.c (.bool true)]) h'):callW N (k+2) 336 [.c e,.c (.int .i64 1)] h P:=by
 refine call_intro rfl (by simp only [List.length_cons,List.length_nil];omega) ?_
 rw [a_fin]
 unfold n336b
 obtain ⟨h1,hh1⟩:∃ g,g=h.push (.rows true 5 0 0 [[.int .i64 0,.int .i64 0,.int .i64 0,.int .i64 0,.nils]]):=⟨_,rfl⟩
 have g1:h1.g h.n=some (.rows true 5 0 0 [[.int .i64 0,.int .i64 0,.int .i64 0,.int .i64 0,.nils]]):=by rw [hh1,g_push_eq]
 have f1:Fn h h1:=by rw [hh1];exact Fm.push _ _ _
 have hlen:∀ h':Hp,lenT h' .sl (.v (.c e))=some (2:Int):=fun h'=>by rw [he.len h'];rfl
 have he1:=he.new f1
 obtain ⟨id,tok,j,k1,k2⟩:=he1.at (i:=0) (r:=bE a v true) (by omega) rfl
 have z1:(0:Int)<2:=by decide
 unfold bE at k2
 simp (maxSteps:=200000) -implicitDefEqProofs only [KA,KB,KC,KD,KE,KF,eq_self,ne_eq,↓reduceIte,Nat.reduceLT,Nat.reduceEqDiff,Nat.reduceAdd,Nat.reduceLeDiff,Nat.reduceSub,Nat.reduceMul,reduceCtorEq,hh1.symm,g1,hlen]
 refine loop_rd (callW_mono N _) (fun n s=>n=0∧∃ (l:List (Nat × TV)) (lc:List (List CV)),s=ST 25 l lc h1∧lk l 1 = .v (.c (.int .i64 1))∧lk l 4 = .v (.c (.ptr h.n 0 0 0))∧lk l 8 = .v (.c e)∧lk l 9 = .v (.c (.int .i64 2))∧lk l 10 = .v (.c (.int .i64 0))) (n:=0)
  ⟨rfl,_,_,rfl,rfl,rfl,rfl,rfl,rfl⟩ ?_
 rintro n s ⟨rfl,l,lc,rfl,e1,e4,e8,e9,e10⟩
 simp (maxSteps:=200000) -implicitDefEqProofs only [KA,KB,KC,KD,KE,KF,eq_self,ne_eq,↓reduceIte,Nat.reduceLT,Nat.reduceEqDiff,Nat.reduceAdd,Nat.reduceLeDiff,Nat.reduceSub,Nat.reduceMul,reduceCtorEq,e1,e4,e8,e9,e10,z1,k1,k2]
 refine clonen_ok (k:=k) ?_
 simp (maxSteps:=200000) -implicitDefEqProofs only [KA,KB,KC,KD,KE,KF,eq_self,ne_eq,↓reduceIte,Nat.reduceLT,Nat.reduceEqDiff,Nat.reduceAdd,Nat.reduceLeDiff,Nat.reduceSub,Nat.reduceMul,reduceCtorEq,e1,e4,e8,e9,e10,g1,rd_r,fz_r,bl_r]
 exact hP _ (f1.fresh (Fm.put (S:=fun j=>j=h.n) _ _ rfl) (fun j e=>by omega))
end
end
section
set_option maxHeartbeats 4000000
section
variable {k:Nat} {h:Hp} {P:AV→Hp→Prop} {a:Int} {v e:CV} {L:List Int}
theorem says_ok {s q:Int} (he:SL h 5 e (bR a v)) (hP:∀ h',Fn h h'→P (.c (.bool true)) h'):callW N (k+3) 318 [.agg [.int .i64 3,.int .i64 s,.int .i64 64,.int .i64 q,e,.nils]] h P:=by
 have z1:¬((3:Int)=2):=by decide
 have z2:¬((3:Int)=4):=by decide
 have hl0:∀ h',lenT h' .sl (.v (.c .nils))=some 0:=fun _=>rfl
 refine call_intro rfl (by simp only [List.length_cons,List.length_nil];omega) ?_
 simp (maxSteps:=200000) -implicitDefEqProofs only [KA,KB,KC,KD,KE,KF,eq_self,ne_eq,↓reduceIte,Nat.reduceLT,Nat.reduceEqDiff,Nat.reduceAdd,Nat.reduceLeDiff,Nat.reduceSub,Nat.reduceMul,reduceCtorEq]
 refine find_ok (k:=k) he fun h1 f1=>?_
 unfold bE
 simp (maxSteps:=200000) -implicitDefEqProofs only [KA,KB,KC,KD,KE,KF,eq_self,ne_eq,↓reduceIte,Nat.reduceLT,Nat.reduceEqDiff,Nat.reduceAdd,Nat.reduceLeDiff,Nat.reduceSub,Nat.reduceMul,reduceCtorEq,z1,z2,hl0]
 exact hP _ f1
theorem fnode_ok {x:Int} {r:Bool} (hr:r=decide (0≤x∧x<16)) (hP:P (.c (.bool r)) h):callW N (k+1) 315 [.c (.int .i64 x)] h P:=by
 refine call_intro rfl (by simp only [List.length_cons,List.length_nil];omega) ?_
 by_cases c1:0≤x
 ·by_cases c2:x<16
  ·have:r=true:=by rw [hr];simp [c1,c2]
   subst this
   simp (maxSteps:=200000) -implicitDefEqProofs only [KA,KB,KC,KD,KE,KF,eq_self,ne_eq,↓reduceIte,Nat.reduceLT,Nat.reduceEqDiff,Nat.reduceAdd,Nat.reduceLeDiff,Nat.reduceSub,Nat.reduceMul,reduceCtorEq,c1,c2,hP]
  ·have:r=false:=by rw [hr];simp [c2]
   subst this
   simp (maxSteps:=200000) -implicitDefEqProofs only [KA,KB,KC,KD,KE,KF,eq_self,ne_eq,↓reduceIte,Nat.reduceLT,Nat.reduceEqDiff,Nat.reduceAdd,Nat.reduceLeDiff,Nat.reduceSub,Nat.reduceMul,reduceCtorEq,c1,c2,hP]
 ·have:r=false:=by rw [hr];simp [c1]
  subst this
  simp (maxSteps:=200000) -implicitDefEqProofs only [KA,KB,KC,KD,KE,KF,eq_self,ne_eq,↓reduceIte,Nat.reduceLT,Nat.reduceEqDiff,Nat.reduceAdd,Nat.reduceLeDiff,Nat.reduceSub,Nat.reduceMul,reduceCtorEq,c1,hP]
theorem fmay_ok {q:Int} (hq:0≤q∧q≤255) (ha:0≤a∧a<1099511627776) (hv:SL h 1 v (L.map encI)) (hL:∀ x∈L,0≤x∧x≤255) (hl:L.length≤16) (he:SL h 5 e (bR a v)) (hP:∀ h',Fn h h'→P (.c (.bool true)) h') :
 callW N (k+9) 298 [.agg [.int .i64 3,.int .i64 0,.int .i64 64,.int .i64 q,e,.nils]] h P:=by
 have z1:¬((64:Int)=0):=by decide
 have c1:¬q<0:=by omega
 have c2:¬255<q:=by omega
 have c3:¬((4:Int)<2):=by decide
 have c4:¬((64:Int)<0):=by decide
 have hlen:∀ h':Hp,lenT h' .sl (.v (.c e))=some (2:Int):=fun h'=>by rw [he.len h'];rfl
 have hl0:∀ h',lenT h' .sl (.v (.c .nils))=some 0:=fun _=>rfl
 refine call_intro rfl (by simp only [List.length_cons,List.length_nil];omega) ?_
 simp (maxSteps:=200000) -implicitDefEqProofs only [KA,KB,KC,KD,KE,KF,eq_self,ne_eq,↓reduceIte,Nat.reduceLT,Nat.reduceEqDiff,Nat.reduceAdd,Nat.reduceLeDiff,Nat.reduceSub,Nat.reduceMul,reduceCtorEq]
 refine fnode_ok (k:=k+7) (r:=true) (by decide) ?_
 simp (maxSteps:=200000) -implicitDefEqProofs only [KA,KB,KC,KD,KE,KF,eq_self,ne_eq,↓reduceIte,Nat.reduceLT,Nat.reduceEqDiff,Nat.reduceAdd,Nat.reduceLeDiff,Nat.reduceSub,Nat.reduceMul,reduceCtorEq]
 refine fnode_ok (k:=k+7) (r:=false) (by decide) ?_
 simp (maxSteps:=200000) -implicitDefEqProofs only [KA,KB,KC,KD,KE,KF,eq_self,ne_eq,↓reduceIte,Nat.reduceLT,Nat.reduceEqDiff,Nat.reduceAdd,Nat.reduceLeDiff,Nat.reduceSub,Nat.reduceMul,reduceCtorEq,z1,c1,c2,hlen,c3]
 refine bany_ok (k:=k) (.inl rfl) ha hv hL hl he fun h1 f1=>?_
 simp (maxSteps:=200000) -implicitDefEqProofs only [KA,KB,KC,KD,KE,KF,eq_self,ne_eq,↓reduceIte,Nat.reduceLT,Nat.reduceEqDiff,Nat.reduceAdd,Nat.reduceLeDiff,Nat.reduceSub,Nat.reduceMul,reduceCtorEq,hl0,c4]
 refine says_ok (k:=k+5) (he.new f1) fun h2 f2=>?_
 simp (maxSteps:=200000) -implicitDefEqProofs only [KA,KB,KC,KD,KE,KF,eq_self,ne_eq,↓reduceIte,Nat.reduceLT,Nat.reduceEqDiff,Nat.reduceAdd,Nat.reduceLeDiff,Nat.reduceSub,Nat.reduceMul,reduceCtorEq]
 exact hP _ (f1.trans f2)
def LpI (base w:Nat) (h0:Hp) (v:CV) (W:List Nat) (L:List Int) (n:Nat) (s:St):Prop:=∃ (i:Nat) (l:List (Nat × TV)) (lc:List (List CV)) (h':Hp),s=ST 24 l lc h'∧i≤L.length∧n=L.length-i∧Wr base h' w (W++(L.take i).map Int.toNat)∧Fm (fun j=>base≤j) h0 h'∧
 lk l 1 = .v (.c (.ptr w 0 0 0))∧lk l 13 = .v (.c v)∧lk l 14 = .v (.c (.int .i64 L.length))∧lk l 15 = .v (.c (.int .i64 i))
theorem putlists_ok {base w:Nat} {W:List Nat} (hw:Wr base h w W) (hv:SL h 1 v (L.map encI)) (hb:Bf base v) (hL:∀ x∈L,0≤x∧x≤255) (hl:L.length≤16) (hW:W.length≤100000)
 (hP:∀ h',Wr base h' w (W++L.length::L.map Int.toNat)→Fm (fun j=>base≤j) h h'→P (.tup []) h'):callW N (k+3) 323 [.agg [v],.c (.ptr w 0 0 0)] h P:=by
 have hlen:∀ h':Hp,lenT h' .sl (.v (.c v))=some (L.length:Int):=fun h'=>by rw [hv.len h',List.length_map]
 have w1:IntKind.wrap .u64 (L.length:Int)=(L.length:Int):=wrap_u64 (by omega)
 refine call_intro rfl (by simp only [List.length_cons,List.length_nil];omega) ?_
 simp (maxSteps:=200000) -implicitDefEqProofs only [KA,KB,KC,KD,KE,KF,eq_self,ne_eq,↓reduceIte,Nat.reduceLT,Nat.reduceEqDiff,Nat.reduceAdd,Nat.reduceLeDiff,Nat.reduceSub,Nat.reduceMul,reduceCtorEq,hlen,w1]
 refine wput_ok (k:=k) (m:=1) hw (by omega) (by omega) (by omega) fun h1 k1 f1=>?_
 rw [be_one (by omega)] at k1
 simp (maxSteps:=200000) -implicitDefEqProofs only [KA,KB,KC,KD,KE,KF,eq_self,ne_eq,↓reduceIte,Nat.reduceLT,Nat.reduceEqDiff,Nat.reduceAdd,Nat.reduceLeDiff,Nat.reduceSub,Nat.reduceMul,reduceCtorEq,hlen]
 refine loop_rd (callW_mono N _) (LpI base w h v (W++[L.length]) L) (n:=L.length) ⟨0,_,_,_,rfl,by omega,by omega,by simpa using k1,f1,rfl,rfl,rfl,rfl⟩ ?_
 rintro n s ⟨i,l,lc,h2,rfl,hi,hn,k2,f2,e1,e13,e14,e15⟩
 by_cases hlt:(i:Int)<L.length
 ·obtain ⟨y,hy⟩:∃ y,L[i]? = some y:=⟨_,List.getElem?_eq_getElem (by omega)⟩
  obtain ⟨pid,ptok,pj,a1,a2⟩:=(hv.bf hb f2).at (i:=(i:Int)) (r:=[.int .i64 y]) (by omega) (by simp [encI,hy])
  have hy2:=hL y (List.mem_of_getElem? hy)
  have w2:IntKind.wrap .u64 y=((y.toNat:Nat):Int):=by rw [wrap_u64 (by omega)];omega
  have w3:IntKind.wrap .i64 ((i:Int)+1)=((i+1:Nat):Int):=by rw [wrap_i64 (by omega)];omega
  simp (maxSteps:=200000) -implicitDefEqProofs only [KA,KB,KC,KD,KE,KF,eq_self,ne_eq,↓reduceIte,Nat.reduceLT,Nat.reduceEqDiff,Nat.reduceAdd,Nat.reduceLeDiff,Nat.reduceSub,Nat.reduceMul,reduceCtorEq,e1,e13,e14,e15,hlt,a1,a2,w2]
  refine wput_ok (k:=k) (m:=1) k2 (by omega) (by omega) (by simp only [List.length_append,List.length_map,List.length_take,List.length_singleton];omega) fun h3 k3 f3=>?_
  rw [be_one (by omega)] at k3
  simp (maxSteps:=200000) -implicitDefEqProofs only [KA,KB,KC,KD,KE,KF,eq_self,ne_eq,↓reduceIte,Nat.reduceLT,Nat.reduceEqDiff,Nat.reduceAdd,Nat.reduceLeDiff,Nat.reduceSub,Nat.reduceMul,reduceCtorEq,e1,e13,e14,e15,w3,rd_n]
  refine ⟨n-1,by omega,i+1,_,_,_,rfl,by omega,by omega,?_,f2.trans f3,rfl,rfl,rfl,rfl⟩
  rw [take_snoc hy,List.map_append,List.map_singleton,←List.append_assoc]
  exact k3
 ·simp (maxSteps:=200000) -implicitDefEqProofs only [KA,KB,KC,KD,KE,KF,eq_self,ne_eq,↓reduceIte,Nat.reduceLT,Nat.reduceEqDiff,Nat.reduceAdd,Nat.reduceLeDiff,Nat.reduceSub,Nat.reduceMul,reduceCtorEq,e1,e13,e14,e15,hlt]
  refine hP _ ?_ f2
  rw [List.take_of_length_le (by omega),List.append_assoc] at k2
  exact k2
theorem putsync_ok {base w:Nat} {W:List Nat} {x:Nat} (hw:Wr base h w W) (hx:x<1099511627776) (hW:W.length≤100000)
 (hP:∀ h',Wr base h' w (W++(6::be 5 x++[0]))→Fm (fun j=>base≤j) h h'→P (.tup []) h'):callW N (k+3) 321 [.agg [.int .i64 (x:Nat),.int .i64 0],.c (.ptr w 0 0 0)] h P:=by
 have w1:IntKind.wrap .u64 (x:Int)=(x:Int):=wrap_u64 (by omega)
 have w2:IntKind.wrap .u64 0=((0:Nat):Int):=by decide
 refine call_intro rfl (by simp only [List.length_cons,List.length_nil];omega) ?_
 simp (maxSteps:=200000) -implicitDefEqProofs only [KA,KB,KC,KD,KE,KF,eq_self,ne_eq,↓reduceIte,Nat.reduceLT,Nat.reduceEqDiff,Nat.reduceAdd,Nat.reduceLeDiff,Nat.reduceSub,Nat.reduceMul,reduceCtorEq]
 refine wput_ok (k:=k) (m:=1) (n:=6) hw (by omega) (by omega) (by omega) fun h1 k1 f1=>?_
 simp (maxSteps:=200000) -implicitDefEqProofs only [KA,KB,KC,KD,KE,KF,eq_self,ne_eq,↓reduceIte,Nat.reduceLT,Nat.reduceEqDiff,Nat.reduceAdd,Nat.reduceLeDiff,Nat.reduceSub,Nat.reduceMul,reduceCtorEq,w1]
 refine wput_ok (k:=k) (m:=5) (n:=x) k1 (by omega) (by omega) (by simp only [List.length_append,be_len];omega) fun h2 k2 f2=>?_
 simp (maxSteps:=200000) -implicitDefEqProofs only [KA,KB,KC,KD,KE,KF,eq_self,ne_eq,↓reduceIte,Nat.reduceLT,Nat.reduceEqDiff,Nat.reduceAdd,Nat.reduceLeDiff,Nat.reduceSub,Nat.reduceMul,reduceCtorEq,w2]
 refine wput_ok (k:=k) (m:=1) (n:=0) k2 (by omega) (by omega) (by simp only [List.length_append,be_len];omega) fun h3 k3 f3=>?_
 simp (maxSteps:=200000) -implicitDefEqProofs only [KA,KB,KC,KD,KE,KF,eq_self,ne_eq,↓reduceIte,Nat.reduceLT,Nat.reduceEqDiff,Nat.reduceAdd,Nat.reduceLeDiff,Nat.reduceSub,Nat.reduceMul,reduceCtorEq]
 refine hP _ ?_ (f1.trans (f2.trans f3))
 rw [be_one (by omega),be_one (by omega)] at k3
 simpa using k3
end
end
section
set_option maxHeartbeats 4000000
theorem SL.lt {h:Hp} {sz:Nat} {v:CV} {rows:List (List CV)} (k:SL h sz v rows):Bf h.n v:=by
 rintro id tok off len cap rfl
 obtain ⟨wr,cur,lw,rs,h1,_⟩:=k
 exact lt_of_g h1
def ieB (x:Nat) (L:List Int):List Nat:=2::1::(6::be 5 x++[0])++(3::L.length::L.map Int.toNat)
theorem ieB_len (x:Nat) (L:List Int):(ieB x L).length=11+L.length:=by
 simp [ieB,be_len];omega
theorem toNat_lt {L:List Int} (hL:∀ x∈L,0≤x∧x≤255):∀ c∈L.map Int.toNat,c<256:=by
 intro c hc
 obtain ⟨y,hy,rfl⟩:=List.mem_map.mp hc
 have:=hL y hy
 omega
theorem ieB_lt {x:Nat} {L:List Int} (hL:∀ x∈L,0≤x∧x≤255) (hl:L.length≤16):∀ c∈ieB x L,c<256:=by
 intro c hc
 by_cases h1:c∈be 5 x
 ·exact be_lt x 5 c h1
 ·by_cases h2:c∈L.map Int.toNat
  ·exact toNat_lt hL c h2
  ·simp only [ieB,List.cons_append,List.mem_cons,List.mem_append,List.not_mem_nil,or_false,h1,h2,false_or] at hc
   omega
def ieW (x:Nat) (L:List Int):Nat→List Nat
 | 0=>[2]
 | 1=>2::1::(6::be 5 x++[0])
 | _=>ieB x L
section
variable {k:Nat} {h:Hp} {P:AV→Hp→Prop} {x:Nat} {v e:CV} {L:List Int}
def IeI (base w:Nat) (h0:Hp) (e:CV) (x:Nat) (L:List Int) (n:Nat) (s:St):Prop:=∃ (i:Nat) (l:List (Nat × TV)) (lc:List (List CV)) (h':Hp),s=ST 39 l lc h'∧i≤2∧n=2-i∧Wr base h' w (ieW x L i)∧Fm (fun j=>base≤j) h0 h'∧
 lk l 4 = .v (.c (.ptr w 0 0 0))∧lk l 21 = .v (.c e)∧lk l 22 = .v (.c (.int .i64 2))∧lk l 23 = .v (.c (.int .i64 i))
theorem iencode_ok (hx:x<1099511627776) (hv:SL h 1 v (L.map encI)) (hL:∀ x∈L,0≤x∧x≤255) (hl:L.length≤16) (he:SL h 5 e (bR x v))
 (hP:∀ h' u,SL h' 1 u ((ieB x L).map eB)→Fn h h'→P (.tup [.c u,.c (.int .i64 0)]) h'):callW N (k+9) 299 [.c e] h P:=by
 have hlen:∀ h':Hp,lenT h' .sl (.v (.c e))=some (2:Int):=fun h'=>by rw [he.len h'];rfl
 have c1:¬((4:Int)<2):=by decide
 have w2:IntKind.wrap .u64 2=((2:Nat):Int):=by decide
 have z1:¬(149=153):=by decide
 have z2:¬(151=153):=by decide
 have z3:¬(153=149):=by decide
 have z4:¬(153=151):=by decide
 refine call_intro rfl (by simp only [List.length_cons,List.length_nil];omega) ?_
 simp (maxSteps:=200000) -implicitDefEqProofs only [KA,KB,KC,KD,KE,KF,eq_self,ne_eq,↓reduceIte,Nat.reduceLT,Nat.reduceEqDiff,Nat.reduceAdd,Nat.reduceLeDiff,Nat.reduceSub,Nat.reduceMul,reduceCtorEq,hlen,c1]
 refine bany_ok (k:=k) (.inr rfl) (by omega) hv hL hl he fun h1 f1=>?_
 obtain ⟨h2,hh2⟩:∃ g,g=h1.push (.rows true 2 0 0 [[.nils,.int .i64 0]]):=⟨_,rfl⟩
 have f2:Fn h1 h2:=by rw [hh2];exact Fm.push _ _ _
 have k2:Wr h1.n h2 h1.n []:=⟨Nat.le_refl _,.nils,by rw [hh2,g_push_eq];rfl,rfl,fun j hj=>hj.elim⟩
 simp (maxSteps:=200000) -implicitDefEqProofs only [KA,KB,KC,KD,KE,KF,eq_self,ne_eq,↓reduceIte,Nat.reduceLT,Nat.reduceEqDiff,Nat.reduceAdd,Nat.reduceLeDiff,Nat.reduceSub,Nat.reduceMul,reduceCtorEq,hh2.symm,hlen,w2]
 refine wput_ok (k:=k+6) (m:=1) (n:=2) k2 (by omega) (by omega) (by simp) fun h3 k3 f3=>?_
 rw [be_one (by omega)] at k3
 simp (maxSteps:=200000) -implicitDefEqProofs only [KA,KB,KC,KD,KE,KF,eq_self,ne_eq,↓reduceIte,Nat.reduceLT,Nat.reduceEqDiff,Nat.reduceAdd,Nat.reduceLeDiff,Nat.reduceSub,Nat.reduceMul,reduceCtorEq,hlen]
 have fall:Fm (fun j=>h1.n≤j) h1 h3:=(f2.mono (fun _ _ e=>e.elim)).trans f3
 refine loop_rd (callW_mono N _) (IeI h1.n h1.n h1 e x L) (n:=2) ⟨0,_,_,_,rfl,by omega,rfl,k3,fall,rfl,rfl,rfl,rfl⟩ ?_
 rintro n s ⟨i,l,lc,h4,rfl,hi,hn,k4,f4,e4,e21,e22,e23⟩
 have he4:=(he.new f1).bf (he.new f1).lt f4
 have hv4:=(hv.new f1).bf (hv.new f1).lt f4
 have fin1:Fn h h1:=f1
 rcases Nat.lt_or_ge i 2 with hi2|hi2
 ·have hlt:(i:Int)<2:=by omega
  rcases (by omega:i=0∨i=1) with rfl|rfl
  ·obtain ⟨id,tok,j,a1,a2⟩:=he4.at (i:=((0:Nat):Int)) (r:=bE x v true) (by omega) rfl
   unfold bE at a2
   have w5:IntKind.wrap .u64 1=((1:Nat):Int):=by decide
   have w6:IntKind.wrap .i64 (((0:Nat):Int)+1)=((1:Nat):Int):=by decide
   simp (maxSteps:=200000) -implicitDefEqProofs only [KA,KB,KC,KD,KE,KF,eq_self,ne_eq,↓reduceIte,Nat.reduceLT,Nat.reduceEqDiff,Nat.reduceAdd,Nat.reduceLeDiff,Nat.reduceSub,Nat.reduceMul,reduceCtorEq,e4,e21,e22,e23,hlt,a1,a2,w5]
   refine wput_ok (k:=k+6) (m:=1) (n:=1) k4 (by omega) (by omega) (by simp [ieW]) fun h5 k5 f5=>?_
   rw [be_one (by omega)] at k5
   simp (maxSteps:=200000) -implicitDefEqProofs only [KA,KB,KC,KD,KE,KF,eq_self,ne_eq,↓reduceIte,Nat.reduceLT,Nat.reduceEqDiff,Nat.reduceAdd,Nat.reduceLeDiff,Nat.reduceSub,Nat.reduceMul,reduceCtorEq]
   refine of_sync (k:=k+7) ?_
   simp (maxSteps:=200000) -implicitDefEqProofs only [KA,KB,KC,KD,KE,KF,eq_self,ne_eq,↓reduceIte,Nat.reduceLT,Nat.reduceEqDiff,Nat.reduceAdd,Nat.reduceLeDiff,Nat.reduceSub,Nat.reduceMul,reduceCtorEq]
   refine putsync_ok (k:=k+5) k5 hx (by simp [ieW]) fun h6 k6 f6=>?_
   simp (maxSteps:=200000) -implicitDefEqProofs only [KA,KB,KC,KD,KE,KF,eq_self,ne_eq,↓reduceIte,Nat.reduceLT,Nat.reduceEqDiff,Nat.reduceAdd,Nat.reduceLeDiff,Nat.reduceSub,Nat.reduceMul,reduceCtorEq,e4,e21,e22,e23,w6,rd_n]
   exact ⟨1,by omega,1,_,_,_,rfl,by omega,by omega,by simpa [ieW] using k6,f4.trans (f5.trans f6),rfl,rfl,rfl,rfl⟩
  ·obtain ⟨id,tok,j,a1,a2⟩:=he4.at (i:=((1:Nat):Int)) (r:=bE x v false) (by omega) rfl
   unfold bE at a2
   have w5:IntKind.wrap .u64 3=((3:Nat):Int):=by decide
   have w6:IntKind.wrap .i64 (((1:Nat):Int)+1)=((2:Nat):Int):=by decide
   simp (maxSteps:=200000) -implicitDefEqProofs only [KA,KB,KC,KD,KE,KF,eq_self,ne_eq,↓reduceIte,Nat.reduceLT,Nat.reduceEqDiff,Nat.reduceAdd,Nat.reduceLeDiff,Nat.reduceSub,Nat.reduceMul,reduceCtorEq,e4,e21,e22,e23,hlt,a1,a2,w5]
   refine wput_ok (k:=k+6) (m:=1) (n:=3) k4 (by omega) (by omega) (by simp [ieW,be_len]) fun h5 k5 f5=>?_
   rw [be_one (by omega)] at k5
   simp (maxSteps:=200000) -implicitDefEqProofs only [KA,KB,KC,KD,KE,KF,eq_self,ne_eq,↓reduceIte,Nat.reduceLT,Nat.reduceEqDiff,Nat.reduceAdd,Nat.reduceLeDiff,Nat.reduceSub,Nat.reduceMul,reduceCtorEq]
   refine of_hops (k:=k+7) ?_
   simp (maxSteps:=200000) -implicitDefEqProofs only [KA,KB,KC,KD,KE,KF,eq_self,ne_eq,↓reduceIte,Nat.reduceLT,Nat.reduceEqDiff,Nat.reduceAdd,Nat.reduceLeDiff,Nat.reduceSub,Nat.reduceMul,reduceCtorEq,z1,z2,z3,z4]
   refine putlists_ok (k:=k+5) k5 (hv4.bf (hv.new f1).lt f5) (hv.new f1).lt hL hl (by simp [ieW,be_len]) fun h6 k6 f6=>?_
   simp (maxSteps:=200000) -implicitDefEqProofs only [KA,KB,KC,KD,KE,KF,eq_self,ne_eq,↓reduceIte,Nat.reduceLT,Nat.reduceEqDiff,Nat.reduceAdd,Nat.reduceLeDiff,Nat.reduceSub,Nat.reduceMul,reduceCtorEq,e4,e21,e22,e23,w6,rd_n]
   exact ⟨0,by omega,2,_,_,_,rfl,by omega,by omega,by simpa [ieW,ieB] using k6,f4.trans (f5.trans f6),rfl,rfl,rfl,rfl⟩
 ·have hlt:¬(i:Int)<2:=by omega
  have hi3:i=2:=by omega
  subst hi3
  simp (maxSteps:=200000) -implicitDefEqProofs only [KA,KB,KC,KD,KE,KF,eq_self,ne_eq,↓reduceIte,Nat.reduceLT,Nat.reduceEqDiff,Nat.reduceAdd,Nat.reduceLeDiff,Nat.reduceSub,Nat.reduceMul,reduceCtorEq,e4,e21,e22,e23,hlt]
  refine wbytes_ok (k:=k+7) k4 (by simp [ieW,ieB]) (by show (ieB x L).length≤_;rw [ieB_len];omega) fun h5 u k5 k6 f5=>?_
  simp (maxSteps:=200000) -implicitDefEqProofs only [KA,KB,KC,KD,KE,KF,eq_self,ne_eq,↓reduceIte,Nat.reduceLT,Nat.reduceEqDiff,Nat.reduceAdd,Nat.reduceLeDiff,Nat.reduceSub,Nat.reduceMul,reduceCtorEq]
  exact hP _ _ k5 ((f1.fresh f4 (fun j hj=>Nat.le_trans f1.n hj)).trans f5)
end
end
section
set_option maxHeartbeats 4000000
def bcB (q x:Nat) (L:List Int):List Nat:=[197,3,0,64,q]++((ieB x L).length::ieB x L)++[0]
theorem bcB_lt {q x:Nat} {L:List Int} (hq:q<256) (hL:∀ x∈L,0≤x∧x≤255) (hl:L.length≤16):∀ c∈bcB q x L,c<256:=by
 intro c hc
 by_cases h2:c∈ieB x L
 ·exact ieB_lt hL hl c h2
 ·simp only [bcB,List.cons_append,List.nil_append,List.mem_cons,List.mem_append,List.not_mem_nil,or_false,h2,false_or,ieB_len] at hc
  omega
def hdI (q:Nat):Nat→Int
 | 0=>197
 | 1=>3
 | 2=>0
 | 3=>64
 | _=>q
def hdN (q:Nat):Nat→Nat
 | 0=>197
 | 1=>3
 | 2=>0
 | 3=>64
 | _=>q
theorem hd_eq (q i:Nat):hdI q i=((hdN q i:Nat):Int):=by
 unfold hdI hdN;split <;> rfl
theorem hd_lt {q:Nat} (hq:q<256) (i:Nat):hdN q i<256:=by
 unfold hdN;split <;> omega
section
variable {k:Nat} {h:Hp} {P:AV→Hp→Prop} {x q:Nat} {v e:CV} {L:List Int}
def FeI (base w:Nat) (h0:Hp) (u:CV) (q:Nat) (n:Nat) (s:St):Prop:=∃ (i:Nat) (l:List (Nat × TV)) (lc:List (List CV)) (h':Hp),s=ST 61 l lc h'∧i≤5∧n=5-i∧Wr base h' w (([197,3,0,64,q]:List Nat).take i)∧Fm (fun j=>base≤j) h0 h'∧
 lc.length=1∧(∃ c0 c1 c2 c3 c4,lc=[[c0,c1,c2,c3,c4,.nils]])∧
 lk l 1 = .lp 0 0∧lk l 4 = .v (.c u)∧lk l 6 = .v (.c (.ptr w 0 0 0))∧lk l 33 = .v (.agg [.int .i64 197,.int .i64 3,.int .i64 0,.int .i64 64,.int .i64 q])∧lk l 34 = .v (.c (.int .i64 i))
def FeW (q x:Nat) (L:List Int):Nat→List Nat
 | 0=>[197,3,0,64,q]
 | 1=>[197,3,0,64,q]++((ieB x L).length::ieB x L)
 | _=>bcB q x L
def FeJ (base w:Nat) (h0:Hp) (u:CV) (q x:Nat) (L:List Int) (n:Nat) (s:St):Prop:=∃ (i:Nat) (l:List (Nat × TV)) (lc:List (List CV)) (h':Hp),s=ST 61 l lc h'∧i≤2∧n=2-i∧Wr base h' w (FeW q x L i)∧Fm (fun j=>base≤j) h0 h'∧
 lk l 6 = .v (.c (.ptr w 0 0 0))∧lk l 45 = .v (.agg [u,.nils])∧lk l 46 = .v (.c (.int .i64 i))
theorem hd_at (q:Nat) {i:Nat} (hi:i<5):([.int .i64 197,.int .i64 3,.int .i64 0,.int .i64 64,.int .i64 q]:List CV)[i]? = some (.int .i64 (hdN q i:Nat)):=by
 rcases (by omega:i=0∨i=1∨i=2∨i=3∨i=4) with rfl|rfl|rfl|rfl|rfl <;> rfl
theorem hd_take (q:Nat) {i:Nat} (hi:i<5):([197,3,0,64,q]:List Nat).take (i+1)=([197,3,0,64,q]:List Nat).take i++[hdN q i]:=by
 rcases (by omega:i=0∨i=1∨i=2∨i=3∨i=4) with rfl|rfl|rfl|rfl|rfl <;> rfl
theorem fencode_ok (hq:q<256) (hx:x<1099511627776) (hv:SL h 1 v (L.map encI)) (hL:∀ x∈L,0≤x∧x≤255) (hl:L.length≤16) (he:SL h 5 e (bR x v))
 (hP:∀ h' u,SL h' 1 u ((apx (bcB q x L)).map eB)→(∀ id tok off len cap,u = .sl id tok off len cap→cap=none)→Fn h h'→P (.tup [.c u,.c (.int .i64 0)]) h'):callW N (k+10) 280 [.agg [.int .i64 3,.int .i64 0,.int .i64 64,.int .i64 q,e,.nils]] h P:=by
 refine call_intro rfl (by simp only [List.length_cons,List.length_nil];omega) ?_
 simp (maxSteps:=200000) -implicitDefEqProofs only [KA,KB,KC,KD,KE,KF,eq_self,ne_eq,↓reduceIte,Nat.reduceLT,Nat.reduceEqDiff,Nat.reduceAdd,Nat.reduceLeDiff,Nat.reduceSub,Nat.reduceMul,reduceCtorEq]
 refine fmay_ok (k:=k) (by omega) (by omega) hv hL hl he fun h1 f1=>?_
 simp (maxSteps:=200000) -implicitDefEqProofs only [KA,KB,KC,KD,KE,KF,eq_self,ne_eq,↓reduceIte,Nat.reduceLT,Nat.reduceEqDiff,Nat.reduceAdd,Nat.reduceLeDiff,Nat.reduceSub,Nat.reduceMul,reduceCtorEq]
 refine iencode_ok (k:=k) hx (hv.new f1) hL hl (he.new f1) fun h2 u ku f2=>?_
 obtain ⟨h3,hh3⟩:∃ g,g=h2.push (.rows true 2 0 0 [[.nils,.int .i64 0]]):=⟨_,rfl⟩
 have f3:Fn h2 h3:=by rw [hh3];exact Fm.push _ _ _
 have k3:Wr h2.n h3 h2.n []:=⟨Nat.le_refl _,.nils,by rw [hh3,g_push_eq];rfl,rfl,fun j hj=>hj.elim⟩
 simp (maxSteps:=200000) -implicitDefEqProofs only [KA,KB,KC,KD,KE,KF,eq_self,ne_eq,↓reduceIte,Nat.reduceLT,Nat.reduceEqDiff,Nat.reduceAdd,Nat.reduceLeDiff,Nat.reduceSub,Nat.reduceMul,reduceCtorEq,hh3.symm]
 refine loop_rd (callW_mono N _) (FeI h2.n h2.n h2 u q) (n:=5) ⟨0,_,_,_,rfl,by omega,rfl,k3,f3.mono (fun _ _ e=>e.elim),rfl,⟨_,_,_,_,_,rfl⟩,rfl,rfl,rfl,rfl,rfl⟩ ?_
 rintro n s ⟨i,l,lc,h4,rfl,hi,hn,k4,f4,hlc,⟨c0,c1,c2,c3,c4,rfl⟩,e1,e4,e6,e33,e34⟩
 by_cases hlt:(i:Int)<5
 ·have hi5:i<5:=by omega
  have at1:=hd_at q hi5
  have hb:=hd_lt hq i
  have w5:IntKind.wrap .u64 ((hdN q i:Nat):Int)=((hdN q i:Nat):Int):=wrap_u64 (by omega)
  have w6:IntKind.wrap .i64 ((i:Int)+1)=((i+1:Nat):Int):=by rw [wrap_i64 (by omega)];omega
  have i0:(0:Int)≤(i:Int):=by omega
  have i5:(i:Int)<((5:Nat):Int):=by omega
  have t1:takeCells none [.int .i64 197,.int .i64 3,.int .i64 0,.int .i64 64,.int .i64 (q:Int)] i=some (.c (.int .i64 ((hdN q i:Nat):Int))):=by simp only [takeCells,at1,Option.map_some]
  simp (maxSteps:=200000) -implicitDefEqProofs only [KA,KB,KC,KD,KE,KF,eq_self,ne_eq,↓reduceIte,Nat.reduceLT,Nat.reduceEqDiff,Nat.reduceAdd,Nat.reduceLeDiff,Nat.reduceSub,Nat.reduceMul,reduceCtorEq,e1,e4,e6,e33,e34,hlt,i0,i5,Int.toNat_natCast,Nat.mul_one,at1,w5]
  refine wput_ok (k:=k+7) (m:=1) k4 (by omega) (by omega) (by rw [List.length_take];omega) fun h5 k5 f5=>?_
  rw [be_one hb] at k5
  simp (maxSteps:=200000) -implicitDefEqProofs only [KA,KB,KC,KD,KE,KF,eq_self,ne_eq,↓reduceIte,Nat.reduceLT,Nat.reduceEqDiff,Nat.reduceAdd,Nat.reduceLeDiff,Nat.reduceSub,Nat.reduceMul,reduceCtorEq,e1,e4,e6,e33,e34,w6,rd_n]
  exact ⟨n-1,by omega,i+1,_,_,_,rfl,by omega,by omega,by rw [hd_take q hi5];exact k5,f4.trans f5,rfl,⟨_,_,_,_,_,rfl⟩,rfl,rfl,rfl,rfl,rfl⟩
 ·have hi5:i=5:=by omega
  subst hi5
  simp (maxSteps:=200000) -implicitDefEqProofs only [KA,KB,KC,KD,KE,KF,eq_self,ne_eq,↓reduceIte,Nat.reduceLT,Nat.reduceEqDiff,Nat.reduceAdd,Nat.reduceLeDiff,Nat.reduceSub,Nat.reduceMul,reduceCtorEq,e1,e4,e6,e33,e34,hlt]
  refine loop_rd (callW_mono N _) (FeJ h2.n h2.n h2 u q x L) (n:=2) ⟨0,_,_,_,rfl,by omega,rfl,by simpa [FeW] using k4,f4,rfl,rfl,rfl⟩ ?_
  rintro n s ⟨j,l,lc,h5,rfl,hj,hn,k5,f5,e6,e45,e46⟩
  rcases Nat.lt_or_ge j 2 with hj2|hj2
  ·have hlt:(j:Int)<2:=by omega
   rcases (by omega:j=0∨j=1) with rfl|rfl
   ·have ku5:=ku.bf ku.lt f5
    have hlen:∀ h':Hp,lenT h' .sl (.v (.c u))=some ((ieB x L).length:Int):=fun h'=>by rw [ku.len h',List.length_map]
    have hil:=ieB_len x L
    have w5:IntKind.wrap .u64 ((ieB x L).length:Int)=((ieB x L).length:Int):=wrap_u64 (by omega)
    have w6:IntKind.wrap .i64 (((0:Nat):Int)+1)=((1:Nat):Int):=by decide
    have i0:(0:Int)≤((0:Nat):Int):=by decide
    have i2:((0:Nat):Int)<((2:Nat):Int):=by decide
    simp (maxSteps:=200000) -implicitDefEqProofs only [KA,KB,KC,KD,KE,KF,eq_self,ne_eq,↓reduceIte,Nat.reduceLT,Nat.reduceEqDiff,Nat.reduceAdd,Nat.reduceLeDiff,Nat.reduceSub,Nat.reduceMul,reduceCtorEq,e6,e45,e46,hlt,i0,i2,Int.toNat_natCast,Nat.mul_one,hlen,w5]
    refine wput_ok (k:=k+7) (m:=1) k5 (by omega) (by omega) (by simp [FeW]) fun h6 k6 f6=>?_
    rw [be_one (by omega)] at k6
    simp (maxSteps:=200000) -implicitDefEqProofs only [KA,KB,KC,KD,KE,KF,eq_self,ne_eq,↓reduceIte,Nat.reduceLT,Nat.reduceEqDiff,Nat.reduceAdd,Nat.reduceLeDiff,Nat.reduceSub,Nat.reduceMul,reduceCtorEq,e6,e45,e46]
    refine wtext_ok (k:=k+6) k6 (ku5.bf ku.lt f6) ku.lt (ieB_lt hL hl) (by simp only [FeW,List.length_append,List.length_cons,List.length_nil];omega) fun h7 k7 f7=>?_
    simp (maxSteps:=200000) -implicitDefEqProofs only [KA,KB,KC,KD,KE,KF,eq_self,ne_eq,↓reduceIte,Nat.reduceLT,Nat.reduceEqDiff,Nat.reduceAdd,Nat.reduceLeDiff,Nat.reduceSub,Nat.reduceMul,reduceCtorEq,e6,e45,e46,w6,rd_n]
    exact ⟨1,by omega,1,_,_,_,rfl,by omega,by omega,by simpa [FeW] using k7,f5.trans (f6.trans f7),rfl,rfl,rfl⟩
   ·have hl0:∀ h',lenT h' .sl (.v (.c .nils))=some 0:=fun _=>rfl
    have w5:IntKind.wrap .u64 0=((0:Nat):Int):=by decide
    have w6:IntKind.wrap .i64 (((1:Nat):Int)+1)=((2:Nat):Int):=by decide
    have i0:(0:Int)≤((1:Nat):Int):=by decide
    have i2:((1:Nat):Int)<((2:Nat):Int):=by decide
    have hil:=ieB_len x L
    simp (maxSteps:=200000) -implicitDefEqProofs only [KA,KB,KC,KD,KE,KF,eq_self,ne_eq,↓reduceIte,Nat.reduceLT,Nat.reduceEqDiff,Nat.reduceAdd,Nat.reduceLeDiff,Nat.reduceSub,Nat.reduceMul,reduceCtorEq,e6,e45,e46,hlt,i0,i2,Int.toNat_natCast,Nat.mul_one,hl0,w5]
    refine wput_ok (k:=k+7) (m:=1) (n:=0) k5 (by omega) (by omega) (by simp only [FeW,List.length_append,List.length_cons,List.length_nil];omega) fun h6 k6 f6=>?_
    rw [be_one (by omega)] at k6
    simp (maxSteps:=200000) -implicitDefEqProofs only [KA,KB,KC,KD,KE,KF,eq_self,ne_eq,↓reduceIte,Nat.reduceLT,Nat.reduceEqDiff,Nat.reduceAdd,Nat.reduceLeDiff,Nat.reduceSub,Nat.reduceMul,reduceCtorEq,e6,e45,e46]
    refine wtext_ok (k:=k+6) (B:=[]) k6 rfl (by rintro _ _ _ _ _ ⟨⟩) (by simp) (by simp only [FeW,List.length_append,List.length_cons,List.length_nil];omega) fun h7 k7 f7=>?_
    simp (maxSteps:=200000) -implicitDefEqProofs only [KA,KB,KC,KD,KE,KF,eq_self,ne_eq,↓reduceIte,Nat.reduceLT,Nat.reduceEqDiff,Nat.reduceAdd,Nat.reduceLeDiff,Nat.reduceSub,Nat.reduceMul,reduceCtorEq,e6,e45,e46,w6,rd_n]
    exact ⟨0,by omega,2,_,_,_,rfl,by omega,by omega,by simpa [FeW,bcB] using k7,f5.trans (f6.trans f7),rfl,rfl,rfl⟩
  ·have hlt:¬(j:Int)<2:=by omega
   have hj3:j=2:=by omega
   subst hj3
   have hil:=ieB_len x L
   have hbl:(bcB q x L).length≤100:=by simp only [bcB,List.length_append,List.length_cons,List.length_nil];omega
   simp (maxSteps:=200000) -implicitDefEqProofs only [KA,KB,KC,KD,KE,KF,eq_self,ne_eq,↓reduceIte,Nat.reduceLT,Nat.reduceEqDiff,Nat.reduceAdd,Nat.reduceLeDiff,Nat.reduceSub,Nat.reduceMul,reduceCtorEq,e6,e45,e46,hlt]
   refine wbytes_ok (k:=k+8) k5 (by simp [FeW,bcB]) (by show (bcB q x L).length≤_;omega) fun h6 u2 k6 k7 f6=>?_
   simp (maxSteps:=200000) -implicitDefEqProofs only [KA,KB,KC,KD,KE,KF,eq_self,ne_eq,↓reduceIte,Nat.reduceLT,Nat.reduceEqDiff,Nat.reduceAdd,Nat.reduceLeDiff,Nat.reduceSub,Nat.reduceMul,reduceCtorEq]
   refine append_ok (k:=k+7) (L:=bcB q x L) k6 (by simp [bcB]) (bcB_lt hq hL hl) (by omega) fun h7 u3 k8 c8 f7=>?_
   simp (maxSteps:=200000) -implicitDefEqProofs only [KA,KB,KC,KD,KE,KF,eq_self,ne_eq,↓reduceIte,Nat.reduceLT,Nat.reduceEqDiff,Nat.reduceAdd,Nat.reduceLeDiff,Nat.reduceSub,Nat.reduceMul,reduceCtorEq]
   exact hP _ _ k8 c8 (((f1.trans f2).fresh f5 (fun j hj=>Nat.le_trans (f1.trans f2).n hj)).trans (f6.trans f7))
end
end
end Camp
