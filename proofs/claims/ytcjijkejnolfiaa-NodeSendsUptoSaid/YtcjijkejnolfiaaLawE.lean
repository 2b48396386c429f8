/- The law's config may be. The law's node. The law's calls: few. The law of what the root sends. Rows of calls as arguments. -/
import Derived.Test.YtcjijkejnolfiaaLawD
import Derived.Test.YtcjijkejnolfiaaEngF
set_option linter.unnecessarySimpa false
set_option linter.unusedVariables false
set_option linter.unusedSimpArgs false
set_option linter.unusedSectionVars false
namespace Camp
open Go
section
set_option maxHeartbeats 8000000
section
variable {k:Nat} {h:Hp} {P:AV→Hp→Prop} {nr hp n q:Nat} {xs:List Nat}
theorem in_true {a lo hi:Int} (ha:lo≤a∧a≤hi) (hP:P (.c (.bool true)) h):callW N (k+1) 267 [.c (.int .i64 a),.c (.int .i64 lo),.c (.int .i64 hi)] h P:=
 in_ok fun r hr=>by rw [hr.mpr ha];exact hP
theorem HpL.abc:HpL [11,15,20]:=⟨by decide,by decide,by decide,by decide⟩
theorem bit_and (x:Nat):(x &&& 1)=x % 2:=by
 have:=Nat.and_two_pow_sub_one_eq_mod x 1
 simpa using this
theorem bit_zero {x i:Nat} (hx:x.testBit i=false):x / 2 ^ i % 2=0:=by
 rw [Nat.testBit_eq_decide_div_mod_eq] at hx
 have:=of_decide_eq_false hx
 omega
def MyI (h0:Hp) (nr hp n q:Nat) (m:Nat) (s:St):Prop:=∃ (i:Nat) (l:List (Nat × TV)),s=ST 72 l [CfgC nr hp n q] h0∧i≤n∧m=n-i∧
 lk l 1 = .lp 0 0∧lk l 24 = .v (.c (.sl nr 0 0 n (some n)))∧lk l 25 = .v (.c (.int .i64 n))∧lk l 26 = .v (.c (.int .i64 i))
theorem may_ok (hn:2≤n∧n≤8) (hq:1≤q∧q≤8) (g1:h.g nr=some (.rows true 1 0 0 (xs.map u6))) (nk:NearOk n xs) (g2:h.g hp=some (.rows true 1 0 0 [[.int .i64 11],[.int .i64 15],[.int .i64 20]]))
 (hP:P (.c (.bool true)) h):callW N (k+4) 266 [.agg (CfgC nr hp n q)] h P:=by
 have ar:Ar u6 1 h nr 0 [] xs:=⟨0,Nat.le_refl _,by rw [List.append_nil];exact g1⟩
 have sn:SL h 1 (.sl nr 0 0 n (some n)) (xs.map u6):=⟨true,0,0,_,g1,Nat.le_refl _,by rw [List.length_map,nk.1];omega,by rw [List.drop_zero,List.take_of_length_le (by rw [List.length_map,nk.1];omega)]⟩
 have sh:SL h 1 (.sl hp 0 0 3 (some 3)) ([11,15,20].map encI):=⟨true,0,0,_,g2,Nat.le_refl _,by decide,rfl⟩
 have hlen:∀ h':Hp,lenT h' .sl (.v (.c (.sl nr 0 0 n (some n))))=some (n:Int):=fun h'=>by rw [sn.len h',List.length_map,nk.1]
 refine call_intro rfl (by simp only [List.length_cons,List.length_nil];omega) ?_
 simp (maxSteps:=200000) -implicitDefEqProofs only [KA,KB,KC,KD,KE,KF,eq_self,ne_eq,↓reduceIte,Nat.reduceLT,Nat.reduceEqDiff,Nat.reduceAdd,Nat.reduceLeDiff,Nat.reduceSub,Nat.reduceMul,reduceCtorEq,CfgC]
 refine in_true (k:=k+2) (by omega) ?_
 simp (maxSteps:=200000) -implicitDefEqProofs only [KA,KB,KC,KD,KE,KF,eq_self,ne_eq,↓reduceIte,Nat.reduceLT,Nat.reduceEqDiff,Nat.reduceAdd,Nat.reduceLeDiff,Nat.reduceSub,Nat.reduceMul,reduceCtorEq,hlen]
 refine hmay_ok (k:=k) sh (by rintro id tok off len c ⟨⟩;omega) HpL.abc ?_
 simp (maxSteps:=200000) -implicitDefEqProofs only [KA,KB,KC,KD,KE,KF,eq_self,ne_eq,↓reduceIte,Nat.reduceLT,Nat.reduceEqDiff,Nat.reduceAdd,Nat.reduceLeDiff,Nat.reduceSub,Nat.reduceMul,reduceCtorEq,hlen]
 refine loop_rd (callW_mono N _) (MyI h nr hp n q) (n:=n) ⟨0,_,rfl,by omega,rfl,rfl,rfl,rfl,rfl⟩ ?_
 rintro m s ⟨i,l,rfl,hi,hm,e1,e24,e25,e26⟩
 by_cases hlt:(i:Int)<n
 ·obtain ⟨x,hx⟩:∃ x,xs[i]? = some x:=⟨_,List.getElem?_eq_getElem (by rw [nk.1];omega)⟩
  have adr:=ar.adr (n:=n) (m:=i) (by omega) (some n)
  have row:=ar.row hx
  simp only [u6] at row
  have hxn:=(nk.2 _ _ hx).1
  have hxl:x<2 ^ 64:=Nat.lt_of_lt_of_le hxn (Nat.pow_le_pow_right (by decide) (by omega))
  have r1:=shr_n .num .u64 .i64 x i (by show i≤64;omega)
  have hxi:x / 2 ^ i<2 ^ 64:=Nat.lt_of_le_of_lt (Nat.div_le_self _ _) hxl
  have r2:IntKind.wrap .u64 ((BitVec.ofInt (IntKind.bits .u64) ((x / 2 ^ i:Nat):Int) &&& BitVec.ofInt (IntKind.bits .u64) 1).toNat:Nat)=0:=by
   have r2:=and_k (k:=.u64) (a:=x / 2 ^ i) (b:=1) rfl hxi (by decide)
   rw [bit_and,bit_zero (nk.2 _ _ hx).2] at r2
   exact r2
  have r3:=shr_n .num .u64 .i64 x n (by show n≤64;omega)
  rw [Nat.div_eq_of_lt hxn] at r3
  have w6:IntKind.wrap .i64 ((i:Int)+1)=((i+1:Nat):Int):=by rw [wrap_i64 (by omega)];omega
  have z0:((0:Nat):Int)=0:=rfl
  simp (maxSteps:=200000) -implicitDefEqProofs only [KA,KB,KC,KD,KE,KF,eq_self,ne_eq,↓reduceIte,Nat.reduceLT,Nat.reduceEqDiff,Nat.reduceAdd,Nat.reduceLeDiff,Nat.reduceSub,Nat.reduceMul,reduceCtorEq,e1,e24,e25,e26,hlt,adr,row,r1,r2,r3,w6,z0,CfgC,rd_n]
  exact ⟨m-1,by omega,i+1,_,rfl,by omega,by omega,rfl,rfl,rfl,rfl⟩
 ·simp (maxSteps:=200000) -implicitDefEqProofs only [KA,KB,KC,KD,KE,KF,eq_self,ne_eq,↓reduceIte,Nat.reduceLT,Nat.reduceEqDiff,Nat.reduceAdd,Nat.reduceLeDiff,Nat.reduceSub,Nat.reduceMul,reduceCtorEq,e1,e24,e25,e26,hlt,CfgC]
  refine in_true (k:=k+2) (by omega) ?_
  simp (maxSteps:=200000) -implicitDefEqProofs only [KA,KB,KC,KD,KE,KF,eq_self,ne_eq,↓reduceIte,Nat.reduceLT,Nat.reduceEqDiff,Nat.reduceAdd,Nat.reduceLeDiff,Nat.reduceSub,Nat.reduceMul,reduceCtorEq]
  refine in_true (k:=k+2) (by omega) ?_
  simp (maxSteps:=200000) -implicitDefEqProofs only [KA,KB,KC,KD,KE,KF,eq_self,ne_eq,↓reduceIte,Nat.reduceLT,Nat.reduceEqDiff,Nat.reduceAdd,Nat.reduceLeDiff,Nat.reduceSub,Nat.reduceMul,reduceCtorEq]
  refine in_true (k:=k+2) (by omega) ?_
  simp (maxSteps:=200000) -implicitDefEqProofs only [KA,KB,KC,KD,KE,KF,eq_self,ne_eq,↓reduceIte,Nat.reduceLT,Nat.reduceEqDiff,Nat.reduceAdd,Nat.reduceLeDiff,Nat.reduceSub,Nat.reduceMul,reduceCtorEq]
  refine in_true (k:=k+2) (by omega) ?_
  simp (maxSteps:=200000) -implicitDefEqProofs only [KA,KB,KC,KD,KE,KF,eq_self,ne_eq,↓reduceIte,Nat.reduceLT,Nat.reduceEqDiff,Nat.reduceAdd,Nat.reduceLeDiff,Nat.reduceSub,Nat.reduceMul,reduceCtorEq]
  refine in_true (k:=k+2) (by omega) ?_
  simp (maxSteps:=200000) -implicitDefEqProofs only [KA,KB,KC,KD,KE,KF,eq_self,ne_eq,↓reduceIte,Nat.reduceLT,Nat.reduceEqDiff,Nat.reduceAdd,Nat.reduceLeDiff,Nat.reduceSub,Nat.reduceMul,reduceCtorEq]
  refine in_true (k:=k+2) (by omega) ?_
  simp (maxSteps:=200000) -implicitDefEqProofs only [KA,KB,KC,KD,KE,KF,eq_self,ne_eq,↓reduceIte,Nat.reduceLT,Nat.reduceEqDiff,Nat.reduceAdd,Nat.reduceLeDiff,Nat.reduceSub,Nat.reduceMul,reduceCtorEq]
  exact hP
end
end
section
set_option maxHeartbeats 8000000
section
variable {k:Nat} {h:Hp} {P:AV→Hp→Prop} {nr hp n q:Nat} {xs:List Nat} {v:CV}
theorem cloneu_ok (hs:SL h 1 v (xs.map u6)) (h0:xs≠[]) (hn:xs.length≤1000000)
 (hP:∀ h' u,Fn h h'→P (.c u) h'):callW N (k+1) 268 [.c v] h P:=by
 cases v <;> simp only [SL] at hs
 case nils=>exact absurd (List.map_eq_nil_iff.mp hs) h0
 case sl id tok off len cap=>
  have hs:SL h 1 (.sl id tok off len cap) (xs.map u6):=hs
  obtain ⟨h2,hh2⟩:∃ h2,h2=h.push (.rows true 1 0 0 []):=⟨_,rfl⟩
  have hf2:Fn h h2:=by rw [hh2];exact Fm.push _ _ _
  have hn2:h2.n=h.n+1:=by rw [hh2,n_push]
  have hg2:h2.g h.n=some (.rows true 1 0 0 []):=by rw [hh2,g_push_eq]
  have hfold:=hh2.symm
  have hrd:sliceRows h2 [] 1 (.v (.c (.sl id tok off len cap)))=some (xs.map u6):=(hs.new hf2).read
  cases xs with
  | nil=>exact absurd rfl h0
  | cons y ys=>
   have happ:appT h2 [] 1 8 (.v (.c (.sl h.n 0 0 0 (some 0)))) (.v (.c (.sl id tok off len cap)))=some (.sl h2.n 0 0 ((y::ys).map u6).length none,h2.push (.rows true 1 0 0 ((y::ys).map u6))):=by
    simp only [appT,asC_c,Option.bind_some,hrd]
    simp only [List.map_cons,appRows,g_def,hg2]
    rw [if_pos ⟨trivial,Nat.le_refl _,by simp only [room,List.length_cons,List.length_map] at hn ⊢;omega⟩]
    rw [if_neg (by simp only [List.length_cons];omega)]
    simp only [List.drop_nil,List.take_nil,List.nil_append,Nat.zero_add]
    rfl
   refine call_intro rfl (by simp only [List.length_cons,List.length_nil];omega) ?_
   simp (maxSteps:=200000) -implicitDefEqProofs only [KA,KB,KC,KD,KE,KF,eq_self,ne_eq,↓reduceIte,Nat.reduceLT,Nat.reduceEqDiff,Nat.reduceAdd,Nat.reduceLeDiff,Nat.reduceSub,Nat.reduceMul,reduceCtorEq,chunks,hfold,happ]
   exact hP _ _ (hf2.trans (Fm.push _ _ _))
theorem clock_ok (hP:∀ h' c,Fn h h'→P (.c (.ptr c 0 0 0)) h'):callW N (k+1) 269 [] h P:=by
 refine call_intro rfl (by simp only [List.length_cons,List.length_nil];omega) ?_
 simp (maxSteps:=200000) -implicitDefEqProofs only [KA,KB,KC,KD,KE,KF,eq_self,ne_eq,↓reduceIte,Nat.reduceLT,Nat.reduceEqDiff,Nat.reduceAdd,Nat.reduceLeDiff,Nat.reduceSub,Nat.reduceMul,reduceCtorEq]
 exact hP _ _ (Fm.push _ _ _)
theorem dup_ok (hP:∀ h' c,Fn h h'→P (.c (.ptr c 0 0 0)) h'):callW N (k+1) 271 [] h P:=by
 refine call_intro rfl (by simp only [List.length_cons,List.length_nil];omega) ?_
 simp (maxSteps:=200000) -implicitDefEqProofs only [KA,KB,KC,KD,KE,KF,eq_self,ne_eq,↓reduceIte,Nat.reduceLT,Nat.reduceEqDiff,Nat.reduceAdd,Nat.reduceLeDiff,Nat.reduceSub,Nat.reduceMul,reduceCtorEq]
 exact hP _ _ ((Fm.push _ _ _).trans (Fm.push _ _ _))
theorem queue_ok (hP:∀ h' c r,h'.g c=some (.rows true 3 0 0 [[.int .i64 r,.nils,.int .i64 0]])→Fn h h'→P (.c (.ptr c 0 0 0)) h'):callW N (k+1) 270 [.c (.int .i64 q)] h P:=by
 refine call_intro rfl (by simp only [List.length_cons,List.length_nil];omega) ?_
 simp (maxSteps:=200000) -implicitDefEqProofs only [KA,KB,KC,KD,KE,KF,eq_self,ne_eq,↓reduceIte,Nat.reduceLT,Nat.reduceEqDiff,Nat.reduceAdd,Nat.reduceLeDiff,Nat.reduceSub,Nat.reduceMul,reduceCtorEq]
 exact hP _ _ _ (g_push_eq _ _) (Fm.push _ _ _)
theorem new_ok (hn:2≤n∧n≤8) (hq:1≤q∧q≤8) (g1:h.g nr=some (.rows true 1 0 0 (xs.map u6))) (nk:NearOk n xs) (g2:h.g hp=some (.rows true 1 0 0 [[.int .i64 11],[.int .i64 15],[.int .i64 20]]))
 (hP:∀ h' p,Root h' p n q 0 [11,15,20]→Fn h h'→P (.c (.ptr p 0 0 0)) h'):callW N (k+5) 260 [.agg (CfgC nr hp n q),.c (.int .i64 0)] h P:=by
 have sn:SL h 1 (.sl nr 0 0 n (some n)) (xs.map u6):=⟨true,0,0,_,g1,Nat.le_refl _,by rw [List.length_map,nk.1];omega,by rw [List.drop_zero,List.take_of_length_le (by rw [List.length_map,nk.1];omega)]⟩
 have sh:SL h 1 (.sl hp 0 0 3 (some 3)) ([11,15,20].map encI):=⟨true,0,0,_,g2,Nat.le_refl _,by decide,rfl⟩
 have w1:IntKind.wrap .i64 ((n:Int)-1)=(n:Int)-1:=wrap_i64 (by omega)
 refine call_intro rfl (by simp only [List.length_cons,List.length_nil];omega) ?_
 simp (maxSteps:=200000) -implicitDefEqProofs only [KA,KB,KC,KD,KE,KF,eq_self,ne_eq,↓reduceIte,Nat.reduceLT,Nat.reduceEqDiff,Nat.reduceAdd,Nat.reduceLeDiff,Nat.reduceSub,Nat.reduceMul,reduceCtorEq,CfgC]
 refine may_ok (k:=k) hn hq g1 nk g2 ?_
 simp (maxSteps:=200000) -implicitDefEqProofs only [KA,KB,KC,KD,KE,KF,eq_self,ne_eq,↓reduceIte,Nat.reduceLT,Nat.reduceEqDiff,Nat.reduceAdd,Nat.reduceLeDiff,Nat.reduceSub,Nat.reduceMul,reduceCtorEq,w1]
 refine in_true (k:=k+3) (by omega) ?_
 simp (maxSteps:=200000) -implicitDefEqProofs only [KA,KB,KC,KD,KE,KF,eq_self,ne_eq,↓reduceIte,Nat.reduceLT,Nat.reduceEqDiff,Nat.reduceAdd,Nat.reduceLeDiff,Nat.reduceSub,Nat.reduceMul,reduceCtorEq]
 refine cloneu_ok (k:=k+3) sn (fun e=>by have:=nk.1;rw [e] at this;simp at this;omega) (by have:=nk.1;omega) fun h1 u f1=>?_
 simp (maxSteps:=200000) -implicitDefEqProofs only [KA,KB,KC,KD,KE,KF,eq_self,ne_eq,↓reduceIte,Nat.reduceLT,Nat.reduceEqDiff,Nat.reduceAdd,Nat.reduceLeDiff,Nat.reduceSub,Nat.reduceMul,reduceCtorEq]
 refine clonei_ok (k:=k+3) (sh.new f1) (by decide) (by decide) fun h2 w kw iw f2=>?_
 obtain ⟨h3,hh3⟩:∃ g,g=h2.reserve 2:=⟨_,rfl⟩
 have f3:Fn h2 h3:=by rw [hh3];exact Fm.reserve _ _ _
 have d0:h3.g h2.n=some .dead:=by rw [hh3,g_reserve,if_pos (by omega)]
 have d1:h3.g (h2.n+1)=some .dead:=by rw [hh3,g_reserve,if_pos (by omega)]
 have n3:h3.n=h2.n+2:=by rw [hh3];exact n_reserve _ _
 simp (maxSteps:=200000) -implicitDefEqProofs only [KA,KB,KC,KD,KE,KF,eq_self,ne_eq,↓reduceIte,Nat.reduceLT,Nat.reduceEqDiff,Nat.reduceAdd,Nat.reduceLeDiff,Nat.reduceSub,Nat.reduceMul,reduceCtorEq,hh3.symm]
 refine clock_ok (k:=k+3) fun h4 ck f4=>?_
 simp (maxSteps:=200000) -implicitDefEqProofs only [KA,KB,KC,KD,KE,KF,eq_self,ne_eq,↓reduceIte,Nat.reduceLT,Nat.reduceEqDiff,Nat.reduceAdd,Nat.reduceLeDiff,Nat.reduceSub,Nat.reduceMul,reduceCtorEq]
 refine queue_ok (k:=k+3) fun h5 qi r gq f5=>?_
 simp (maxSteps:=200000) -implicitDefEqProofs only [KA,KB,KC,KD,KE,KF,eq_self,ne_eq,↓reduceIte,Nat.reduceLT,Nat.reduceEqDiff,Nat.reduceAdd,Nat.reduceLeDiff,Nat.reduceSub,Nat.reduceMul,reduceCtorEq]
 refine dup_ok (k:=k+3) fun h6 up f6=>?_
 simp (maxSteps:=200000) -implicitDefEqProofs only [KA,KB,KC,KD,KE,KF,eq_self,ne_eq,↓reduceIte,Nat.reduceLT,Nat.reduceEqDiff,Nat.reduceAdd,Nat.reduceLeDiff,Nat.reduceSub,Nat.reduceMul,reduceCtorEq]
 refine dup_ok (k:=k+3) fun h7 dn f7=>?_
 simp (maxSteps:=200000) -implicitDefEqProofs only [KA,KB,KC,KD,KE,KF,eq_self,ne_eq,↓reduceIte,Nat.reduceLT,Nat.reduceEqDiff,Nat.reduceAdd,Nat.reduceLeDiff,Nat.reduceSub,Nat.reduceMul,reduceCtorEq]
 refine dup_ok (k:=k+3) fun h8 gt f8=>?_
 have f38:=f4.trans (f5.trans (f6.trans (f7.trans f8)))
 have d08:=f38.some d0 (fun e=>e)
 have d18:=f38.some d1 (fun e=>e)
 obtain ⟨h9,hh9⟩:∃ g,g=h8.put h2.n (.map true [] 0):=⟨_,rfl⟩
 have d9:h9.g (h2.n+1)=some .dead:=by rw [hh9,g_put_ne _ _ (by omega)];exact d18
 have z00:((0:Int)=0):=rfl
 simp (maxSteps:=200000) -implicitDefEqProofs only [KA,KB,KC,KD,KE,KF,eq_self,ne_eq,↓reduceIte,Nat.reduceLT,Nat.reduceEqDiff,Nat.reduceAdd,Nat.reduceLeDiff,Nat.reduceSub,Nat.reduceMul,reduceCtorEq,d08,hh9.symm,d9,z00]
 have gq8:=(f6.trans (f7.trans f8)).some gq (fun e=>e)
 have e0:qi≠h2.n:=fun e=>by rw [e,d08] at gq8;cases gq8
 have e1:qi≠h2.n+1:=fun e=>by rw [e,d18] at gq8;cases gq8
 have F8:Fn h h8:=f1.trans (f2.trans (f3.trans f38))
 have n2:h.n≤h2.n:=(f1.trans f2).n
 have gm9:h9.g h2.n=some (.map true [] 0):=by rw [hh9,g_put_eq,d08];rfl
 have n8:=(f3.trans f38).n
 refine hP _ _ ⟨_,w,_,_,_,_,_,_,qi,_,_,_,h2.n,_,_,_,_,_,_,_,_,by rw [g_put_eq,d9];rfl,⟨r,0,?_⟩,?_,?_,?_,?_⟩ ?_
 ·rw [g_put_ne _ _ e1.symm,hh9,g_put_ne _ _ e0.symm]
  exact gq8
 ·rw [g_put_ne _ _ (by omega)]
  exact gm9
 ·refine (kw.sl.new (f3.trans f38)).mono (S:=fun j=>h2.n≤j) ?_ ?_
  ·rw [hh9]
   exact (Fm.put (S:=fun j=>h2.n≤j) _ _ (Nat.le_refl _)).trans (Fm.put (S:=fun j=>h2.n≤j) _ _ (by show h2.n≤h2.n+1;omega))
  ·intro id tok off len cap e
   have:=kw.sl.lt _ _ _ _ _ e
   omega
 ·intro id tok off len c e
  have:=kw.cap _ _ _ _ _ e
  cases this
 ·intro id tok off len cap e
  have:=kw.sl.lt _ _ _ _ _ e
  omega
 ·rw [hh9]
  exact (F8.putNew _ n2).putNew _ (by omega)
end
end
section
set_option maxHeartbeats 8000000
structure IR where
 (a b c d:Int)
 l:CV
def encE (e:IR):List CV:=[.int .i64 e.a,.int .i64 e.b,.int .i64 e.c,.int .i64 e.d,e.l]
structure CR where
 (a0 a1 a2 a3 a4 a5 a6 a7:Int)
 (ie dat:CV)
 (b0 b1 b2 b3:Int)
 (pa pd bb:CV)
def encR (r:CR):List CV:=[.int .i64 r.a0,.int .i64 r.a1,.int .i64 r.a2,.int .i64 r.a3,.int .i64 r.a4,.int .i64 r.a5,.int .i64 r.a6,.int .i64 r.a7,r.ie,r.dat,.int .i64 r.b0,.int .i64 r.b1,.int .i64 r.b2,.int .i64 r.b3,r.pa,r.pd,r.bb]
structure GR (h:Hp) (r:CR):Prop where
 ie:∃ E:List IR,SL h 5 r.ie (E.map encE)∧E.length≤1048576∧∀ e∈E,∃ R,SL h 1 e.l R
 dat:∃ R,SL h 1 r.dat R
 pa:∃ R,SL h 1 r.pa R
 pd:∃ R,SL h 1 r.pd R
 bb:∃ R,SL h 1 r.bb R
theorem GR.len {h:Hp} {v:CV} (k:∃ R,SL h 1 v R):∃ n:Nat,∀ h':Hp,lenT h' .sl (.v (.c v))=some (n:Int):=by
 obtain ⟨R,hR⟩:=k
 exact ⟨_,fun h'=>hR.len h'⟩
section
variable {k:Nat} {h:Hp} {P:AV→Hp→Prop} {v:CV} {C:List CR}
def FwI (h:Hp) (v:CV) (C:List CR) (n:Nat) (s:St):Prop:=∃ (i:Nat) (l:List (Nat × TV)) (lc:List (List CV)) (sm:Int),s=ST 57 l lc h∧i≤120∧i≤C.length∧n=121-i∧
 lk l 3 = .v (.c (.int .i64 sm))∧lk l 8 = .v (.c v)∧lk l 9 = .v (.c (.int .i64 C.length))∧lk l 10 = .v (.c (.int .i64 i))
def FwJ (h:Hp) (v:CV) (C:List CR) (i:Nat) (w:CV) (E:List IR) (n:Nat) (s:St):Prop:=∃ (j:Nat) (l:List (Nat × TV)) (lc:List (List CV)) (sm:Int),s=ST 57 l lc h∧j≤E.length∧n=E.length-j∧
 lk l 3 = .v (.c (.int .i64 sm))∧lk l 4 = .v (.c (.int .i64 i))∧lk l 8 = .v (.c v)∧lk l 9 = .v (.c (.int .i64 C.length))∧lk l 10 = .v (.c (.int .i64 i))∧lk l 37 = .v (.c w)∧lk l 38 = .v (.c (.int .i64 E.length))∧lk l 39 = .v (.c (.int .i64 j))
theorem few_ok (hv:SL h 17 v (C.map encR)) (hC:∀ r∈C,GR h r) (hP:∀ b:Bool,(b=true→C.length≤120)→P (.c (.bool b)) h):callW N (k+1) 257 [.c v] h P:=by
 have hlen:∀ h':Hp,lenT h' .sl (.v (.c v))=some (C.length:Int):=fun h'=>by rw [hv.len h',List.length_map]
 refine call_intro rfl (by simp only [List.length_cons,List.length_nil];omega) ?_
 simp (maxSteps:=200000) -implicitDefEqProofs only [KA,KB,KC,KD,KE,KF,eq_self,ne_eq,↓reduceIte,Nat.reduceLT,Nat.reduceEqDiff,Nat.reduceAdd,Nat.reduceLeDiff,Nat.reduceSub,Nat.reduceMul,reduceCtorEq,hlen]
 refine loop_rd (callW_mono N _) (FwI h v C) (n:=121) ⟨0,_,_,_,rfl,by omega,by omega,rfl,rfl,rfl,rfl,rfl⟩ ?_
 rintro n s ⟨i,l,lc,sm,rfl,hi,hiC,hn,e3,e8,e9,e10⟩
 by_cases hlt:(i:Int)<C.length
 ·obtain ⟨r,hr⟩:∃ r,C[i]? = some r:=⟨_,List.getElem?_eq_getElem (by omega)⟩
  obtain ⟨pid,ptok,pj,a1,a2⟩:=hv.at (i:=(i:Int)) (r:=encR r) (by omega) (by simp [hr])
  have gr:=hC r (List.mem_of_getElem? hr)
  obtain ⟨E,hE,hEl,hEg⟩:=gr.ie
  obtain ⟨n1,l1⟩:=GR.len gr.dat
  obtain ⟨n2,l2⟩:=GR.len gr.pa
  obtain ⟨n3,l3⟩:=GR.len gr.pd
  obtain ⟨n4,l4⟩:=GR.len gr.bb
  have l5:∀ h':Hp,lenT h' .sl (.v (.c r.ie))=some (E.length:Int):=fun h'=>by rw [hE.len h',List.length_map]
  have w3:IntKind.wrap .i64 ((i:Int)+1)=((i+1:Nat):Int):=by rw [wrap_i64 (by omega)];omega
  unfold encR at a2
  simp (maxSteps:=200000) -implicitDefEqProofs only [KA,KB,KC,KD,KE,KF,eq_self,ne_eq,↓reduceIte,Nat.reduceLT,Nat.reduceEqDiff,Nat.reduceAdd,Nat.reduceLeDiff,Nat.reduceSub,Nat.reduceMul,reduceCtorEq,e3,e8,e9,e10,hlt,a1,a2,l1,l2,l3,l4,l5]
  refine loop_rd (callW_mono N _) (FwJ h v C i r.ie E) (n:=E.length) ⟨0,_,_,_,rfl,by omega,rfl,rfl,rfl,rfl,rfl,rfl,rfl,rfl,rfl⟩ ?_
  rintro n s ⟨j,l,lc,sm,rfl,hj,hn,e3,e4,e8,e9,e10,e37,e38,e39⟩
  by_cases hlt2:(j:Int)<E.length
  ·obtain ⟨e,he⟩:∃ e,E[j]? = some e:=⟨_,List.getElem?_eq_getElem (by omega)⟩
   obtain ⟨pid,ptok,pj,b1,b2⟩:=hE.at (i:=(j:Int)) (r:=encE e) (by omega) (by simp [he])
   obtain ⟨n6,l6⟩:=GR.len (hEg e (List.mem_of_getElem? he))
   have w4:IntKind.wrap .i64 ((j:Int)+1)=((j+1:Nat):Int):=by rw [wrap_i64 (by omega)];omega
   unfold encE at b2
   simp (maxSteps:=200000) -implicitDefEqProofs only [KA,KB,KC,KD,KE,KF,eq_self,ne_eq,↓reduceIte,Nat.reduceLT,Nat.reduceEqDiff,Nat.reduceAdd,Nat.reduceLeDiff,Nat.reduceSub,Nat.reduceMul,reduceCtorEq,e3,e4,e8,e9,e10,e37,e38,e39,hlt2,b1,b2,l6,w4,rd_n]
   exact ⟨n-1,by omega,j+1,_,_,_,rfl,by omega,by omega,rfl,rfl,rfl,rfl,rfl,rfl,rfl,rfl⟩
  ·by_cases h120:(120:Int)≤i
   ·simp (maxSteps:=200000) -implicitDefEqProofs only [KA,KB,KC,KD,KE,KF,eq_self,ne_eq,↓reduceIte,Nat.reduceLT,Nat.reduceEqDiff,Nat.reduceAdd,Nat.reduceLeDiff,Nat.reduceSub,Nat.reduceMul,reduceCtorEq,e3,e4,e8,e9,e10,e37,e38,e39,hlt2,h120]
    exact hP false (fun e=>by cases e)
   ·by_cases hsm:(6000:Int)<sm
    ·simp (maxSteps:=200000) -implicitDefEqProofs only [KA,KB,KC,KD,KE,KF,eq_self,ne_eq,↓reduceIte,Nat.reduceLT,Nat.reduceEqDiff,Nat.reduceAdd,Nat.reduceLeDiff,Nat.reduceSub,Nat.reduceMul,reduceCtorEq,e3,e4,e8,e9,e10,e37,e38,e39,hlt2,h120,hsm]
     exact hP false (fun e=>by cases e)
    ·simp (maxSteps:=200000) -implicitDefEqProofs only [KA,KB,KC,KD,KE,KF,eq_self,ne_eq,↓reduceIte,Nat.reduceLT,Nat.reduceEqDiff,Nat.reduceAdd,Nat.reduceLeDiff,Nat.reduceSub,Nat.reduceMul,reduceCtorEq,e3,e4,e8,e9,e10,e37,e38,e39,hlt2,h120,hsm,w3,rd_n]
     exact ⟨121-i-1,by omega,i+1,_,_,_,rfl,by omega,by omega,by omega,rfl,rfl,rfl,rfl⟩
 ·simp (maxSteps:=200000) -implicitDefEqProofs only [KA,KB,KC,KD,KE,KF,eq_self,ne_eq,↓reduceIte,Nat.reduceLT,Nat.reduceEqDiff,Nat.reduceAdd,Nat.reduceLeDiff,Nat.reduceSub,Nat.reduceMul,reduceCtorEq,e3,e8,e9,e10,hlt]
  exact hP true (fun _=>by omega)
end
end
section
set_option maxHeartbeats 8000000
section
variable {k:Nat} {h:Hp} {P:AV→Hp→Prop} {v:CV} {C:List CR}
theorem awakeNs_ok (hP:P (.c (.bool true)) h):callW N (k+1) 258 [] h P:=⟨awakeN,rfl,by simp,[],.c (.bool true),rfl,rfl,rfl,.inr rfl,_,rfl,hP⟩
def chans:List Int:=[11,15,20]
theorem chan_at (i:Nat):∃ c,chans[i % 3]? = some c:=⟨_,List.getElem?_eq_getElem (by show i % 3<3;omega)⟩
theorem chans_at (h5:Hp) {i:Nat} {c:Int} (hc:chans[i % 3]? = some c):∃ h6,h6=(h5.reserve 1).put h5.n (.rows true 1 0 0 [[.int .i64 11],[.int .i64 15],[.int .i64 20]])∧Fn h5 h6∧h5.n≤h6.n∧
 iaddrT h6 1 (.v (.c (.sl h5.n 0 0 3 (some 3)))) ((i % 3:Nat):Int)=some (.v (.c (.ptr h5.n 0 (i % 3) 0)))∧rowO (h6.g h5.n) 0 (i % 3)=some [.int .i64 c]:=by
 refine ⟨_,rfl,?_,?_,?_,?_⟩
 ·exact (Fm.reserve _ _ _).putNew _ (Nat.le_refl _)
 ·rw [n_put,n_reserve];omega
 all_goals
  have d0:(h5.reserve 1).g h5.n=some .dead:=by rw [g_reserve,if_pos (by omega)]
  have ar:Ar encI 1 ((h5.reserve 1).put h5.n (.rows true 1 0 0 [[.int .i64 11],[.int .i64 15],[.int .i64 20]])) h5.n 0 [] chans:=⟨0,Nat.le_refl _,by rw [g_put_eq,d0];rfl⟩
 ·exact ar.adr (by omega) _
 ·exact ar.row hc
def LwI (h0:Hp) (nr hp n q p:Nat) (v:CV) (C:List CR) (m:Nat) (s:St):Prop:=∃ (i:Nat) (l:List (Nat × TV)) (h':Hp) (sq:Nat),s=ST 123 l [CfgC nr hp n q] h'∧i≤C.length∧m=C.length-i∧Root h' p n q sq chans∧sq<256∧Fm (fun j=>j=p) h0 h'∧
 lk l 7 = .lp 0 0∧lk l 8 = .v (.c (.ptr p 0 0 0))∧lk l 9 = .v (.c (.int .i64 sq))∧lk l 28 = .v (.c v)∧lk l 29 = .v (.c (.int .i64 C.length))∧lk l 30 = .v (.c (.int .i64 i))
theorem nodeSends_ok {nodes queue:Int} (hv:SL h 17 v (C.map encR)) (hC:∀ r∈C,GR h r) (hP:∀ h',P (.c (.bool true)) h'):callW N (k+13) 256 [.c (.int .i64 nodes),.c (.int .i64 queue),.c v] h P:=by
 have hlen:∀ h':Hp,lenT h' .sl (.v (.c v))=some (C.length:Int):=fun h'=>by rw [hv.len h',List.length_map]
 refine call_intro rfl (by simp only [List.length_cons,List.length_nil];omega) ?_
 simp (maxSteps:=200000) -implicitDefEqProofs only [KA,KB,KC,KD,KE,KF,eq_self,ne_eq,↓reduceIte,Nat.reduceLT,Nat.reduceEqDiff,Nat.reduceAdd,Nat.reduceLeDiff,Nat.reduceSub,Nat.reduceMul,reduceCtorEq]
 refine few_ok (k:=k+11) hv hC fun b hb=>?_
 cases b
 ·simp (maxSteps:=200000) -implicitDefEqProofs only [KA,KB,KC,KD,KE,KF,eq_self,ne_eq,↓reduceIte,Nat.reduceLT,Nat.reduceEqDiff,Nat.reduceAdd,Nat.reduceLeDiff,Nat.reduceSub,Nat.reduceMul,reduceCtorEq]
  refine awakeNs_ok (k:=k+11) ?_
  simp (maxSteps:=200000) -implicitDefEqProofs only [KA,KB,KC,KD,KE,KF,eq_self,ne_eq,↓reduceIte,Nat.reduceLT,Nat.reduceEqDiff,Nat.reduceAdd,Nat.reduceLeDiff,Nat.reduceSub,Nat.reduceMul,reduceCtorEq,hP]
 have h120:=hb rfl
 simp (maxSteps:=200000) -implicitDefEqProofs only [KA,KB,KC,KD,KE,KF,eq_self,ne_eq,↓reduceIte,Nat.reduceLT,Nat.reduceEqDiff,Nat.reduceAdd,Nat.reduceLeDiff,Nat.reduceSub,Nat.reduceMul,reduceCtorEq]
 refine config_ok (k:=k+11) fun h1 nr hp n q xs hn hq g1 nk g2 f1=>?_
 unfold CfgC
 simp (maxSteps:=200000) -implicitDefEqProofs only [KA,KB,KC,KD,KE,KF,eq_self,ne_eq,↓reduceIte,Nat.reduceLT,Nat.reduceEqDiff,Nat.reduceAdd,Nat.reduceLeDiff,Nat.reduceSub,Nat.reduceMul,reduceCtorEq]
 refine new_ok (k:=k+7) hn hq g1 nk g2 fun h2 p r2 f2=>?_
 simp (maxSteps:=200000) -implicitDefEqProofs only [KA,KB,KC,KD,KE,KF,eq_self,ne_eq,↓reduceIte,Nat.reduceLT,Nat.reduceEqDiff,Nat.reduceAdd,Nat.reduceLeDiff,Nat.reduceSub,Nat.reduceMul,reduceCtorEq,hlen]
 have hv2:=hv.new (f1.trans f2)
 have gp2:∃ row,h2.g p=some (.rows true 32 0 0 [row]):=by
  obtain ⟨nr,hp,gu,er,ke,lo,li,ck,qi,up,dn,gt,pm,s1,s2,s3,s4,s5,s6,s7,s8,gp,_⟩:=r2
  exact ⟨_,gp⟩
 obtain ⟨row2,gp2⟩:=gp2
 refine loop_rd (callW_mono N _) (LwI h2 nr hp n q p v C) (n:=C.length) ⟨0,_,_,0,rfl,by omega,by omega,r2,by omega,Fm.refl _ _,rfl,rfl,rfl,rfl,rfl,rfl⟩ ?_
 rintro m s ⟨i,l,h3,sq,rfl,hi,hm,r3,hsq,f3,e7,e8,e9,e28,e29,e30⟩
 by_cases hlt:(i:Int)<C.length
 ·obtain ⟨r,hr⟩:∃ r,C[i]? = some r:=⟨_,List.getElem?_eq_getElem (by omega)⟩
  have hv3:SL h3 17 v (C.map encR):=hv2.mono f3 (by
   rintro id tok off len cap rfl rfl
   obtain ⟨wr,cur,lw,rs,e1,_⟩:=hv2
   rw [gp2] at e1
   cases e1)
  obtain ⟨pid,ptok,pj,a1,a2⟩:=hv3.at (i:=(i:Int)) (r:=encR r) (by omega) (by simp [hr])
  obtain ⟨n4,l4⟩:=GR.len (hC r (List.mem_of_getElem? hr)).bb
  unfold encR at a2
  obtain ⟨c,hc⟩:=chan_at i
  have w3:IntKind.wrap .i64 ((i:Int)+1)=((i+1:Nat):Int):=by rw [wrap_i64 (by omega)];omega
  simp (maxSteps:=200000) -implicitDefEqProofs only [KA,KB,KC,KD,KE,KF,eq_self,ne_eq,↓reduceIte,Nat.reduceLT,Nat.reduceEqDiff,Nat.reduceAdd,Nat.reduceLeDiff,Nat.reduceSub,Nat.reduceMul,reduceCtorEq,e7,e8,e9,e28,e29,e30,hlt,a1,a2,CfgC]
  refine send_ok (k:=k+9) (len:=n4) r3 (by omega) (by omega) l4 fun h4 err f4=>?_
  have r4:=r3.new f4
  simp (maxSteps:=200000) -implicitDefEqProofs only [KA,KB,KC,KD,KE,KF,eq_self,ne_eq,↓reduceIte,Nat.reduceLT,Nat.reduceEqDiff,Nat.reduceAdd,Nat.reduceLeDiff,Nat.reduceSub,Nat.reduceMul,reduceCtorEq]
  refine plan_ok (k:=k+1) (c:=c) r4 (by omega) HpL.abc (by omega) hc hsq ?_ ?_
  ·intro hz h5 f5
   have d5:(h5.reserve 1).g h5.n=some .dead:=by rw [g_reserve,if_pos (by omega)]
   obtain ⟨h6,hh6,f6,n6,adr,row⟩:=chans_at h5 hc
   have t3:Int.tmod (i:Int) 3=((i % 3:Nat):Int):=tmod_nat i 3
   have tn:Int.tmod (i:Int) (n:Int)=((i % n:Nat):Int):=tmod_nat i n
   have z3:¬((3:Int)=0):=by decide
   have zn:¬((n:Int)=0):=by omega
   have zz:¬((i % n:Nat):Int)=0:=by omega
   have cc:c=c:=rfl
   have l0:∀ h':Hp,lenT h' .sl (.v (.c .nils))=some 0:=fun _=>rfl
   have z0:¬((0:Int)<0):=by decide
   have zq:¬((q:Int)<0):=by omega
   have z00:(0:Int)=0:=rfl
   have bff:(!(false == false))=false:=rfl
   simp (maxSteps:=200000) -implicitDefEqProofs only [KA,KB,KC,KD,KE,KF,eq_self,ne_eq,↓reduceIte,Nat.reduceLT,Nat.reduceEqDiff,Nat.reduceAdd,Nat.reduceLeDiff,Nat.reduceSub,Nat.reduceMul,reduceCtorEq,t3,z3,d5,hh6.symm,adr,row,cc,l0,tn,zn,zz,z0,bff]
   have r6:=r4.new (f5.trans f6)
   refine waiting_ok (k:=k+10) r6 ?_
   simp (maxSteps:=200000) -implicitDefEqProofs only [KA,KB,KC,KD,KE,KF,eq_self,ne_eq,↓reduceIte,Nat.reduceLT,Nat.reduceEqDiff,Nat.reduceAdd,Nat.reduceLeDiff,Nat.reduceSub,Nat.reduceMul,reduceCtorEq,zq,l0,z00,w3,rd_n]
   exact ⟨m-1,by omega,i+1,_,_,sq,rfl,by omega,by omega,r6,hsq,f3.fresh (f4.trans (f5.trans f6)) (fun _ e=>e.elim),rfl,rfl,rfl,rfl,rfl,rfl⟩
  ·intro hz h5 u r5 k5 c5 f5
   have d5:(h5.reserve 1).g h5.n=some .dead:=by rw [g_reserve,if_pos (by omega)]
   obtain ⟨h6,hh6,f6,n6,adr,row⟩:=chans_at h5 hc
   have t3:Int.tmod (i:Int) 3=((i % 3:Nat):Int):=tmod_nat i 3
   have tn:Int.tmod (i:Int) (n:Int)=((i % n:Nat):Int):=tmod_nat i n
   have z3:¬((3:Int)=0):=by decide
   have zn:¬((n:Int)=0):=by omega
   have zz:((i % n:Nat):Int)=0:=by omega
   have cc:c=c:=rfl
   have hll:(bcB sq i chans).length=18+chans.length:=by rw [bcB_eq];simp only [List.length_cons,List.length_append,List.length_nil,ieB_len];omega
   have hal:(apx (bcB sq i chans)).length=23:=by simp only [apx,List.length_append,List.length_cons,List.length_nil,hll];rfl
   have l0:∀ h':Hp,lenT h' .sl (.v (.c u))=some 23:=fun h'=>by rw [k5.len h',List.length_map,hal];rfl
   have z0:((0:Int)<23):=by decide
   have z23:¬((23:Int)=0):=by decide
   have zq:¬((q:Int)<0):=by omega
   have z00:(0:Int)=0:=rfl
   have bff:(!(true == true))=false:=rfl
   simp (maxSteps:=200000) -implicitDefEqProofs only [KA,KB,KC,KD,KE,KF,eq_self,ne_eq,↓reduceIte,Nat.reduceLT,Nat.reduceEqDiff,Nat.reduceAdd,Nat.reduceLeDiff,Nat.reduceSub,Nat.reduceMul,reduceCtorEq,t3,z3,d5,hh6.symm,adr,row,cc,l0,tn,zn,zz,z0,bff]
   have r6:=r5.new f6
   refine waiting_ok (k:=k+10) r6 ?_
   simp (maxSteps:=200000) -implicitDefEqProofs only [KA,KB,KC,KD,KE,KF,eq_self,ne_eq,↓reduceIte,Nat.reduceLT,Nat.reduceEqDiff,Nat.reduceAdd,Nat.reduceLeDiff,Nat.reduceSub,Nat.reduceMul,reduceCtorEq,zq,l0,z23]
   refine decf_ok (k:=k+7) hsq (by omega) (L:=chans) (by decide) (by decide) (k5.new f6) (fun id tok off len cp e=>by have:=c5 _ _ _ _ _ e;cases this) fun h7 o w k7 f7=>?_
   have ol:∀ h':Hp,lenT h' .sl (.v (.c o))=some 2:=fun h'=>by rw [k7.len h'];rfl
   obtain ⟨oid,otok,oj,b1,b2⟩:=k7.at (i:=0) (r:=bE i w true) (by decide) rfl
   simp only [bE] at b2
   have z2:¬((2:Int)=0):=by decide
   have sqq:(sq:Int)=sq:=rfl
   have iii:(i:Int)=i:=rfl
   have w4:IntKind.wrap .i64 ((sq:Int)+1)=((sq+1:Nat):Int):=by rw [wrap_i64 (by omega)];omega
   have t256:Int.tmod ((sq+1:Nat):Int) 256=(((sq+1) % 256:Nat):Int):=tmod_nat _ 256
   have z256:¬((256:Int)=0):=by decide
   simp (maxSteps:=200000) -implicitDefEqProofs only [KA,KB,KC,KD,KE,KF,eq_self,ne_eq,↓reduceIte,Nat.reduceLT,Nat.reduceEqDiff,Nat.reduceAdd,Nat.reduceLeDiff,Nat.reduceSub,Nat.reduceMul,reduceCtorEq,z00,ol,b1,b2,z2,sqq,iii,w3,w4,t256,z256,rd_n]
   exact ⟨m-1,by omega,i+1,_,_,(sq+1) % 256,rfl,by omega,by omega,r6.new f7,by omega,(f3.fresh f4 (fun _ e=>e.elim)).trans (f5.fresh (f6.trans f7) (fun _ e=>e.elim)),rfl,rfl,rfl,rfl,rfl,rfl⟩
 ·simp (maxSteps:=200000) -implicitDefEqProofs only [KA,KB,KC,KD,KE,KF,eq_self,ne_eq,↓reduceIte,Nat.reduceLT,Nat.reduceEqDiff,Nat.reduceAdd,Nat.reduceLeDiff,Nat.reduceSub,Nat.reduceMul,reduceCtorEq,e7,e8,e9,e28,e29,e30,hlt]
  refine awakeNs_ok (k:=k+11) ?_
  simp (maxSteps:=200000) -implicitDefEqProofs only [KA,KB,KC,KD,KE,KF,eq_self,ne_eq,↓reduceIte,Nat.reduceLT,Nat.reduceEqDiff,Nat.reduceAdd,Nat.reduceLeDiff,Nat.reduceSub,Nat.reduceMul,reduceCtorEq,hP]
end
end
section
theorem sl_take {h:Hp} {sz id n:Nat} {rows:List (List CV)} (e:h.obs[id]? = some (.rows false sz 0 0 rows)) (hn:n≤rows.length) (c:Option Nat):SL h sz (.sl id 0 0 n c) (rows.take n):=
 ⟨false,0,0,rows,e,Nat.le_refl _,by omega,by simp⟩
theorem wt_1 {hp:Hp} {s:List Sc} {cs:List CV} {b:Nat} (h:WT hp (.int .i64::s) cs b):∃ x cs' b',cs = .int .i64 x::cs'∧WT hp s cs' b'∧b'≤b:=by
 cases h with
 | int _ h=>exact ⟨_,_,_,rfl,h,by omega⟩
theorem wt_s {hp:Hp} {e:List Sc} {s:List Sc} {cs:List CV} {b:Nat} (h:WT hp (.sl e::s) cs b):∃ w cs' b',cs=w::cs'∧(∃ R,SL hp e.length w R)∧WT hp s cs' b'∧b'≤b:=by
 cases h with
 | nils h=>exact ⟨_,_,_,rfl,⟨[],rfl⟩,h,by omega⟩
 | sl g hn _ h=>exact ⟨_,_,_,rfl,⟨_,sl_take g hn _⟩,h,by omega⟩
theorem wt_none {hp:Hp} {cs:List CV} {b:Nat} (h:WT hp [] cs b):cs=[]:=by cases h;rfl
def scE:List Sc:=[.int .i64,.int .i64,.int .i64,.int .i64,.sl [.int .i64]]
theorem wtr_len {hp:Hp} {e:Sc} {es:List Sc} {rows:List (List CV)} {b:Nat} (h:WTR hp (e::es) rows b):rows.length≤b:=by
 induction rows generalizing b with
 | nil=>exact Nat.zero_le _
 | cons r rs ih=>
  cases h with
  | cons h1 h2=>
   have:=ih h2
   have:∀ {x:List CV} {y:Nat},WT hp (e::es) x y→1≤y:=fun h=>by cases h <;> omega
   have:=this h1
   rw [List.length_cons];omega
theorem wtr_ie {hp:Hp} {rows:List (List CV)} {b:Nat} (h:WTR hp scE rows b):∃ E:List IR,rows=E.map encE∧∀ e∈E,∃ R,SL hp 1 e.l R:=by
 induction rows generalizing b with
 | nil=>exact ⟨[],rfl,by simp⟩
 | cons r rs ih=>
  cases h with
  | cons h1 h2=>
   obtain ⟨E,rfl,hE⟩:=ih h2
   obtain ⟨a,_,_,rfl,h1,_⟩:=wt_1 h1
   obtain ⟨b,_,_,rfl,h1,_⟩:=wt_1 h1
   obtain ⟨c,_,_,rfl,h1,_⟩:=wt_1 h1
   obtain ⟨d,_,_,rfl,h1,_⟩:=wt_1 h1
   obtain ⟨l,_,_,rfl,hl,h1,_⟩:=wt_s h1
   cases wt_none h1
   refine ⟨⟨a,b,c,d,l⟩::E,rfl,?_⟩
   intro e he
   rcases List.mem_cons.mp he with rfl|he
   ·exact hl
   ·exact hE e he
theorem wt_ie {hp:Hp} {s:List Sc} {cs:List CV} {b:Nat} (h:WT hp (.sl scE::s) cs b) (hb:b≤1048576) :
 ∃ w cs' b',cs=w::cs'∧(∃ E:List IR,SL hp 5 w (E.map encE)∧E.length≤1048576∧∀ e∈E,∃ R,SL hp 1 e.l R)∧WT hp s cs' b'∧b'≤b:=by
 cases h with
 | nils h=>exact ⟨_,_,_,rfl,⟨[],rfl,by simp,by simp⟩,h,by omega⟩
 | sl g hn hr h=>
  rename_i id n c rows cs' b'
  have hl:=wtr_len hr
  obtain ⟨E,rfl,hE⟩:=wtr_ie hr
  rw [List.length_map] at hl
  refine ⟨_,_,_,rfl,⟨E.take n,?_,?_,fun e he=>hE e (List.mem_of_mem_take he)⟩,h,by omega⟩
  ·rw [List.map_take]
   exact sl_take g hn _
  ·rw [List.length_take];omega
def scR:List Sc:=[.int .i64,.int .i64,.int .i64,.int .i64,.int .i64,.int .i64,.int .i64,.int .i64,.sl scE,.sl [.int .u8],.int .i64,.int .i64,.int .i64,.int .i64,.sl [.int .i64],.sl [.int .u8],.sl [.int .u8]]
theorem wtr_cr {hp:Hp} {rows:List (List CV)} {b:Nat} (h:WTR hp scR rows b) (hb:b≤1048576):∃ C:List CR,rows=C.map encR∧∀ r∈C,GR hp r:=by
 induction rows generalizing b with
 | nil=>exact ⟨[],rfl,by simp⟩
 | cons r rs ih=>
  cases h with
  | cons h1 h2=>
   obtain ⟨C,rfl,hC⟩:=ih h2 (by omega)
   obtain ⟨a0,_,_,rfl,h1,t0⟩:=wt_1 h1
   obtain ⟨a1,_,_,rfl,h1,t1⟩:=wt_1 h1
   obtain ⟨a2,_,_,rfl,h1,t2⟩:=wt_1 h1
   obtain ⟨a3,_,_,rfl,h1,t3⟩:=wt_1 h1
   obtain ⟨a4,_,_,rfl,h1,t4⟩:=wt_1 h1
   obtain ⟨a5,_,_,rfl,h1,t5⟩:=wt_1 h1
   obtain ⟨a6,_,_,rfl,h1,t6⟩:=wt_1 h1
   obtain ⟨a7,_,_,rfl,h1,t7⟩:=wt_1 h1
   obtain ⟨ie,_,_,rfl,hie,h1,t8⟩:=wt_ie h1 (by omega)
   obtain ⟨dat,_,_,rfl,hdat,h1,t9⟩:=wt_s h1
   obtain ⟨b0,_,_,rfl,h1,_⟩:=wt_1 h1
   obtain ⟨b1,_,_,rfl,h1,_⟩:=wt_1 h1
   obtain ⟨b2,_,_,rfl,h1,_⟩:=wt_1 h1
   obtain ⟨b3,_,_,rfl,h1,_⟩:=wt_1 h1
   obtain ⟨pa,_,_,rfl,hpa,h1,_⟩:=wt_s h1
   obtain ⟨pd,_,_,rfl,hpd,h1,_⟩:=wt_s h1
   obtain ⟨bb,_,_,rfl,hbb,h1,_⟩:=wt_s h1
   cases wt_none h1
   refine ⟨⟨a0,a1,a2,a3,a4,a5,a6,a7,ie,dat,b0,b1,b2,b3,pa,pd,bb⟩::C,rfl,?_⟩
   intro e he
   rcases List.mem_cons.mp he with rfl|he
   ·exact ⟨hie,hdat,hpa,hpd,hbb⟩
   ·exact hC e he
theorem wt_cr {hp:Hp} {w:CV} {b:Nat} (h:WT hp [.sl scR] [w] b) (hb:b≤1048576):∃ C:List CR,SL hp 17 w (C.map encR)∧∀ r∈C,GR hp r:=by
 cases h with
 | nils h=>exact ⟨[],rfl,by simp⟩
 | sl e hn hr h=>
  cases h
  rename_i id n c rows
  obtain ⟨C,rfl,hC⟩:=wtr_cr hr (by omega)
  refine ⟨C.take n,?_,fun r hr=>hC r (List.mem_of_mem_take hr)⟩
  rw [List.map_take]
  exact sl_take e hn _
end
end Camp
