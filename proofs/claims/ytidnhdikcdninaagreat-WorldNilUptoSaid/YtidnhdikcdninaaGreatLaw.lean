/- Rows of events that are the same: contracts of what compares them. Packets and events that are the same. Rows of events that are the same; a world that there isn't; the law. The reference's rows of events; a world that there isn't; the law. Rows of events as arguments. -/
import Derived.Test.YtidnhdikcdninaaGreatUseB
import Derived.Test.YtidnhdikcdninaaGreatCode
import Derived.Test.YtidnhdikcdninaaGreatEngF
set_option linter.unnecessarySimpa false
set_option linter.unusedVariables false
set_option linter.unusedSimpArgs false
set_option linter.unusedSectionVars false
namespace Camp
open Go
section
set_option maxHeartbeats 4000000
def encU (b:UInt8):List CV:=[.int .u8 b.toNat]
theorem rowsBytes_u:∀ B:List UInt8,rowsBytes (B.map encU)=some B
 | []=>rfl
 | b::B=>by
  show (rowsBytes (B.map encU)).bind (fun l=>some (UInt8.ofNat ((b.toNat:Int)).toNat::l))=_
  rw [rowsBytes_u B,Option.bind_some,Int.toNat_natCast]
  simp
theorem b2s_u {t:List TV} {lc:List (List CV)} {h:Hp} {v:CV} {B:List UInt8} (hs:SL h 1 v (B.map encU)):convV ⟨t,lc,h⟩ .bytesToStr (.v (.c v))=some ⟨.v (.c (.str (bs B))),lc,h⟩:=by
 have hrd:sliceRows h lc 1 (.v (.c v))=some (B.map encU):=hs.read
 have hv:∀ s,v≠.str s:=by rintro s rfl;exact hs.elim
 cases v <;> first|exact absurd rfl (hv _)|skip
 all_goals
  simp only [convV,hrd,Option.bind_some,rowsBytes_u,Option.map_some]
  rfl
theorem str_eq (A B:List UInt8):∃ r:Bool,binC .eql .str (.str (bs A)) (.str (bs B))=some (.bool r)∧(r=true↔A=B):=by
 refine ⟨(bs A).toList == (bs B).toList,rfl,?_⟩
 have h1:∀ L:List UInt8,(bs L).toList=L:=fun L=>by simp [bs,ByteArray.toList_eq]
 rw [h1,h1]
 simp
section
variable {k:Nat} {h:Hp} {P:AV→Hp→Prop}
def EqI (h:Hp) (v w:CV) (n:Nat) (pre:Nat→Prop) (m:Nat) (s:St):Prop:=
 ∃ (i:Nat) (l:List (Nat × TV)) (lc:List (List CV)),s=ST 26 l lc h∧i≤n∧m=n-i∧pre i∧
  lk l 0 = .v (.c v)∧lk l 1 = .v (.c w)∧lk l 12 = .v (.c (.int .i64 n))∧lk l 13 = .v (.c (.int .i64 i))
theorem take_ne {α:Type} {a b:List α} (hl:a.length=b.length) {i:Nat} (hi:i<a.length) (hn:a[i]?≠b[i]?):a≠b:=by
 intro e;subst e;exact hn rfl
theorem eqL_ok {f:Nat} (hf:N f=some n13) {α:Type} {kd:IntKind} {g:α→Int} (hg:∀ x y,g x=g y→x=y) {v w:CV} {a b:List α} (hv:SL h 1 v (a.map fun x=>[.int kd (g x)])) (hw:SL h 1 w (b.map fun x=>[.int kd (g x)]))
 (ha:a.length≤4000000) (hb:b.length≤4000000) (hP:∀ r:Bool,(r=true↔a=b)→P (.c (.bool r)) h):callW N (k+1) f [.c v,.c w] h P:=by
 have hlen:∀ h':Hp,lenT h' .sl (.v (.c v))=some (a.length:Int):=fun h'=>by rw [hv.len h',List.length_map]
 have hlen2:∀ h':Hp,lenT h' .sl (.v (.c w))=some (b.length:Int):=fun h'=>by rw [hw.len h',List.length_map]
 refine call_intro hf (by simp only [List.length_cons,List.length_nil,n13];omega) ?_
 by_cases hl:a.length=b.length
 ·have hd:decide ((a.length:Int)=b.length)=true:=by simp [hl]
  have hd':(a.length:Int)=b.length:=by omega
  simp (maxSteps:=200000) -implicitDefEqProofs only [KA,KB,KC,KD,KE,KF,eq_self,ne_eq,↓reduceIte,Nat.reduceLT,Nat.reduceEqDiff,Nat.reduceAdd,Nat.reduceLeDiff,Nat.reduceSub,Nat.reduceMul,reduceCtorEq,hlen,hlen2,hd,hd']
  refine loop_rd (callW_mono N _) (EqI h v w b.length fun i=>a.take i=b.take i) (n:=b.length) ⟨0,_,_,rfl,by omega,by omega,by simp,rfl,rfl,by first|rfl|rw [←hl];rfl,rfl⟩ ?_
  rintro n s ⟨i,l,lc,rfl,hi,hn,hpre,e0,e1,e12,e13⟩
  by_cases hlt:(i:Int)<b.length
  ·obtain ⟨y,hy⟩:∃ y,a[i]? = some y:=⟨_,List.getElem?_eq_getElem (by omega)⟩
   obtain ⟨z,hz⟩:∃ z,b[i]? = some z:=⟨_,List.getElem?_eq_getElem (by omega)⟩
   obtain ⟨pid,ptok,pj,a1,a2⟩:=hv.at (i:=(i:Int)) (r:=[.int kd (g y)]) (by omega) (by simp [hy])
   obtain ⟨pid',ptok',pj',b1,b2⟩:=hw.at (i:=(i:Int)) (r:=[.int kd (g z)]) (by omega) (by simp [hz])
   have hww:=wrap_i64 (n:=(i:Int)+1) (by omega)
   by_cases hyz:g y=g z
   ·have hd2:decide (g y=g z)=true:=by simp [hyz]
    have hy2:=hg _ _ hyz
    subst hy2
    simp (maxSteps:=200000) -implicitDefEqProofs only [KA,KB,KC,KD,KE,KF,eq_self,ne_eq,↓reduceIte,Nat.reduceLT,Nat.reduceEqDiff,Nat.reduceAdd,Nat.reduceLeDiff,Nat.reduceSub,Nat.reduceMul,reduceCtorEq,e0,e1,e12,e13,hlt,a1,a2,b1,b2,hww,rd_n]
    exact ⟨n-1,by omega,i+1,_,_,rfl,by omega,by omega,by show a.take (i+1)=b.take (i+1);rw [take_snoc hy,take_snoc hz,hpre],rfl,rfl,rfl,rfl⟩
   ·simp (maxSteps:=200000) -implicitDefEqProofs only [KA,KB,KC,KD,KE,KF,eq_self,ne_eq,↓reduceIte,Nat.reduceLT,Nat.reduceEqDiff,Nat.reduceAdd,Nat.reduceLeDiff,Nat.reduceSub,Nat.reduceMul,reduceCtorEq,e0,e1,e12,e13,hlt,a1,a2,b1,b2,hyz,hww,rd_n]
    refine hP false ⟨(fun e=>by cases e),fun e=>?_⟩
    subst e
    rw [hy] at hz
    injection hz with hz
    subst hz
    exact absurd rfl hyz
  ·simp (maxSteps:=200000) -implicitDefEqProofs only [KA,KB,KC,KD,KE,KF,eq_self,ne_eq,↓reduceIte,Nat.reduceLT,Nat.reduceEqDiff,Nat.reduceAdd,Nat.reduceLeDiff,Nat.reduceSub,Nat.reduceMul,reduceCtorEq,e0,e1,e12,e13,hlt]
   refine hP true ⟨fun _=>?_,fun _=>rfl⟩
   rwa [List.take_of_length_le (by omega),List.take_of_length_le (by omega)] at hpre
 ·have hd:¬(a.length:Int)=b.length:=by omega
  simp (maxSteps:=200000) -implicitDefEqProofs only [KA,KB,KC,KD,KE,KF,eq_self,ne_eq,↓reduceIte,Nat.reduceLT,Nat.reduceEqDiff,Nat.reduceAdd,Nat.reduceLeDiff,Nat.reduceSub,Nat.reduceMul,reduceCtorEq,hlen,hlen2,hd]
  exact hP false ⟨(fun e=>by cases e),fun e=>absurd (congrArg List.length e) hl⟩
end
end
section
set_option maxHeartbeats 4000000
structure Pk where
 f:Int
 t:Int
 n:Int
 l:Int
 p:CV
 d:CV
 A:List Int
 B:List UInt8
def encP (x:Pk):List CV:=[.int .i64 x.f,.int .i64 x.t,.int .i64 x.n,.int .i64 x.l,x.p,x.d]
def gP (h:Hp) (x:Pk):Prop:=SL h 1 x.p (x.A.map encI)∧SL h 1 x.d (x.B.map encU)∧x.A.length≤4000000∧x.B.length≤4000000
def eqP (x y:Pk):Prop:=x.f=y.f∧x.t=y.t∧x.n=y.n∧x.l=y.l∧x.A=y.A∧x.B=y.B
section
variable {k:Nat} {h:Hp} {P:AV→Hp→Prop}
theorem encU_inj:∀ x y:UInt8,((x.toNat:Int))=((y.toNat:Int))→x=y:=by
 intro x y h
 exact UInt8.toNat_inj.mp (by omega)
theorem rsame_ok {x y:Pk} (hx:gP h x) (hy:gP h y) (hP:∀ r:Bool,(r=true↔eqP x y)→P (.c (.bool r)) h):callW N (k+2) 369 [.agg (encP x),.agg (encP y)] h P:=by
 obtain ⟨x1,x2,x3,x4⟩:=hx
 obtain ⟨y1,y2,y3,y4⟩:=hy
 unfold encP
 refine call_intro rfl (by simp only [List.length_cons,List.length_nil];omega) ?_
 by_cases c1:x.f=y.f
 ·by_cases c2:x.t=y.t
  ·by_cases c3:x.n=y.n
   ·by_cases c4:x.l=y.l
    ·simp (maxSteps:=200000) -implicitDefEqProofs only [KA,KB,KC,KD,KE,KF,eq_self,ne_eq,↓reduceIte,Nat.reduceLT,Nat.reduceEqDiff,Nat.reduceAdd,Nat.reduceLeDiff,Nat.reduceSub,Nat.reduceMul,reduceCtorEq,c1,c2,c3,c4]
     refine eqL_ok (f:=337) rfl (g:=fun x:Int=>x) (fun _ _ e=>e) x1 y1 x3 y3 fun r1 hr1=>?_
     cases r1 with
     | false=>
      simp (maxSteps:=200000) -implicitDefEqProofs only [KA,KB,KC,KD,KE,KF,eq_self,ne_eq,↓reduceIte,Nat.reduceLT,Nat.reduceEqDiff,Nat.reduceAdd,Nat.reduceLeDiff,Nat.reduceSub,Nat.reduceMul,reduceCtorEq]
      refine hP false ⟨(fun e=>by cases e),fun e=>?_⟩
      exact absurd (hr1.mpr e.2.2.2.2.1) (by simp)
     | true=>
      simp (maxSteps:=200000) -implicitDefEqProofs only [KA,KB,KC,KD,KE,KF,eq_self,ne_eq,↓reduceIte,Nat.reduceLT,Nat.reduceEqDiff,Nat.reduceAdd,Nat.reduceLeDiff,Nat.reduceSub,Nat.reduceMul,reduceCtorEq]
      refine eqL_ok (f:=386) rfl (g:=fun x:UInt8=>(x.toNat:Int)) encU_inj x2 y2 x4 y4 fun r2 hr2=>?_
      simp (maxSteps:=200000) -implicitDefEqProofs only [KA,KB,KC,KD,KE,KF,eq_self,ne_eq,↓reduceIte,Nat.reduceLT,Nat.reduceEqDiff,Nat.reduceAdd,Nat.reduceLeDiff,Nat.reduceSub,Nat.reduceMul,reduceCtorEq]
      exact hP r2 ⟨fun e=>⟨c1,c2,c3,c4,hr1.mp rfl,hr2.mp e⟩,fun e=>hr2.mpr e.2.2.2.2.2⟩
    ·simp (maxSteps:=200000) -implicitDefEqProofs only [KA,KB,KC,KD,KE,KF,eq_self,ne_eq,↓reduceIte,Nat.reduceLT,Nat.reduceEqDiff,Nat.reduceAdd,Nat.reduceLeDiff,Nat.reduceSub,Nat.reduceMul,reduceCtorEq,c1,c2,c3,c4]
     exact hP false ⟨(fun e=>by cases e),fun e=>absurd e.2.2.2.1 c4⟩
   ·simp (maxSteps:=200000) -implicitDefEqProofs only [KA,KB,KC,KD,KE,KF,eq_self,ne_eq,↓reduceIte,Nat.reduceLT,Nat.reduceEqDiff,Nat.reduceAdd,Nat.reduceLeDiff,Nat.reduceSub,Nat.reduceMul,reduceCtorEq,c1,c2,c3]
    exact hP false ⟨(fun e=>by cases e),fun e=>absurd e.2.2.1 c3⟩
  ·simp (maxSteps:=200000) -implicitDefEqProofs only [KA,KB,KC,KD,KE,KF,eq_self,ne_eq,↓reduceIte,Nat.reduceLT,Nat.reduceEqDiff,Nat.reduceAdd,Nat.reduceLeDiff,Nat.reduceSub,Nat.reduceMul,reduceCtorEq,c1,c2]
   exact hP false ⟨(fun e=>by cases e),fun e=>absurd e.2.1 c2⟩
 ·simp (maxSteps:=200000) -implicitDefEqProofs only [KA,KB,KC,KD,KE,KF,eq_self,ne_eq,↓reduceIte,Nat.reduceLT,Nat.reduceEqDiff,Nat.reduceAdd,Nat.reduceLeDiff,Nat.reduceSub,Nat.reduceMul,reduceCtorEq,c1]
  exact hP false ⟨(fun e=>by cases e),fun e=>absurd e.1 c1⟩
theorem psame_ok {x y:Pk} (hx:gP h x) (hy:gP h y) (hP:∀ r:Bool,(r=true↔eqP x y)→P (.c (.bool r)) h):callW N (k+2) 364 [.agg (encP x),.agg (encP y)] h P:=by
 obtain ⟨x1,x2,x3,x4⟩:=hx
 obtain ⟨y1,y2,y3,y4⟩:=hy
 unfold encP
 refine call_intro rfl (by simp only [List.length_cons,List.length_nil];omega) ?_
 by_cases c1:x.f=y.f
 ·by_cases c2:x.t=y.t
  ·by_cases c3:x.n=y.n
   ·by_cases c4:x.l=y.l
    ·simp (maxSteps:=200000) -implicitDefEqProofs only [KA,KB,KC,KD,KE,KF,eq_self,ne_eq,↓reduceIte,Nat.reduceLT,Nat.reduceEqDiff,Nat.reduceAdd,Nat.reduceLeDiff,Nat.reduceSub,Nat.reduceMul,reduceCtorEq,c1,c2,c3,c4]
     refine eqL_ok (f:=13) rfl (g:=fun x:Int=>x) (fun _ _ e=>e) x1 y1 x3 y3 fun r1 hr1=>?_
     cases r1 with
     | false=>
      simp (maxSteps:=200000) -implicitDefEqProofs only [KA,KB,KC,KD,KE,KF,eq_self,ne_eq,↓reduceIte,Nat.reduceLT,Nat.reduceEqDiff,Nat.reduceAdd,Nat.reduceLeDiff,Nat.reduceSub,Nat.reduceMul,reduceCtorEq]
      refine hP false ⟨(fun e=>by cases e),fun e=>?_⟩
      exact absurd (hr1.mpr e.2.2.2.2.1) (by simp)
     | true=>
      obtain ⟨r2,g1,hr2⟩:=str_eq x.B y.B
      have f1:∀ (t:List TV) (lc:List (List CV)),convV ⟨t,lc,h⟩ .bytesToStr (.v (.c x.d))=some ⟨.v (.c (.str (bs x.B))),lc,h⟩:=fun t lc=>b2s_u x2
      have f2:∀ (t:List TV) (lc:List (List CV)),convV ⟨t,lc,h⟩ .bytesToStr (.v (.c y.d))=some ⟨.v (.c (.str (bs y.B))),lc,h⟩:=fun t lc=>b2s_u y2
      simp (maxSteps:=200000) -implicitDefEqProofs only [KA,KB,KC,KD,KE,KF,eq_self,ne_eq,↓reduceIte,Nat.reduceLT,Nat.reduceEqDiff,Nat.reduceAdd,Nat.reduceLeDiff,Nat.reduceSub,Nat.reduceMul,reduceCtorEq,f1,f2,g1]
      exact hP r2 ⟨fun e=>⟨c1,c2,c3,c4,hr1.mp rfl,hr2.mp e⟩,fun e=>hr2.mpr e.2.2.2.2.2⟩
    ·simp (maxSteps:=200000) -implicitDefEqProofs only [KA,KB,KC,KD,KE,KF,eq_self,ne_eq,↓reduceIte,Nat.reduceLT,Nat.reduceEqDiff,Nat.reduceAdd,Nat.reduceLeDiff,Nat.reduceSub,Nat.reduceMul,reduceCtorEq,c1,c2,c3,c4]
     exact hP false ⟨(fun e=>by cases e),fun e=>absurd e.2.2.2.1 c4⟩
   ·simp (maxSteps:=200000) -implicitDefEqProofs only [KA,KB,KC,KD,KE,KF,eq_self,ne_eq,↓reduceIte,Nat.reduceLT,Nat.reduceEqDiff,Nat.reduceAdd,Nat.reduceLeDiff,Nat.reduceSub,Nat.reduceMul,reduceCtorEq,c1,c2,c3]
    exact hP false ⟨(fun e=>by cases e),fun e=>absurd e.2.2.1 c3⟩
  ·simp (maxSteps:=200000) -implicitDefEqProofs only [KA,KB,KC,KD,KE,KF,eq_self,ne_eq,↓reduceIte,Nat.reduceLT,Nat.reduceEqDiff,Nat.reduceAdd,Nat.reduceLeDiff,Nat.reduceSub,Nat.reduceMul,reduceCtorEq,c1,c2]
   exact hP false ⟨(fun e=>by cases e),fun e=>absurd e.2.1 c2⟩
 ·simp (maxSteps:=200000) -implicitDefEqProofs only [KA,KB,KC,KD,KE,KF,eq_self,ne_eq,↓reduceIte,Nat.reduceLT,Nat.reduceEqDiff,Nat.reduceAdd,Nat.reduceLeDiff,Nat.reduceSub,Nat.reduceMul,reduceCtorEq,c1]
  exact hP false ⟨(fun e=>by cases e),fun e=>absurd e.1 c1⟩
end
end
section
set_option maxHeartbeats 4000000
structure Ev where
 k:Int
 i:Int
 s:Int
 c:Int
 q:Pk
def encV (e:Ev):List CV:=[.int .i64 e.k,.int .i64 e.i,.int .i64 e.s,.int .i64 e.c,.int .i64 e.q.f,.int .i64 e.q.t,.int .i64 e.q.n,.int .i64 e.q.l,e.q.p,e.q.d]
def eqV (x y:Ev):Prop:=x.k=y.k∧x.i=y.i∧x.s=y.s∧x.c=y.c∧eqP x.q y.q
def eqVs:List Ev→List Ev→Prop
 | [],[]=>True
 | x::a,y::b=>eqV x y∧eqVs a b
 | _,_=>False
theorem eqVs_len:∀ {a b:List Ev},eqVs a b→a.length=b.length
 | [],[],_=>rfl
 | x::a,y::b,h=>by simp [eqVs_len h.2]
 | [],_::_,h=>h.elim
 | _::_,[],h=>h.elim
theorem eqVs_at:∀ {a b:List Ev} {i:Nat} {x y:Ev},eqVs a b→a[i]? = some x→b[i]? = some y→eqV x y
 | [],_,i,x,y,_,h1,_=>by simp at h1
 | _::_,[],i,x,y,h,_,_=>h.elim
 | x'::a,y'::b,0,x,y,h,h1,h2=>by
  simp at h1 h2
  subst h1;subst h2
  exact h.1
 | x'::a,y'::b,i+1,x,y,h,h1,h2=>eqVs_at (i:=i) h.2 (by simpa using h1) (by simpa using h2)
theorem eqVs_all:∀ {a b:List Ev},a.length=b.length→(∀ (i:Nat) (x y:Ev),a[i]? = some x→b[i]? = some y→eqV x y)→eqVs a b
 | [],[],_,_=>trivial
 | x::a,y::b,hl,h=>⟨h 0 x y rfl rfl,eqVs_all (by simpa using hl) fun i x' y' h1 h2=>h (i+1) x' y' (by simpa using h1) (by simpa using h2)⟩
 | [],_::_,hl,_=>by simp at hl
 | _::_,[],hl,_=>by simp at hl
section
variable {k:Nat} {h:Hp} {P:AV→Hp→Prop}
theorem esame_ok {x y:Ev} (hx:gP h x.q) (hy:gP h y.q) (hP:∀ r:Bool,(r=true↔eqV x y)→P (.c (.bool r)) h):callW N (k+3) 363 [.agg (encV x),.agg (encV y)] h P:=by
 unfold encV
 refine call_intro rfl (by simp only [List.length_cons,List.length_nil];omega) ?_
 by_cases c1:x.k=y.k
 ·by_cases c2:x.i=y.i
  ·by_cases c3:x.s=y.s
   ·by_cases c4:x.c=y.c
    ·simp (maxSteps:=200000) -implicitDefEqProofs only [KA,KB,KC,KD,KE,KF,eq_self,ne_eq,↓reduceIte,Nat.reduceLT,Nat.reduceEqDiff,Nat.reduceAdd,Nat.reduceLeDiff,Nat.reduceSub,Nat.reduceMul,reduceCtorEq,c1,c2,c3,c4]
     refine rsame_ok (k:=k) (x:=x.q) (y:=y.q) hx hy fun r hr=>?_
     simp (maxSteps:=200000) -implicitDefEqProofs only [KA,KB,KC,KD,KE,KF,eq_self,ne_eq,↓reduceIte,Nat.reduceLT,Nat.reduceEqDiff,Nat.reduceAdd,Nat.reduceLeDiff,Nat.reduceSub,Nat.reduceMul,reduceCtorEq]
     exact hP r ⟨fun e=>⟨c1,c2,c3,c4,hr.mp e⟩,fun e=>hr.mpr e.2.2.2.2⟩
    ·simp (maxSteps:=200000) -implicitDefEqProofs only [KA,KB,KC,KD,KE,KF,eq_self,ne_eq,↓reduceIte,Nat.reduceLT,Nat.reduceEqDiff,Nat.reduceAdd,Nat.reduceLeDiff,Nat.reduceSub,Nat.reduceMul,reduceCtorEq,c1,c2,c3,c4]
     exact hP false ⟨(fun e=>by cases e),fun e=>absurd e.2.2.2.1 c4⟩
   ·simp (maxSteps:=200000) -implicitDefEqProofs only [KA,KB,KC,KD,KE,KF,eq_self,ne_eq,↓reduceIte,Nat.reduceLT,Nat.reduceEqDiff,Nat.reduceAdd,Nat.reduceLeDiff,Nat.reduceSub,Nat.reduceMul,reduceCtorEq,c1,c2,c3]
    exact hP false ⟨(fun e=>by cases e),fun e=>absurd e.2.2.1 c3⟩
  ·simp (maxSteps:=200000) -implicitDefEqProofs only [KA,KB,KC,KD,KE,KF,eq_self,ne_eq,↓reduceIte,Nat.reduceLT,Nat.reduceEqDiff,Nat.reduceAdd,Nat.reduceLeDiff,Nat.reduceSub,Nat.reduceMul,reduceCtorEq,c1,c2]
   exact hP false ⟨(fun e=>by cases e),fun e=>absurd e.2.1 c2⟩
 ·simp (maxSteps:=200000) -implicitDefEqProofs only [KA,KB,KC,KD,KE,KF,eq_self,ne_eq,↓reduceIte,Nat.reduceLT,Nat.reduceEqDiff,Nat.reduceAdd,Nat.reduceLeDiff,Nat.reduceSub,Nat.reduceMul,reduceCtorEq,c1]
  exact hP false ⟨(fun e=>by cases e),fun e=>absurd e.1 c1⟩
def EfI (h:Hp) (v w:CV) (a b:List Ev) (n:Nat) (s:St):Prop:=∃ (i:Nat) (l:List (Nat × TV)) (lc:List (List CV)),s=ST 32 l lc h∧i≤a.length∧n=a.length-i∧
 (∀ (j:Nat) (x y:Ev),j<i→a[j]? = some x→b[j]? = some y→eqV x y)∧lk l 1 = .v (.c w)∧lk l 2 = .v (.c (.fn 363 []))∧lk l 15 = .v (.c v)∧lk l 16 = .v (.c (.int .i64 a.length))∧lk l 17 = .v (.c (.int .i64 i))
theorem efunc_ok {v w:CV} {a b:List Ev} (hv:SL h 10 v (a.map encV)) (hw:SL h 10 w (b.map encV)) (ga:∀ e∈a,gP h e.q) (gb:∀ e∈b,gP h e.q) (ha:a.length≤50) (hb:b.length≤50)
 (hP:∀ r:Bool,(r=true↔eqVs a b)→P (.c (.bool r)) h):callW N (k+4) 362 [.c v,.c w,.c (.fn 363 [])] h P:=by
 have hlen:∀ h':Hp,lenT h' .sl (.v (.c v))=some (a.length:Int):=fun h'=>by rw [hv.len h',List.length_map]
 have hlen2:∀ h':Hp,lenT h' .sl (.v (.c w))=some (b.length:Int):=fun h'=>by rw [hw.len h',List.length_map]
 refine call_intro rfl (by simp only [List.length_cons,List.length_nil];omega) ?_
 by_cases hl:a.length=b.length
 ·have hd:(a.length:Int)=b.length:=by omega
  simp (maxSteps:=200000) -implicitDefEqProofs only [KA,KB,KC,KD,KE,KF,eq_self,ne_eq,↓reduceIte,Nat.reduceLT,Nat.reduceEqDiff,Nat.reduceAdd,Nat.reduceLeDiff,Nat.reduceSub,Nat.reduceMul,reduceCtorEq,hlen,hlen2,hd]
  refine loop_rd (callW_mono N _) (EfI h v w a b) (n:=a.length) ⟨0,_,_,rfl,by omega,by omega,by intro j x y hj;omega,rfl,rfl,rfl,by rw [hd];rfl,rfl⟩ ?_
  rintro n s ⟨i,l,lc,rfl,hi,hn,hpre,e1,e2,e15,e16,e17⟩
  by_cases hlt:(i:Int)<a.length
  ·obtain ⟨y,hy⟩:∃ y,a[i]? = some y:=⟨_,List.getElem?_eq_getElem (by omega)⟩
   obtain ⟨z,hz⟩:∃ z,b[i]? = some z:=⟨_,List.getElem?_eq_getElem (by omega)⟩
   obtain ⟨pid,ptok,pj,a1,a2⟩:=hv.at (i:=(i:Int)) (r:=encV y) (by omega) (by simp [hy])
   obtain ⟨pid',ptok',pj',b1,b2⟩:=hw.at (i:=(i:Int)) (r:=encV z) (by omega) (by simp [hz])
   have hww:=wrap_i64 (n:=(i:Int)+1) (by omega)
   unfold encV at a2 b2
   simp (maxSteps:=200000) -implicitDefEqProofs only [KA,KB,KC,KD,KE,KF,eq_self,ne_eq,↓reduceIte,Nat.reduceLT,Nat.reduceEqDiff,Nat.reduceAdd,Nat.reduceLeDiff,Nat.reduceSub,Nat.reduceMul,reduceCtorEq,e1,e2,e15,e16,e17,hlt,a1,a2,b1,b2]
   refine esame_ok (k:=k) (x:=y) (y:=z) (ga y (List.mem_of_getElem? hy)) (gb z (List.mem_of_getElem? hz)) fun r hr=>?_
   cases r with
   | false=>
    simp (maxSteps:=200000) -implicitDefEqProofs only [KA,KB,KC,KD,KE,KF,eq_self,ne_eq,↓reduceIte,Nat.reduceLT,Nat.reduceEqDiff,Nat.reduceAdd,Nat.reduceLeDiff,Nat.reduceSub,Nat.reduceMul,reduceCtorEq,e1,e2,e15,e16,e17]
    refine hP false ⟨(fun e=>by cases e),fun e=>?_⟩
    exact hr.mpr (eqVs_at e hy hz)
   | true=>
    simp (maxSteps:=200000) -implicitDefEqProofs only [KA,KB,KC,KD,KE,KF,eq_self,ne_eq,↓reduceIte,Nat.reduceLT,Nat.reduceEqDiff,Nat.reduceAdd,Nat.reduceLeDiff,Nat.reduceSub,Nat.reduceMul,reduceCtorEq,e1,e2,e15,e16,e17,hww,rd_n]
    refine ⟨n-1,by omega,i+1,_,_,rfl,by omega,by omega,?_,rfl,rfl,rfl,rfl,rfl⟩
    intro j x' y' hj h1 h2
    rcases Nat.lt_or_ge j i with hji|hji
    ·exact hpre j x' y' hji h1 h2
    ·have:j=i:=by omega
     subst this
     rw [hy] at h1;rw [hz] at h2
     injection h1 with h1;injection h2 with h2
     subst h1;subst h2
     exact hr.mp rfl
  ·simp (maxSteps:=200000) -implicitDefEqProofs only [KA,KB,KC,KD,KE,KF,eq_self,ne_eq,↓reduceIte,Nat.reduceLT,Nat.reduceEqDiff,Nat.reduceAdd,Nat.reduceLeDiff,Nat.reduceSub,Nat.reduceMul,reduceCtorEq,e1,e2,e15,e16,e17,hlt]
   refine hP true ⟨fun _=>eqVs_all hl fun i' x' y' h1 h2=>hpre i' x' y' ?_ h1 h2,fun _=>rfl⟩
   have:=(List.getElem?_eq_some_iff.mp h1).1
   omega
 ·have hd:¬(a.length:Int)=b.length:=by omega
  simp (maxSteps:=200000) -implicitDefEqProofs only [KA,KB,KC,KD,KE,KF,eq_self,ne_eq,↓reduceIte,Nat.reduceLT,Nat.reduceEqDiff,Nat.reduceAdd,Nat.reduceLeDiff,Nat.reduceSub,Nat.reduceMul,reduceCtorEq,hlen,hlen2,hd]
  exact hP false ⟨(fun e=>by cases e),fun e=>absurd (eqVs_len e) hl⟩
theorem wsame_ok {v w:CV} {a b:List Ev} (hv:SL h 10 v (a.map encV)) (hw:SL h 10 w (b.map encV)) (ga:∀ e∈a,gP h e.q) (gb:∀ e∈b,gP h e.q) (ha:a.length≤50) (hb:b.length≤50)
 (hP:∀ r:Bool,(r=true↔eqVs a b)→P (.c (.bool r)) h):callW N (k+5) 354 [.c v,.c w] h P:=by
 refine call_intro rfl (by simp only [List.length_cons,List.length_nil];omega) ?_
 simp (maxSteps:=200000) -implicitDefEqProofs only [KA,KB,KC,KD,KE,KF,eq_self,ne_eq,↓reduceIte,Nat.reduceLT,Nat.reduceEqDiff,Nat.reduceAdd,Nat.reduceLeDiff,Nat.reduceSub,Nat.reduceMul,reduceCtorEq]
 refine efunc_ok (k:=k) hv hw ga gb ha hb fun r hr=>?_
 simp (maxSteps:=200000) -implicitDefEqProofs only [KA,KB,KC,KD,KE,KF,eq_self,ne_eq,↓reduceIte,Nat.reduceLT,Nat.reduceEqDiff,Nat.reduceAdd,Nat.reduceLeDiff,Nat.reduceSub,Nat.reduceMul,reduceCtorEq]
 exact hP r hr
end
end
section
set_option maxHeartbeats 4000000
section
variable {k:Nat} {h:Hp} {P:AV→Hp→Prop}
def SeI (h:Hp) (v w:CV) (a b:List Ev) (n:Nat) (s:St):Prop:=∃ (i:Nat) (l:List (Nat × TV)) (lc:List (List CV)),s=ST 59 l lc h∧i≤a.length∧n=a.length-i∧
 (∀ (j:Nat) (x y:Ev),j<i→a[j]? = some x→b[j]? = some y→eqV x y)∧lk l 1 = .v (.c w)∧lk l 13 = .v (.c v)∧lk l 14 = .v (.c (.int .i64 a.length))∧lk l 15 = .v (.c (.int .i64 i))
theorem rsames_ok {v w:CV} {a b:List Ev} (hv:SL h 10 v (a.map encV)) (hw:SL h 10 w (b.map encV)) (ga:∀ e∈a,gP h e.q) (gb:∀ e∈b,gP h e.q) (ha:a.length≤50) (hb:b.length≤50)
 (hP:∀ r:Bool,(r=true↔eqVs a b)→P (.c (.bool r)) h):callW N (k+3) 355 [.c v,.c w] h P:=by
 have hlen:∀ h':Hp,lenT h' .sl (.v (.c v))=some (a.length:Int):=fun h'=>by rw [hv.len h',List.length_map]
 have hlen2:∀ h':Hp,lenT h' .sl (.v (.c w))=some (b.length:Int):=fun h'=>by rw [hw.len h',List.length_map]
 refine call_intro rfl (by simp only [List.length_cons,List.length_nil];omega) ?_
 by_cases hl:a.length=b.length
 ·have hd:(a.length:Int)=b.length:=by omega
  simp (maxSteps:=200000) -implicitDefEqProofs only [KA,KB,KC,KD,KE,KF,eq_self,ne_eq,↓reduceIte,Nat.reduceLT,Nat.reduceEqDiff,Nat.reduceAdd,Nat.reduceLeDiff,Nat.reduceSub,Nat.reduceMul,reduceCtorEq,hlen,hlen2,hd]
  refine loop_rd (callW_mono N _) (SeI h v w a b) (n:=a.length) ⟨0,_,_,rfl,by omega,by omega,by intro j x y hj;omega,rfl,rfl,by rw [hd];rfl,rfl⟩ ?_
  rintro n s ⟨i,l,lc,rfl,hi,hn,hpre,e1,e13,e14,e15⟩
  by_cases hlt:(i:Int)<a.length
  ·obtain ⟨x,hx⟩:∃ y,a[i]? = some y:=⟨_,List.getElem?_eq_getElem (by omega)⟩
   obtain ⟨y,hy⟩:∃ z,b[i]? = some z:=⟨_,List.getElem?_eq_getElem (by omega)⟩
   obtain ⟨pid,ptok,pj,a1,a2⟩:=hv.at (i:=(i:Int)) (r:=encV x) (by omega) (by simp [hx])
   obtain ⟨pid',ptok',pj',b1,b2⟩:=hw.at (i:=(i:Int)) (r:=encV y) (by omega) (by simp [hy])
   have hww:=wrap_i64 (n:=(i:Int)+1) (by omega)
   have no:¬eqV x y→¬eqVs a b:=fun hn e=>hn (eqVs_at e hx hy)
   unfold encV at a2 b2
   by_cases c1:x.k=y.k
   ·by_cases c2:x.i=y.i
    ·by_cases c3:x.s=y.s
     ·by_cases c4:x.c=y.c
      ·simp (maxSteps:=200000) -implicitDefEqProofs only [KA,KB,KC,KD,KE,KF,eq_self,ne_eq,↓reduceIte,Nat.reduceLT,Nat.reduceEqDiff,Nat.reduceAdd,Nat.reduceLeDiff,Nat.reduceSub,Nat.reduceMul,reduceCtorEq,e1,e13,e14,e15,hlt,a1,a2,b1,b2,c1,c2,c3,c4]
       refine psame_ok (k:=k) (x:=x.q) (y:=y.q) (ga x (List.mem_of_getElem? hx)) (gb y (List.mem_of_getElem? hy)) fun r hr=>?_
       cases r with
       | false=>
        simp (maxSteps:=200000) -implicitDefEqProofs only [KA,KB,KC,KD,KE,KF,eq_self,ne_eq,↓reduceIte,Nat.reduceLT,Nat.reduceEqDiff,Nat.reduceAdd,Nat.reduceLeDiff,Nat.reduceSub,Nat.reduceMul,reduceCtorEq,e1,e13,e14,e15]
        exact hP false ⟨(fun e=>by cases e),fun e=>hr.mpr (eqVs_at e hx hy).2.2.2.2⟩
       | true=>
        simp (maxSteps:=200000) -implicitDefEqProofs only [KA,KB,KC,KD,KE,KF,eq_self,ne_eq,↓reduceIte,Nat.reduceLT,Nat.reduceEqDiff,Nat.reduceAdd,Nat.reduceLeDiff,Nat.reduceSub,Nat.reduceMul,reduceCtorEq,e1,e13,e14,e15,hww,rd_n]
        refine ⟨n-1,by omega,i+1,_,_,rfl,by omega,by omega,?_,rfl,rfl,rfl,rfl⟩
        intro j x' y' hj h1 h2
        rcases Nat.lt_or_ge j i with hji|hji
        ·exact hpre j x' y' hji h1 h2
        ·have:j=i:=by omega
         subst this
         rw [hx] at h1;rw [hy] at h2
         injection h1 with h1;injection h2 with h2
         subst h1;subst h2
         exact ⟨c1,c2,c3,c4,hr.mp rfl⟩
      ·simp (maxSteps:=200000) -implicitDefEqProofs only [KA,KB,KC,KD,KE,KF,eq_self,ne_eq,↓reduceIte,Nat.reduceLT,Nat.reduceEqDiff,Nat.reduceAdd,Nat.reduceLeDiff,Nat.reduceSub,Nat.reduceMul,reduceCtorEq,e1,e13,e14,e15,hlt,a1,a2,b1,b2,c1,c2,c3,c4]
       exact hP false ⟨(fun e=>by cases e),fun e=>absurd (eqVs_at e hx hy).2.2.2.1 c4⟩
     ·simp (maxSteps:=200000) -implicitDefEqProofs only [KA,KB,KC,KD,KE,KF,eq_self,ne_eq,↓reduceIte,Nat.reduceLT,Nat.reduceEqDiff,Nat.reduceAdd,Nat.reduceLeDiff,Nat.reduceSub,Nat.reduceMul,reduceCtorEq,e1,e13,e14,e15,hlt,a1,a2,b1,b2,c1,c2,c3]
      exact hP false ⟨(fun e=>by cases e),fun e=>absurd (eqVs_at e hx hy).2.2.1 c3⟩
    ·simp (maxSteps:=200000) -implicitDefEqProofs only [KA,KB,KC,KD,KE,KF,eq_self,ne_eq,↓reduceIte,Nat.reduceLT,Nat.reduceEqDiff,Nat.reduceAdd,Nat.reduceLeDiff,Nat.reduceSub,Nat.reduceMul,reduceCtorEq,e1,e13,e14,e15,hlt,a1,a2,b1,b2,c1,c2]
     exact hP false ⟨(fun e=>by cases e),fun e=>absurd (eqVs_at e hx hy).2.1 c2⟩
   ·simp (maxSteps:=200000) -implicitDefEqProofs only [KA,KB,KC,KD,KE,KF,eq_self,ne_eq,↓reduceIte,Nat.reduceLT,Nat.reduceEqDiff,Nat.reduceAdd,Nat.reduceLeDiff,Nat.reduceSub,Nat.reduceMul,reduceCtorEq,e1,e13,e14,e15,hlt,a1,a2,b1,b2,c1]
    exact hP false ⟨(fun e=>by cases e),fun e=>absurd (eqVs_at e hx hy).1 c1⟩
  ·simp (maxSteps:=200000) -implicitDefEqProofs only [KA,KB,KC,KD,KE,KF,eq_self,ne_eq,↓reduceIte,Nat.reduceLT,Nat.reduceEqDiff,Nat.reduceAdd,Nat.reduceLeDiff,Nat.reduceSub,Nat.reduceMul,reduceCtorEq,e1,e13,e14,e15,hlt]
   refine hP true ⟨fun _=>eqVs_all hl fun i' x' y' h1 h2=>hpre i' x' y' ?_ h1 h2,fun _=>rfl⟩
   have:=(List.getElem?_eq_some_iff.mp h1).1
   omega
 ·have hd:¬(a.length:Int)=b.length:=by omega
  simp (maxSteps:=200000) -implicitDefEqProofs only [KA,KB,KC,KD,KE,KF,eq_self,ne_eq,↓reduceIte,Nat.reduceLT,Nat.reduceEqDiff,Nat.reduceAdd,Nat.reduceLeDiff,Nat.reduceSub,Nat.reduceMul,reduceCtorEq,hlen,hlen2,hd]
  exact hP false ⟨(fun e=>by cases e),fun e=>absurd (eqVs_len e) hl⟩
theorem doN_ok {a b c d e f g i:CV} (hP:P (.tup [.c .nils,.c (.int .i64 1)]) h):callW N (k+1) 350 [.c .nilp,.agg [a,b,c,d,e,f,g,i]] h P:=by
 refine call_intro rfl (by simp only [List.length_cons,List.length_nil];omega) ?_
 simp (maxSteps:=200000) -implicitDefEqProofs only [KA,KB,KC,KD,KE,KF,eq_self,ne_eq,↓reduceIte,Nat.reduceLT,Nat.reduceEqDiff,Nat.reduceAdd,Nat.reduceLeDiff,Nat.reduceSub,Nat.reduceMul,reduceCtorEq,hP]
theorem hasN_ok {x:CV} (hP:P (.c (.bool false)) h):callW N (k+1) 361 [.c .nilp,.c x] h P:=by
 refine call_intro rfl (by simp only [List.length_cons,List.length_nil];omega) ?_
 simp (maxSteps:=200000) -implicitDefEqProofs only [KA,KB,KC,KD,KE,KF,eq_self,ne_eq,↓reduceIte,Nat.reduceLT,Nat.reduceEqDiff,Nat.reduceAdd,Nat.reduceLeDiff,Nat.reduceSub,Nat.reduceMul,reduceCtorEq,hP]
theorem boundN_ok {x:CV} (hP:P (.tup [.c (.int .i64 0),.c (.bool false)]) h):callW N (k+2) 351 [.c .nilp,.c x] h P:=by
 refine call_intro rfl (by simp only [List.length_cons,List.length_nil];omega) ?_
 simp (maxSteps:=200000) -implicitDefEqProofs only [KA,KB,KC,KD,KE,KF,eq_self,ne_eq,↓reduceIte,Nat.reduceLT,Nat.reduceEqDiff,Nat.reduceAdd,Nat.reduceLeDiff,Nat.reduceSub,Nat.reduceMul,reduceCtorEq]
 refine hasN_ok (k:=k) ?_
 simp (maxSteps:=200000) -implicitDefEqProofs only [KA,KB,KC,KD,KE,KF,eq_self,ne_eq,↓reduceIte,Nat.reduceLT,Nat.reduceEqDiff,Nat.reduceAdd,Nat.reduceLeDiff,Nat.reduceSub,Nat.reduceMul,reduceCtorEq,hP]
theorem asnN_ok (hP:P (.c (.int .i64 0)) h):callW N (k+1) 352 [.c .nilp] h P:=by
 refine call_intro rfl (by simp only [List.length_cons,List.length_nil];omega) ?_
 simp (maxSteps:=200000) -implicitDefEqProofs only [KA,KB,KC,KD,KE,KF,eq_self,ne_eq,↓reduceIte,Nat.reduceLT,Nat.reduceEqDiff,Nat.reduceAdd,Nat.reduceLeDiff,Nat.reduceSub,Nat.reduceMul,reduceCtorEq,hP]
theorem nodeN_ok {x:CV} (hP:P (.c .nilp) h):callW N (k+2) 353 [.c .nilp,.c x] h P:=by
 refine call_intro rfl (by simp only [List.length_cons,List.length_nil];omega) ?_
 simp (maxSteps:=200000) -implicitDefEqProofs only [KA,KB,KC,KD,KE,KF,eq_self,ne_eq,↓reduceIte,Nat.reduceLT,Nat.reduceEqDiff,Nat.reduceAdd,Nat.reduceLeDiff,Nat.reduceSub,Nat.reduceMul,reduceCtorEq]
 refine hasN_ok (k:=k) ?_
 simp (maxSteps:=200000) -implicitDefEqProofs only [KA,KB,KC,KD,KE,KF,eq_self,ne_eq,↓reduceIte,Nat.reduceLT,Nat.reduceEqDiff,Nat.reduceAdd,Nat.reduceLeDiff,Nat.reduceSub,Nat.reduceMul,reduceCtorEq,hP]
theorem awakeWn_ok (hP:P (.c (.bool true)) h):callW N (k+1) 349 [] h P:=⟨awakeN,rfl,by simp,[],.c (.bool true),rfl,rfl,rfl,.inr rfl,_,rfl,hP⟩
theorem worldNil_ok {s1 s2 s3 s4 s5 s6 s7 s8 v w:CV} {a b:List Ev} (hv:SL h 10 v (a.map encV)) (hw:SL h 10 w (b.map encV)) (ga:∀ e∈a,gP h e.q) (gb:∀ e∈b,gP h e.q)
 (hP:∀ h',P (.c (.bool true)) h'):callW N (k+6) 348 [.agg [s1,s2,s3,s4,s5,s6,s7,s8],.c v,.c w] h P:=by
 have hlen:∀ h':Hp,lenT h' .sl (.v (.c v))=some (a.length:Int):=fun h'=>by rw [hv.len h',List.length_map]
 have hlen2:∀ h':Hp,lenT h' .sl (.v (.c w))=some (b.length:Int):=fun h'=>by rw [hw.len h',List.length_map]
 have hlen3:∀ h',lenT h' .sl (.v (.c .nils))=some 0:=fun _=>rfl
 refine call_intro rfl (by simp only [List.length_cons,List.length_nil];omega) ?_
 by_cases c1:(50:Int)<a.length
 ·simp (maxSteps:=200000) -implicitDefEqProofs only [KA,KB,KC,KD,KE,KF,eq_self,ne_eq,↓reduceIte,Nat.reduceLT,Nat.reduceEqDiff,Nat.reduceAdd,Nat.reduceLeDiff,Nat.reduceSub,Nat.reduceMul,reduceCtorEq,hlen,hlen2,c1]
  refine awakeWn_ok (k:=k+4) ?_
  simp (maxSteps:=200000) -implicitDefEqProofs only [KA,KB,KC,KD,KE,KF,eq_self,ne_eq,↓reduceIte,Nat.reduceLT,Nat.reduceEqDiff,Nat.reduceAdd,Nat.reduceLeDiff,Nat.reduceSub,Nat.reduceMul,reduceCtorEq,hP]
 ·by_cases c2:(50:Int)<b.length
  ·simp (maxSteps:=200000) -implicitDefEqProofs only [KA,KB,KC,KD,KE,KF,eq_self,ne_eq,↓reduceIte,Nat.reduceLT,Nat.reduceEqDiff,Nat.reduceAdd,Nat.reduceLeDiff,Nat.reduceSub,Nat.reduceMul,reduceCtorEq,hlen,hlen2,c1,c2]
   refine awakeWn_ok (k:=k+4) ?_
   simp (maxSteps:=200000) -implicitDefEqProofs only [KA,KB,KC,KD,KE,KF,eq_self,ne_eq,↓reduceIte,Nat.reduceLT,Nat.reduceEqDiff,Nat.reduceAdd,Nat.reduceLeDiff,Nat.reduceSub,Nat.reduceMul,reduceCtorEq,hP]
  ·simp (maxSteps:=200000) -implicitDefEqProofs only [KA,KB,KC,KD,KE,KF,eq_self,ne_eq,↓reduceIte,Nat.reduceLT,Nat.reduceEqDiff,Nat.reduceAdd,Nat.reduceLeDiff,Nat.reduceSub,Nat.reduceMul,reduceCtorEq,hlen,hlen2,c1,c2]
   refine doN_ok (k:=k+4) ?_
   simp (maxSteps:=200000) -implicitDefEqProofs only [KA,KB,KC,KD,KE,KF,eq_self,ne_eq,↓reduceIte,Nat.reduceLT,Nat.reduceEqDiff,Nat.reduceAdd,Nat.reduceLeDiff,Nat.reduceSub,Nat.reduceMul,reduceCtorEq,hlen3]
   refine boundN_ok (k:=k+3) ?_
   simp (maxSteps:=200000) -implicitDefEqProofs only [KA,KB,KC,KD,KE,KF,eq_self,ne_eq,↓reduceIte,Nat.reduceLT,Nat.reduceEqDiff,Nat.reduceAdd,Nat.reduceLeDiff,Nat.reduceSub,Nat.reduceMul,reduceCtorEq,hlen3]
   refine asnN_ok (k:=k+4) ?_
   simp (maxSteps:=200000) -implicitDefEqProofs only [KA,KB,KC,KD,KE,KF,eq_self,ne_eq,↓reduceIte,Nat.reduceLT,Nat.reduceEqDiff,Nat.reduceAdd,Nat.reduceLeDiff,Nat.reduceSub,Nat.reduceMul,reduceCtorEq]
   refine nodeN_ok (k:=k+3) ?_
   simp (maxSteps:=200000) -implicitDefEqProofs only [KA,KB,KC,KD,KE,KF,eq_self,ne_eq,↓reduceIte,Nat.reduceLT,Nat.reduceEqDiff,Nat.reduceAdd,Nat.reduceLeDiff,Nat.reduceSub,Nat.reduceMul,reduceCtorEq]
   refine wsame_ok (k:=k) hv hw ga gb (by omega) (by omega) fun r hr=>?_
   simp (maxSteps:=200000) -implicitDefEqProofs only [KA,KB,KC,KD,KE,KF,eq_self,ne_eq,↓reduceIte,Nat.reduceLT,Nat.reduceEqDiff,Nat.reduceAdd,Nat.reduceLeDiff,Nat.reduceSub,Nat.reduceMul,reduceCtorEq]
   refine rsames_ok (k:=k+2) hv hw ga gb (by omega) (by omega) fun r' hr'=>?_
   have:r=r':=Bool.eq_iff_iff.mpr (hr.trans hr'.symm)
   subst this
   have hb:(r == r)=true:=by cases r <;> rfl
   simp (maxSteps:=200000) -implicitDefEqProofs only [KA,KB,KC,KD,KE,KF,eq_self,ne_eq,↓reduceIte,Nat.reduceLT,Nat.reduceEqDiff,Nat.reduceAdd,Nat.reduceLeDiff,Nat.reduceSub,Nat.reduceMul,reduceCtorEq,hb]
   refine awakeWn_ok (k:=k+4) ?_
   simp (maxSteps:=200000) -implicitDefEqProofs only [KA,KB,KC,KD,KE,KF,eq_self,ne_eq,↓reduceIte,Nat.reduceLT,Nat.reduceEqDiff,Nat.reduceAdd,Nat.reduceLeDiff,Nat.reduceSub,Nat.reduceMul,reduceCtorEq,hP]
end
end
section
theorem sl_take {h:Hp} {sz id n:Nat} {rows:List (List CV)} (e:h.obs[id]? = some (.rows false sz 0 0 rows)) (hn:n≤rows.length) (c:Option Nat):SL h sz (.sl id 0 0 n c) (rows.take n):=
 ⟨false,0,0,rows,e,Nat.le_refl _,by omega,by simp⟩
theorem encU_of {n:Int} (h:(Lit.int .u8 n).wf=true):∃ b:UInt8,[CV.int .u8 n] = encU b:=by
 have hb:0≤n∧n≤255:=by
  simp only [Lit.wf,Bool.and_eq_true,decide_eq_true_eq] at h
  exact h
 refine ⟨UInt8.ofNat n.toNat,?_⟩
 unfold encU
 have:(UInt8.ofNat n.toNat).toNat=n.toNat:=by
  rw [UInt8.toNat_ofNat']
  exact Nat.mod_eq_of_lt (by omega)
 rw [this]
 congr 2
 omega
theorem wtr_i {hp:Hp} {rows:List (List CV)} {b:Nat} (h:WTR hp [.int .i64] rows b):∃ L:List Int,rows=L.map encI∧L.length≤b:=by
 induction rows generalizing b with
 | nil=>exact ⟨[],rfl,Nat.zero_le _⟩
 | cons r rs ih=>
  cases h with
  | cons h1 h2=>
   obtain ⟨L,rfl,hl⟩:=ih h2
   cases h1 with
   | int _ h1=>cases h1;exact ⟨_::L,rfl,by rw [List.length_cons];omega⟩
theorem wtr_u {hp:Hp} {rows:List (List CV)} {b:Nat} (h:WTR hp [.int .u8] rows b):∃ L:List UInt8,rows=L.map encU∧L.length≤b:=by
 induction rows generalizing b with
 | nil=>exact ⟨[],rfl,Nat.zero_le _⟩
 | cons r rs ih=>
  cases h with
  | cons h1 h2=>
   obtain ⟨L,rfl,hl⟩:=ih h2
   cases h1 with
   | int hw h1=>
    cases h1
    obtain ⟨b,hb⟩:=encU_of hw
    exact ⟨b::L,by rw [List.map_cons,hb],by rw [List.length_cons];omega⟩
theorem wt_i {hp:Hp} {w:CV} {cs:List CV} {s:List Sc} {b:Nat} (h:WT hp (.sl [.int .i64]::s) (w::cs) b):∃ (L:List Int) (b':Nat),SL hp 1 w (L.map encI)∧L.length+b'≤b∧WT hp s cs b':=by
 cases h with
 | nils h=>exact ⟨[],_,rfl,by simp,h⟩
 | sl e hn hr h=>
  rename_i id n c rows b'
  obtain ⟨L,rfl,hl⟩:=wtr_i hr
  refine ⟨L.take n,b',?_,?_,h⟩
  ·rw [List.map_take];exact sl_take e hn _
  ·rw [List.length_take];omega
theorem wt_u {hp:Hp} {w:CV} {cs:List CV} {s:List Sc} {b:Nat} (h:WT hp (.sl [.int .u8]::s) (w::cs) b):∃ (L:List UInt8) (b':Nat),SL hp 1 w (L.map encU)∧L.length+b'≤b∧WT hp s cs b':=by
 cases h with
 | nils h=>exact ⟨[],_,rfl,by simp,h⟩
 | sl e hn hr h=>
  rename_i id n c rows b'
  obtain ⟨L,rfl,hl⟩:=wtr_u hr
  refine ⟨L.take n,b',?_,?_,h⟩
  ·rw [List.map_take];exact sl_take e hn _
  ·rw [List.length_take];omega
theorem wt_head {hp:Hp} {s:Sc} {ss:List Sc} {cs:List CV} {b:Nat} (h:WT hp (s::ss) cs b):∃ c cs' b',cs=c::cs'∧WT hp ss cs' b'∧b'≤b:=by
 cases h with
 | int _ h=>exact ⟨_,_,_,rfl,h,by omega⟩
 | bool h=>exact ⟨_,_,_,rfl,h,by omega⟩
 | str h=>exact ⟨_,_,_,rfl,h,by omega⟩
 | nils h=>exact ⟨_,_,_,rfl,h,by omega⟩
 | sl _ _ _ h=>exact ⟨_,_,_,rfl,h,by omega⟩
theorem wt_none {hp:Hp} {cs:List CV} {b:Nat} (h:WT hp [] cs b):cs=[]:=by cases h;rfl
theorem wtr_ev {hp:Hp} {rows:List (List CV)} {b:Nat} (h:WTR hp [.int .i64,.int .i64,.int .i64,.int .i64,.int .i64,.int .i64,.int .i64,.int .i64,.sl [.int .i64],.sl [.int .u8]] rows b) (hb:b≤1048576) :
 ∃ C:List Ev,rows=C.map encV∧∀ e∈C,gP hp e.q:=by
 induction rows generalizing b with
 | nil=>exact ⟨[],rfl,by simp⟩
 | cons r rs ih=>
  cases h with
  | cons h1 h2=>
   obtain ⟨C,rfl,hC⟩:=ih h2 (by omega)
   cases h1 with
   | int _ h1=>cases h1 with
    | int _ h1=>cases h1 with
     | int _ h1=>cases h1 with
      | int _ h1=>cases h1 with
       | int _ h1=>cases h1 with
        | int _ h1=>cases h1 with
         | int _ h1=>cases h1 with
          | int _ h1=>
           obtain ⟨p,t1,b1,rfl,_,_⟩:=wt_head h1
           obtain ⟨L,b2,hL,hl,h1⟩:=wt_i h1
           obtain ⟨d,t2,b3,rfl,_,_⟩:=wt_head h1
           obtain ⟨M,b4,hM,hm,h1⟩:=wt_u h1
           cases wt_none h1
           refine ⟨⟨_,_,_,_,⟨_,_,_,_,p,d,L,M⟩⟩::C,rfl,?_⟩
           intro e he
           rcases List.mem_cons.mp he with rfl|he
           ·exact ⟨hL,hM,by show L.length≤_;omega,by show M.length≤_;omega⟩
           ·exact hC e he
theorem wt_ev {hp:Hp} {w:CV} {b:Nat} (h:WT hp [.sl [.int .i64,.int .i64,.int .i64,.int .i64,.int .i64,.int .i64,.int .i64,.int .i64,.sl [.int .i64],.sl [.int .u8]]] [w] b) (hb:b≤1048576) :
 ∃ C:List Ev,SL hp 10 w (C.map encV)∧∀ e∈C,gP hp e.q:=by
 cases h with
 | nils h=>exact ⟨[],rfl,by simp⟩
 | sl e hn hr h=>
  cases h
  rename_i id n c rows
  obtain ⟨C,rfl,hC⟩:=wtr_ev hr (by omega)
  refine ⟨C.take n,?_,fun r hr=>hC r (List.mem_of_mem_take hr)⟩
  rw [List.map_take]
  exact sl_take e hn _
end
end Camp
