/- The reader of bits. The reader of bits: bytes that are left; numbers, texts, the end. The reader of bits: texts; a reader at first. Elements: kinds, what is right, plain; an element out of bytes. Elements out of bytes. Elements of bytes: all of them. Elements: copies, what may be, what is found. Frames out of bytes. Frames out of bytes: Decode. -/
import Derived.Test.YtjcbeikfobfjmaaGreatLaw
import Derived.Test.YtjcbeikfobfjmaaGreatUseB
set_option linter.unnecessarySimpa false
set_option linter.unusedVariables false
set_option linter.unusedSimpArgs false
set_option linter.unusedSectionVars false
namespace Camp
open Go
open Nat (reduceLT reduceEqDiff reduceAdd reduceLeDiff reduceSub reduceMul)
section
set_option maxHeartbeats 4000000
def bitA (L:List Nat) (j:Nat):Nat:=L.getD (j / 8) 0 / 2 ^ (7-j % 8) % 2
def bvA (L:List Nat) (j:Nat):Nat→Nat
 | 0=>0
 | i+1=>bvA L j i * 2+bitA L (j+i)
theorem bitA_lt (L:List Nat) (j:Nat):bitA L j<2:=Nat.mod_lt _ (by decide)
theorem bvA_lt (L:List Nat) (j:Nat):∀ i,bvA L j i<2 ^ i
 | 0=>by simp [bvA]
 | i+1=>by
  have h1:=bvA_lt L j i
  have h2:=bitA_lt L (j+i)
  have h3:2 ^ (i+1)=2 * 2 ^ i:=by rw [Nat.pow_succ];omega
  show bvA L j i * 2+bitA L (j+i)<2 ^ (i+1)
  omega
theorem bvA_byte {L:List Nat} {p i c:Nat} (hc:L[p]? = some c) (hl:c<256):∀ j,j+i=8 * p→bvA L j (i+8)=bvA L j i * 256+c:=by
 intro j hj
 have hg:∀ t,t<8→bitA L (j+(i+t))=c / 2 ^ (7-t) % 2:=by
  intro t ht
  unfold bitA
  have h1:(j+(i+t)) / 8=p:=by omega
  have h2:(j+(i+t)) % 8=t:=by omega
  rw [h1,h2,List.getD_eq_getElem?_getD,hc]
  rfl
 have main:∀ t,t≤8→bvA L j (i+t)=bvA L j i * 2 ^ t+c / 2 ^ (8-t):=by
  intro t
  induction t with
  | zero=>
   intro _
   have:c / 2 ^ 8=0:=Nat.div_eq_of_lt hl
   simp [this]
  | succ t ih=>
   intro ht
   have h1:=ih (by omega)
   have h2:=hg t (by omega)
   have h3:c / 2 ^ (8-t)=c / 2 ^ (7-t) / 2:=by
    rw [Nat.div_div_eq_div_mul,←Nat.pow_succ]
    congr 2
    omega
   show bvA L j (i+t) * 2+bitA L (j+(i+t))=_
   rw [h1,h2,h3,show 8-(t+1)=7-t by omega,Nat.pow_succ,←Nat.mul_assoc]
   generalize bvA L j i * 2 ^ t=y
   generalize c / 2 ^ (7-t)=x
   omega
 have:=main 8 (by omega)
 simpa using this
def beN (L:List Nat):Nat:=L.foldl (fun s c=>s * 256+c) 0
theorem bvA_bytes {L:List Nat} (hL:∀ c∈L,c<256) (p:Nat):∀ m,p+m≤L.length→bvA L (8 * p) (8 * m)=beN ((L.drop p).take m)
 | 0,_=>by simp [bvA,beN]
 | m+1,h=>by
  have hlt:p+m<L.length:=by omega
  have hc:L[p+m]? = some L[p+m]:=List.getElem?_eq_getElem hlt
  have ih:=bvA_bytes hL p m (by omega)
  have:=bvA_byte (i:=8 * m) hc (hL _ (List.getElem_mem hlt)) (8 * p) (by omega)
  rw [show 8 * (m+1)=8 * m+8 by omega,this,ih,List.take_add_one,List.getElem?_drop,hc]
  simp [beN]
def Rb (h:Hp) (r:Nat) (L:List Nat) (j:Nat):Prop:=∃ u,h.g r=some (.rows true 3 0 0 [[u,.int .i64 j,.int .i64 0]])∧SL h 1 u (L.map eB)∧Bf r u
theorem Rb.new {h h':Hp} {r:Nat} {L:List Nat} {j:Nat} (k:Rb h r L j) (f:Fn h h'):Rb h' r L j:=by
 obtain ⟨u,g1,g2,g3⟩:=k
 exact ⟨u,f.some g1 (fun e=>e),g2.new f,g3⟩
section
variable {k:Nat} {h:Hp} {P:AV→Hp→Prop} {r:Nat} {L:List Nat} {j:Nat}
theorem left_ok (hr:Rb h r L j) (hl:L.length≤100000) (hj:j≤8 * L.length) (hP:P (.c (.int .i64 ((8 * L.length-j:Nat):Int))) h):callW N (k+1) 409 [.c (.ptr r 0 0 0)] h P:=by
 obtain ⟨u,g1,g2,g3⟩:=hr
 have hlen:=g2.lm
 have w1:IntKind.wrap .i64 (8 * (L.length:Int))=8 * (L.length:Int):=wrap_i64 (by omega)
 have w2:IntKind.wrap .i64 (8 * (L.length:Int)-j)=((8 * L.length-j:Nat):Int):=by rw [wrap_i64 (by omega)];omega
 refine ci rfl ?_
 simp only [KK,↓reduceIte,reduceLT,reduceEqDiff,reduceCtorEq,g1,hlen,w1,w2,hP]
theorem ready_ok {n:Int} (hr:Rb h r L j) (hl:L.length≤100000) (hj:j≤8 * L.length) (hn:n≤((8 * L.length-j:Nat):Int)) (hP:P (.c (.bool true)) h):callW N (k+2) 408 [.c (.ptr r 0 0 0),.c (.int .i64 n)] h P:=by
 obtain ⟨u,g1,g2,g3⟩:=id hr
 have c1:¬((8 * L.length-j:Nat):Int)<n:=by omega
 have z0:(0:Int)=0:=rfl
 refine ci rfl ?_
 simp only [KK,↓reduceIte,reduceLT,reduceEqDiff,reduceAdd,reduceCtorEq,g1]
 refine left_ok (k:=k) hr hl hj ?_
 simp only [KK,↓reduceIte,reduceLT,reduceEqDiff,reduceCtorEq,c1,hP]
theorem bit_ok (hr:Rb h r L j) (hL:∀ c∈L,c<256) (hl:L.length≤100000) (hj:j<8 * L.length)
 (hP:∀ h',Rb h' r L (j+1)→Fm (fun i=>i=r) h h'→P (.c (.int .u64 (bitA L j:Nat))) h'):callW N (k+1) 422 [.c (.ptr r 0 0 0)] h P:=by
 obtain ⟨u,g1,g2,g3⟩:=hr
 have hlt:j / 8<L.length:=by omega
 obtain ⟨id,tok,i,a1,a2⟩:=bytes_at g2 hlt
 have hc:=hL _ (List.getElem_mem hlt)
 have hbit:bitA L j=L[j / 8] / 2 ^ (7-j % 8) % 2:=by unfold bitA;rw [List.getD_eq_getElem?_getD,List.getElem?_eq_getElem hlt];rfl
 generalize hcc:L[j / 8] = c at *
 have d8:Int.tdiv (j:Int) 8=((j / 8:Nat):Int):=tdiv_nat j 8
 have d9:IntKind.wrap .i64 ((j / 8:Nat):Int)=((j / 8:Nat):Int):=wrap_i64 (by omega)
 have r8:Int.tmod (j:Int) 8=((j % 8:Nat):Int):=tmod_nat j 8
 have z8:¬((8:Int)=0):=by decide
 have w7:IntKind.wrap .i64 (7-((j % 8:Nat):Int))=((7-j % 8:Nat):Int):=by rw [wrap_i64 (by omega)];omega
 have s1:=shr_n .num .u8 .i64 c (7-j % 8) (by show _≤8;omega)
 have hx:c / 2 ^ (7-j % 8)<256:=Nat.lt_of_le_of_lt (Nat.div_le_self _ _) hc
 have a3:IntKind.wrap .u8 ((BitVec.ofInt (IntKind.bits .u8) ((c / 2 ^ (7-j % 8):Nat):Int) &&& BitVec.ofInt (IntKind.bits .u8) 1).toNat:Nat)=((bitA L j:Nat):Int):=by
  have:=and_k (k:=.u8) (a:=c / 2 ^ (7-j % 8)) (b:=1) rfl hx (by decide)
  rw [Nat.and_one_is_mod] at this
  rw [hbit]
  exact this
 have hb2:=bitA_lt L j
 have w8:=wi1 j (by omega)
 have w9:IntKind.wrap .u64 ((bitA L j:Nat):Int)=((bitA L j:Nat):Int):=wrap_u64 (by omega)
 obtain ⟨h2,hh2⟩:∃ g,g=h.put r (.rows true 3 0 0 [[u,.int .i64 ((j+1:Nat):Int),.int .i64 0]]):=⟨_,rfl⟩
 have f2:Fm (fun i=>i=r) h h2:=by rw [hh2];exact Fm.put _ _ rfl
 have g12:h2.g r=some (.rows true 3 0 0 [[u,.int .i64 ((j+1:Nat):Int),.int .i64 0]]):=by rw [hh2,g_put_eq,g1];rfl
 refine ci rfl ?_
 simp only [KK,↓reduceIte,reduceLT,reduceEqDiff,reduceAdd,reduceLeDiff,reduceCtorEq,g1,d8,d9,r8,z8,w7,a1,a2,s1,a3,w8,w9,hh2.symm]
 exact hP _ ⟨u,g12,g2.mono f2 (fun id tok off len cap e=>by have:=g3 _ _ _ _ _ e;omega),g3⟩ f2
def TkI (h0:Hp) (r:Nat) (L:List Nat) (j w:Nat) (n:Nat) (s:St):Prop:=∃ (i:Nat) (l:List (Nat × TV)) (lc:List (List CV)) (h':Hp),s=ST 25 l lc h'∧i≤w∧n=w-i∧Rb h' r L (j+i)∧Fm (fun i=>i=r) h0 h'∧
 lk l 0 = .v (.c (.ptr r 0 0 0))∧lk l 5 = .v (.c (.int .u64 (bvA L j i:Nat)))∧lk l 15 = .v (.c (.int .i64 w))∧lk l 16 = .v (.c (.int .i64 i))
theorem take_ok {w:Nat} (hr:Rb h r L j) (hL:∀ c∈L,c<256) (hl:L.length≤100000) (hj:j+w≤8 * L.length) (hw:w≤64)
 (hP:∀ h',Rb h' r L (j+w)→Fm (fun i=>i=r) h h'→P (.c (.int .u64 (bvA L j w:Nat))) h'):callW N (k+3) 406 [.c (.ptr r 0 0 0),.c (.int .i64 w)] h P:=by
 refine ci rfl ?_
 simp only [KK,↓reduceIte,reduceLT,reduceEqDiff,reduceAdd,reduceCtorEq]
 refine good_ok (k:=k+1) (by omega) ?_
 simp only [KK,↓reduceIte,reduceLT,reduceEqDiff,reduceCtorEq]
 refine ready_ok (k:=k) hr hl (by omega) (by omega) ?_
 simp only [KK,↓reduceIte,reduceLT,reduceEqDiff,reduceCtorEq]
 refine loop_rd (callW_mono N _) (TkI h r L j w) (n:=w) ⟨0,_,_,_,rfl,by omega,rfl,hr,Fm.refl _ _,rfl,rfl,rfl,rfl⟩ ?_
 rintro n s ⟨i,l,lc,h2,rfl,hi,hn,r2,f2,e0,e5,e15,e16⟩
 by_cases hlt:(i:Int)<w
 ·have hv:=bvA_lt L j i
  have hp:2 ^ i≤2 ^ 63:=Nat.pow_le_pow_right (by decide) (by omega)
  have s1:binC .shl .num (.int .u64 ((bvA L j i:Nat):Int)) (.int .u64 1)=some (.int .u64 ((bvA L j i * 2:Nat):Int)):=by
   show some (CV.int .u64 (IntKind.wrap .u64 (((bvA L j i:Nat):Int) * 2 ^ (min (1:Int).toNat 64))))=_
   rw [show (min (1:Int).toNat 64)=1 by decide,wrap_u64 (by omega)]
   congr 2
  have hb2:=bitA_lt L (j+i)
  have o1:IntKind.wrap .u64 ((BitVec.ofInt (IntKind.bits .u64) ((bvA L j i * 2:Nat):Int) ||| BitVec.ofInt (IntKind.bits .u64) ((bitA L (j+i):Nat):Int)).toNat:Nat)=((bvA L j (i+1):Nat):Int):=by
   have:=or_k (k:=.u64) (a:=bvA L j i * 2) (b:=bitA L (j+i)) rfl (by show _<2 ^ 64;omega) (by show _<2 ^ 64;omega)
   have h2:=Nat.two_pow_add_eq_or_of_lt (i:=1) (b:=bitA L (j+i)) (by omega) (bvA L j i)
   rw [Nat.pow_one,Nat.mul_comm 2] at h2
   rw [this,←h2]
   rfl
  have w3:=wi1 i (by omega)
  simp only [KK,↓reduceIte,reduceLT,reduceEqDiff,reduceCtorEq,e0,e5,e15,e16,hlt,s1]
  refine bit_ok (k:=k+1) r2 hL hl (by omega) fun h3 r3 f3=>?_
  simp only [KK,↓reduceIte,reduceLT,reduceEqDiff,reduceCtorEq,o1,w3,rd_n]
  exact ⟨n-1,by omega,i+1,_,_,_,rfl,by omega,by omega,r3,f2.trans f3,rfl,rfl,rfl,rfl⟩
 ·have hi2:i=w:=by omega
  subst hi2
  simp only [KK,↓reduceIte,reduceLT,reduceEqDiff,reduceCtorEq,e0,e5,e15,e16,hlt]
  exact hP _ r2 f2
end
end
section
set_option maxHeartbeats 4000000
def Nr (r:Nat) (v:CV):Prop:=∀ id tok off len cap,v = .sl id tok off len cap→id≠r
theorem SL.nr {h h':Hp} {r sz:Nat} {v:CV} {rows:List (List CV)} (k:SL h sz v rows) (n:Nr r v) (f:Fm (fun j=>j=r) h h'):SL h' sz v rows:=k.mono f n
theorem Nr.own {r b:Nat} {v:CV} (h:∀ j,ownId v j→b≤j) (hr:r<b):Nr r v:=by
 rintro id tok off len cap rfl rfl
 have:=h id rfl
 omega
def Rdb (h:Hp) (r:Nat):Option (List Nat)→Prop
 | some B=>∃ L p,Rb h r L (8 * p)∧B=L.drop p∧p≤L.length∧(∀ c∈L,c<256)∧L.length≤100000
 | none=>h.g r=some (.rows true 3 0 0 [[.nils,.int .i64 0,.int .i64 2]])
theorem Rdb.new {h h':Hp} {r:Nat} {S:Option (List Nat)} (k:Rdb h r S) (f:Fn h h'):Rdb h' r S:=by
 cases S with
 | none=>exact f.some k (fun e=>e)
 | some B=>obtain ⟨L,p,k1,k2⟩:=k;exact ⟨L,p,k1.new f,k2⟩
theorem Rdb.lt {h:Hp} {r:Nat} {S:Option (List Nat)} (k:Rdb h r S):r<h.n:=by
 cases S with
 | none=>exact lt_of_g k
 | some B=>obtain ⟨L,p,⟨u,g1,_⟩,_⟩:=k;exact lt_of_g g1
theorem Rdb.keep {S:Nat→Prop} {h h':Hp} {r:Nat} {B:Option (List Nat)} (k:Rdb h r B) (f:Fm S h h') (hS:∀ j,j≤r→¬S j):Rdb h' r B:=by
 cases B with
 | none=>exact f.some k (hS r (Nat.le_refl _))
 | some B=>
  obtain ⟨L,p,⟨u,g1,g2,g3⟩,k2⟩:=k
  refine ⟨L,p,⟨u,f.some g1 (hS r (Nat.le_refl _)),g2.mono f ?_,g3⟩,k2⟩
  intro id tok off len cap e
  exact hS id (by have:=g3 _ _ _ _ _ e;omega)
def takeN (m:Nat):Option (List Nat)→Nat × Option (List Nat)
 | some B=>if m≤B.length then (beN (B.take m),some (B.drop m)) else (0,none)
 | none=>(0,none)
def textN (n:Nat):Option (List Nat)→List Nat × Option (List Nat)
 | some B=>if n≤B.length then (B.take n,some (B.drop n)) else ([],none)
 | none=>([],none)
def endN:Option (List Nat)→Int
 | some []=>0
 | some (_::_)=>3
 | none=>2
section
variable {k:Nat} {h:Hp} {P:AV→Hp→Prop} {r:Nat} {L:List Nat} {j:Nat} {S:Option (List Nat)}
theorem fails_ok {u:CV} {a b:Int} (g:h.g r=some (.rows true 3 0 0 [[u,.int .i64 a,.int .i64 b]]))
 (hP:∀ h',Rdb h' r none→Fm (fun i=>i=r) h h'→P (.tup []) h'):callW N (k+1) 423 [.c (.ptr r 0 0 0),.c (.int .i64 2)] h P:=by
 obtain ⟨h1,e1⟩:=nm (h.put r (.rows true 3 0 0 [[u,.int .i64 a,.int .i64 2]]))
 have g1:h1.g r=some (.rows true 3 0 0 [[u,.int .i64 a,.int .i64 2]]):=by rw [e1,g_put_eq,g];rfl
 obtain ⟨h2,e2⟩:=nm (h1.put r (.rows true 3 0 0 [[.nils,.int .i64 a,.int .i64 2]]))
 have g2:h2.g r=some (.rows true 3 0 0 [[.nils,.int .i64 a,.int .i64 2]]):=by rw [e2,g_put_eq,g1];rfl
 obtain ⟨h3,e3⟩:=nm (h2.put r (.rows true 3 0 0 [[.nils,.int .i64 0,.int .i64 2]]))
 have g3:h3.g r=some (.rows true 3 0 0 [[.nils,.int .i64 0,.int .i64 2]]):=by rw [e3,g_put_eq,g2];rfl
 have f3:Fm (fun i=>i=r) h h3:=by
  rw [e3,e2,e1]
  exact ((Fm.put (S:=fun i=>i=r) _ _ rfl).trans (Fm.put (S:=fun i=>i=r) _ _ rfl)).trans (Fm.put (S:=fun i=>i=r) _ _ rfl)
 refine ci rfl ?_
 simp only [KK,↓reduceIte,reduceLT,reduceEqDiff,reduceAdd,reduceLeDiff,reduceCtorEq,g,e1.symm,g1,e2.symm,g2,e3.symm]
 exact hP _ g3 f3
theorem notready_ok {n:Int} (hr:Rb h r L j) (hl:L.length≤100000) (hj:j≤8 * L.length) (hn:((8 * L.length-j:Nat):Int)<n)
 (hP:∀ h',Rdb h' r none→Fm (fun i=>i=r) h h'→P (.c (.bool false)) h'):callW N (k+2) 408 [.c (.ptr r 0 0 0),.c (.int .i64 n)] h P:=by
 obtain ⟨u,g1,g2,g3⟩:=id hr
 have z0:(0:Int)=0:=rfl
 refine ci rfl ?_
 simp only [KK,↓reduceIte,reduceLT,reduceEqDiff,reduceAdd,reduceCtorEq,g1]
 refine left_ok (k:=k) hr hl hj ?_
 simp only [KK,↓reduceIte,reduceLT,reduceEqDiff,reduceCtorEq,hn]
 refine fails_ok (k:=k) g1 fun h2 r2 f2=>?_
 simp only [KK,↓reduceIte,reduceLT]
 exact hP _ r2 f2
theorem failed_ok {n:Int} (hr:Rdb h r none) (hP:P (.c (.bool false)) h):callW N (k+1) 408 [.c (.ptr r 0 0 0),.c (.int .i64 n)] h P:=by
 have g1:h.g r=some (.rows true 3 0 0 [[.nils,.int .i64 0,.int .i64 2]]):=hr
 have z0:¬(2:Int)=0:=by decide
 refine ci rfl ?_
 simp only [KK,↓reduceIte,reduceLT,reduceEqDiff,reduceAdd,reduceCtorEq,g1,z0,hP]
theorem takeb_ok {m:Nat} {w:Int} (hr:Rdb h r S) (hw:w=((8 * m:Nat):Int)) (hm:m≤8)
 (hP:∀ h',Rdb h' r (takeN m S).2→Fm (fun i=>i=r) h h'→P (.c (.int .u64 ((takeN m S).1:Nat))) h'):callW N (k+3) 406 [.c (.ptr r 0 0 0),.c (.int .i64 w)] h P:=by
 subst hw
 cases S with
 | none=>
  refine ci rfl ?_
  simp only [KK,↓reduceIte,reduceLT,reduceEqDiff,reduceAdd,reduceCtorEq]
  refine good_ok (k:=k+1) (by omega) ?_
  simp only [KK,↓reduceIte,reduceLT,reduceEqDiff,reduceCtorEq]
  refine failed_ok (k:=k+1) hr ?_
  simp only [KK,↓reduceIte,reduceLT,reduceEqDiff,reduceCtorEq]
  exact hP _ hr (Fm.refl _ _)
 | some B=>
  obtain ⟨L,p,r1,rfl,hp,hL,hl⟩:=id hr
  by_cases hle:m≤(L.drop p).length
  ·have hh:=hle
   rw [List.length_drop] at hh
   refine take_ok (k:=k) r1 hL hl (by omega) (by omega) fun h2 r2 f2=>?_
   rw [bvA_bytes hL p m (by omega)]
   have:=hP h2
   simp only [takeN,if_pos hle] at this
   exact this ⟨L,p+m,by rw [Nat.mul_add];exact r2,by rw [List.drop_drop],by omega,hL,hl⟩ f2
  ·have hh:=hle
   rw [List.length_drop] at hh
   refine ci rfl ?_
   simp only [KK,↓reduceIte,reduceLT,reduceEqDiff,reduceAdd,reduceCtorEq]
   refine good_ok (k:=k+1) (by omega) ?_
   simp only [KK,↓reduceIte,reduceLT,reduceEqDiff,reduceCtorEq]
   refine notready_ok (k:=k) r1 hl (by omega) (by omega) fun h2 r2 f2=>?_
   simp only [KK,↓reduceIte,reduceLT,reduceEqDiff,reduceCtorEq]
   have:=hP h2
   simp only [takeN,if_neg hle] at this
   exact this r2 f2
theorem endn_ok (hr:Rdb h r S) (hP:P (.c (.int .i64 (endN S))) h):callW N (k+2) 398 [.c (.ptr r 0 0 0)] h P:=by
 refine ci rfl ?_
 cases S with
 | none=>
  have g1:h.g r=some (.rows true 3 0 0 [[.nils,.int .i64 0,.int .i64 2]]):=hr
  have z0:¬(2:Int)=0:=by decide
  simp only [KK,↓reduceIte,reduceLT,reduceEqDiff,reduceCtorEq,g1,z0]
  exact hP
 | some B=>
  obtain ⟨L,p,r1,rfl,hp,hL,hl⟩:=id hr
  obtain ⟨u,g1,g2,g3⟩:=id r1
  have z0:(0:Int)=0:=rfl
  simp only [KK,↓reduceIte,reduceLT,reduceCtorEq,g1]
  refine left_ok (k:=k) r1 hl (by omega) ?_
  cases hd:L.drop p with
  | nil=>
   have:(L.drop p).length=0:=by rw [hd];rfl
   rw [List.length_drop] at this
   have c1:¬(0:Int)<((8 * L.length-8 * p:Nat):Int):=by omega
   simp only [KK,↓reduceIte,reduceLT,reduceEqDiff,reduceCtorEq,g1,c1]
   rw [hd] at hP
   exact hP
  | cons y ys=>
   have:(L.drop p).length=ys.length+1:=by rw [hd];rfl
   rw [List.length_drop] at this
   have c1:(0:Int)<((8 * L.length-8 * p:Nat):Int):=by omega
   simp only [KK,↓reduceIte,reduceLT,reduceEqDiff,reduceCtorEq,c1]
   rw [hd] at hP
   exact hP
theorem short_ok (hr:Rdb h r S) (hP:P (.c (.bool S.isNone)) h):callW N (k+3) 410 [.c (.ptr r 0 0 0)] h P:=by
 refine ci rfl ?_
 simp only [KK,↓reduceIte,reduceLT,reduceCtorEq]
 refine endn_ok (k:=k) hr ?_
 rcases S with _|_|⟨y,ys⟩
 ·have z0:decide (endN none=2)=true:=by decide
  simp only [KK,↓reduceIte,reduceLT,z0]
  exact hP
 ·have z0:decide (endN (some [])=2)=false:=by decide
  simp only [KK,↓reduceIte,reduceLT,z0]
  exact hP
 ·have z0:decide (endN (some (y::ys))=2)=false:=rfl
  simp only [KK,↓reduceIte,reduceLT,z0]
  exact hP
theorem beN_one (c:Nat):beN [c] = c:=by simp [beN]
theorem beN_lt:∀ (L:List Nat),(∀ c∈L,c<256)→beN L<256 ^ L.length:=by
 intro L
 have key:∀ (L:List Nat) (s t:Nat),(∀ c∈L,c<256)→s<256 ^ t→L.foldl (fun s c=>s * 256+c) s<256 ^ (t+L.length):=by
  intro L
  induction L with
  | nil=>intro s t _ h;exact h
  | cons c L ih=>
   intro s t hL h
   have hc:=hL c (by simp)
   have h2:s * 256+c<256 ^ (t+1):=by rw [Nat.pow_succ];omega
   have:=ih (s * 256+c) (t+1) (fun c hc=>hL c (by simp [hc])) h2
   rw [List.length_cons,show t+(L.length+1)=t+1+L.length by omega]
   exact this
 intro hL
 have:=key L 0 0 hL (by decide)
 rwa [Nat.zero_add] at this
theorem Rdb.bytes {h:Hp} {B:List Nat} (k:Rdb h r (some B)):(∀ c∈B,c<256)∧B.length≤100000:=by
 obtain ⟨L,p,r1,rfl,hp,hL,hl⟩:=k
 exact ⟨fun c hc=>hL c (List.mem_of_mem_drop hc),by rw [List.length_drop];omega⟩
theorem takeN_lt {m:Nat} (hr:Rdb h r S):(takeN m S).1<256 ^ m:=by
 have hp:0<256 ^ m:=Nat.pow_pos (by decide)
 cases S with
 | none=>exact hp
 | some B=>
  by_cases hm:m≤B.length
  ·simp only [takeN,if_pos hm]
   have:=beN_lt (B.take m) (fun c hc=>hr.bytes.1 c (List.mem_of_mem_take hc))
   rwa [List.length_take,Nat.min_eq_left hm] at this
  ·simp only [takeN,if_neg hm]
   exact hp
theorem next_ok (hr:Rdb h r S) (hP:∀ h',Rdb h' r (takeN 1 S).2→Fm (fun i=>i=r) h h'→P (.c (.int .i64 ((takeN 1 S).1:Nat))) h'):callW N (k+4) 396 [.c (.ptr r 0 0 0)] h P:=by
 have hb:=takeN_lt (m:=1) hr
 have w1:IntKind.wrap .i64 (((takeN 1 S).1:Nat):Int)=(((takeN 1 S).1:Nat):Int):=wrap_i64 (by omega)
 refine ci rfl ?_
 simp only [KK,↓reduceIte,reduceLT,reduceCtorEq]
 refine takeb_ok (k:=k) (m:=1) hr rfl (by omega) fun h2 r2 f2=>?_
 simp only [KK,↓reduceIte,reduceLT,w1]
 exact hP _ r2 f2
end
end
section
set_option maxHeartbeats 4000000
theorem takeN1 {B:List Nat} {i:Nat} (h:i<B.length):takeN 1 (some (B.drop i))=(B[i],some (B.drop (i+1))):=by
 simp only [takeN]
 rw [List.length_drop,if_pos (by omega),List.drop_drop,List.drop_eq_getElem_cons h,List.take_succ_cons,List.take_zero,beN_one]
section
variable {k:Nat} {h:Hp} {P:AV→Hp→Prop} {r:Nat} {S:Option (List Nat)}
def TtI (r:Nat) (h0:Hp) (B:List Nat) (m:Nat) (n:Nat) (s:St):Prop:=∃ (i:Nat) (l:List (Nat × TV)) (h':Hp) (w:CV),s=ST 31 l [] h'∧i≤m∧n=m-i∧Rdb h' r (some (B.drop i))∧Ow h' 1 w ((B.take i).map eB)∧
 (∀ j,ownId w j→h0.n≤j)∧Fm (fun i=>i=r) h0 h'∧lk l 0 = .v (.c (.ptr r 0 0 0))∧lk l 5 = .v (.c w)∧lk l 20 = .v (.c (.int .i64 m))∧lk l 21 = .v (.c (.int .i64 i))
theorem bytes_fn (hr:Rdb h r S) (hP:∀ u (n:Nat),(∀ h',lenT h' .sl (.v (.c u))=some (n:Int))→(match S with|some B=>B.length≤n∧n≤100000|none=>n=0)→P (.c u) h):callW N (k+1) 407 [.c (.ptr r 0 0 0)] h P:=by
 refine ci rfl ?_
 cases S with
 | none=>
  have g1:h.g r=some (.rows true 3 0 0 [[.nils,.int .i64 0,.int .i64 2]]):=hr
  simp only [KK,↓reduceIte,reduceLT,reduceCtorEq,g1]
  exact hP .nils 0 (fun h'=>rfl) rfl
 | some B=>
  obtain ⟨L,p,⟨u,g1,g2,g3⟩,rfl,hp,hL,hl⟩:=id hr
  simp only [KK,↓reduceIte,reduceLT,reduceCtorEq,g1]
  exact hP u L.length (fun h'=>by rw [g2.len h',List.length_map]) ⟨by rw [List.length_drop];omega,hl⟩
theorem text_ok {n:Nat} (hr:Rdb h r S) (hn:n≤100000)
 (hP:∀ h' u,Rdb h' r (textN n S).2→SL h' 1 u ((textN n S).1.map eB)→(∀ j,ownId u j→h.n≤j)→((textN n S).1=[]→u = .nils)→CapL u→Fm (fun i=>i=r) h h'→P (.c u) h') :
 callW N (k+4) 397 [.c (.ptr r 0 0 0),.c (.int .i64 n)] h P:=by
 have cn:CapL CV.nils:=by rintro _ _ _ _ _ ⟨⟩
 refine ci rfl ?_
 by_cases h0:n=0
 ·subst h0
  have c0:((0:Nat):Int)≤0:=by omega
  simp only [KK,↓reduceIte,reduceLT,reduceEqDiff,reduceAdd,reduceCtorEq,c0]
  have e1:textN 0 S=([],S):=by rcases S with _|B <;> simp [textN]
  rw [e1] at hP
  exact hP h .nils hr rfl (fun j e=>e.elim) (fun _=>rfl) cn (Fm.refl _ _)
 have c0:¬(n:Int)≤0:=by omega
 simp only [KK,↓reduceIte,reduceLT,reduceEqDiff,reduceAdd,reduceCtorEq,c0]
 refine bytes_fn (k:=k+2) hr fun u m hu hm=>?_
 rcases S with _|B
 ·have hm0:m=0:=hm
  subst hm0
  have w1:IntKind.wrap .i64 (((0:Nat):Int)+1)=1:=by decide
  have m1:min (n:Int) 1=1:=by omega
  have w2:IntKind.wrap .i64 (1 * 8)=8:=by decide
  simp only [KK,↓reduceIte,reduceLT,reduceEqDiff,hu,w1,m1,w2]
  refine failed_ok (k:=k+2) hr ?_
  simp only [KK,↓reduceIte,reduceLT,reduceEqDiff,reduceCtorEq]
  exact hP _ .nils hr rfl (fun j e=>e.elim) (fun _=>rfl) cn (Fm.refl _ _)
 obtain ⟨hm,hm2⟩:B.length≤m∧m≤100000:=hm
 obtain ⟨L,p,r1,hB,hp,hL,hl⟩:=id hr
 have hBl:B.length=L.length-p:=by rw [hB,List.length_drop]
 obtain ⟨q,hq⟩:∃ q:Nat,q=min n (m+1):=⟨_,rfl⟩
 have w1:=wi1 m (by omega)
 have m1:min (n:Int) ((m+1:Nat):Int)=(q:Int):=by omega
 have w2:IntKind.wrap .i64 ((q:Int) * 8)=((8 * q:Nat):Int):=by rw [wrap_i64 (by omega)];omega
 simp only [KK,↓reduceIte,reduceLT,reduceEqDiff,hu,w1,m1,w2]
 by_cases hle:n≤B.length
 ·have e1:textN n (some B)=(B.take n,some (B.drop n)):=by simp [textN,hle]
  rw [e1] at hP
  refine ready_ok (k:=k+1) r1 hl (by omega) (by omega) ?_
  simp only [KK,↓reduceIte,reduceLT,reduceEqDiff,reduceCtorEq]
  refine loop_rd (callW_mono N _) (TtI r h B n) (n:=n) ⟨0,_,_,.nils,rfl,by omega,by omega,hr,rfl,(fun j e=>e.elim),Fm.refl _ _,rfl,rfl,rfl,rfl⟩ ?_
  rintro nn s ⟨i,l,h1,w,rfl,hi,hnn,r2,w2,w3,f2,e0,e5,e20,e21⟩
  by_cases hlt:(i:Int)<n
  ·have hiB:i<B.length:=by omega
   have hc:=hr.bytes.1 _ (List.getElem_mem hiB)
   have t1:=takeN1 hiB
   have w4:=wi1 i (by omega)
   simp only [KK,↓reduceIte,reduceLT,reduceEqDiff,reduceCtorEq,e0,e5,e20,e21,hlt]
   refine takeb_ok (k:=k) (m:=1) r2 rfl (by omega) fun h3 r3 f3=>?_
   rw [t1] at r3 ⊢
   have w5:IntKind.wrap .u8 ((B[i]:Nat):Int)=((B[i]:Nat):Int):=wrapU rfl hc
   have ow3:Ow h3 1 w ((B.take i).map eB):=w2.mono f3 (fun j hj e=>by have:=w3 j hj;have:=hr.lt;omega)
   obtain ⟨w',h4,a1,a2,a3,a4⟩:=ow3.app (lc:=[[.int .u8 ((B[i]:Nat):Int)]]) (x:=.lsl 0 1) (xs:=[[.int .u8 ((B[i]:Nat):Int)]]) rfl (by simp) (bytes:=1)
    (by simp only [room,List.length_map,List.length_take,List.length_cons,List.length_nil];omega)
   simp only [KK,↓reduceIte,reduceLT,reduceEqDiff,reduceCtorEq,w5,a1,w4,rd_n]
   refine ⟨nn-1,by omega,i+1,_,h4,w',rfl,by omega,by omega,r3.keep a3 ?_,?_,?_,?_,rfl,rfl,rfl,rfl⟩
   ·intro j hj hj2
    have:=w3 j hj2
    have:=hr.lt
    omega
   ·rw [List.take_add_one,List.getElem?_eq_getElem hiB,Option.toList_some,List.map_append]
    exact a2
   ·intro j hj
    rcases a4 j hj with e|e
    ·exact w3 j e
    ·have:=f2.n;have:=f3.n;omega
   ·exact (f2.trans f3).fresh a3 w3
  ·have hi2:i=n:=by omega
   subst hi2
   simp only [KK,↓reduceIte,reduceLT,reduceEqDiff,reduceCtorEq,e0,e5,e20,e21,hlt]
   refine hP _ w r2 w2.sl w3 ?_ ?_ f2
   ·intro he
    have he:B.take i=[]:=he
    have:(B.take i).length=0:=by rw [he];rfl
    rw [List.length_take] at this
    omega
   ·rintro id tok off len c rfl
    have:=w2.cap _ _ _ _ _ rfl
    cases this
 ·have e1:textN n (some B)=([],none):=by simp [textN,hle]
  rw [e1] at hP
  refine notready_ok (k:=k+1) r1 hl (by omega) (by omega) fun h2 r2 f2=>?_
  simp only [KK,↓reduceIte,reduceLT,reduceEqDiff,reduceCtorEq]
  exact hP _ .nils r2 rfl (fun j e=>e.elim) (fun _=>rfl) cn f2
theorem newreader_ok {v:CV} {B:List Nat} (hv:SL h 1 v (B.map eB)) (hB:∀ c∈B,c<256) (hl:B.length≤100000)
 (hP:∀ h' r,h.n≤r→Rdb h' r (some B)→Fn h h'→P (.c (.ptr r 0 0 0)) h'):callW N (k+1) 395 [.c v] h P:=by
 have fin:∀ h1 u1,appT h [] 1 1 (.v (.c .nils)) (.v (.c v))=some (u1,h1)→SL h1 1 u1 (B.map eB)→Fn h h1→callW N (k+1) 395 [.c v] h P:=by
  intro h1 u1 a1 a2 f1
  obtain ⟨h2,hh2⟩:=nm (h1.push (.rows true 3 0 0 [[u1,.int .i64 0,.int .i64 0]]))
  have g2:h2.g h1.n=some (.rows true 3 0 0 [[u1,.int .i64 0,.int .i64 0]]):=by rw [hh2,g_push_eq]
  have f2:=pf hh2
  refine ci rfl ?_
  simp only [KK,↓reduceIte,reduceLT,reduceAdd,reduceLeDiff,reduceCtorEq,a1,hh2.symm]
  exact hP _ _ f1.n ⟨B,0,⟨u1,g2,a2.new f2,a2.lt⟩,rfl,Nat.zero_le _,hB,hl⟩ (f1.trans f2)
 cases B with
 | nil=>
  refine fin h .nils ?_ rfl (Fm.refl _ _)
  simp only [appT,asC_c,Option.bind_some,hv.read,List.map_nil,appRows]
 | cons y ys=>
  have on:Ow h 1 .nils ([]:List (List CV)):=rfl
  obtain ⟨u',h2,k1,k2,k3,k4⟩:=on.app (lc:=[]) (x:=.v (.c v)) (xs:=(y::ys).map eB) hv.read (by simp) (bytes:=1) (by simp only [room,List.length_map,List.length_nil,List.length_cons] at hl ⊢;omega)
  exact fin h2 u' k1 (by simpa using k2.sl) (k3.mono (fun _ _ e=>e.elim))
end
end
section
set_option maxHeartbeats 4000000
def eN (n:Nat):List CV:=[.int .i64 (n:Int)]
inductive Iv where
 | sync (a r:Nat)
 | corr (t:Int)
 | lst (d:Nat) (l:List Nat)
def Iv.list:Iv→List Nat
 | .lst _ l=>l
 | _=>[]
def Iv.row:Iv→CV→List CV
 | .sync a r,s=>[.int .i64 1,.int .i64 (a:Int),.int .i64 (r:Int),.int .i64 0,s]
 | .corr t,s=>[.int .i64 2,.int .i64 0,.int .i64 0,.int .i64 t,s]
 | .lst d _,s=>[.int .i64 (d:Int),.int .i64 0,.int .i64 0,.int .i64 0,s]
def IeM (h:Hp) (v:Iv) (s:CV):Prop:=SL h 1 s (v.list.map eN)∧(v.list=[]→s = .nils)
def ofE (d a r t:Int) (v:CV):CV:=
 if d=1 then .iface 218 true [.int .i64 a,.int .i64 r] else if d=2 then .iface 220 true [.int .i64 t] else if d=3∨d=4 then .iface 222 true [v] else .nili
def rightN (d n:Nat):Bool:=if d=1 then n == 6 else if d=2 then n == 2 else decide (n≤16)
def sx (n:Nat):Int:=IntKind.wrap .i16 (n:Int)
theorem sx_le (n:Nat) : -32768≤sx n∧sx n≤32767:=by
 have e1:((2:Int) ^ IntKind.bits .i16)=65536:=by decide
 have e2:((2:Int) ^ (IntKind.bits .i16-1))=32768:=by decide
 unfold sx IntKind.wrap
 dsimp only
 rw [e1,e2]
 split
 ·rename_i hc
  simp only [Bool.and_eq_true,decide_eq_true_eq] at hc
  omega
 ·rename_i hc
  have:¬((n:Int) % 65536 ≥ 32768):=fun h=>hc (by simp only [Bool.and_eq_true,decide_eq_true_eq];exact ⟨rfl,h⟩)
  omega
theorem textN_of {n:Nat} {S:Option (List Nat)}:(∀ c∈(textN n S).1,∃ B,S=some B∧c∈B)∧(textN n S).1.length≤n:=by
 rcases S with _|B
 ·simp [textN]
 ·by_cases hle:n≤B.length
  ·simp only [textN,if_pos hle]
   exact ⟨fun c hc=>⟨B,rfl,List.mem_of_mem_take hc⟩,by rw [List.length_take];omega⟩
  ·simp only [textN,if_neg hle]
   simp
section
variable {k:Nat} {h:Hp} {P:AV→Hp→Prop} {r:Nat} {S:Option (List Nat)}
theorem of_ok {d a q t:Int} {v:CV} (hP:P (.c (ofE d a q t v)) h):callW N (k+1) 320 [.agg [.int .i64 d,.int .i64 a,.int .i64 q,.int .i64 t,v]] h P:=by
 refine ci rfl ?_
 by_cases d1:d=1
 ·subst d1
  simp only [KK,↓reduceIte,reduceLT,reduceEqDiff,reduceAdd,reduceLeDiff]
  exact hP
 by_cases d2:d=2
 ·subst d2
  have z1:¬((2:Int)=1):=by decide
  simp only [KK,↓reduceIte,reduceLT,reduceEqDiff,reduceAdd,z1]
  exact hP
 by_cases d3:d=3
 ·subst d3
  have z1:¬((3:Int)=1):=by decide
  have z2:¬((3:Int)=2):=by decide
  simp only [KK,↓reduceIte,reduceLT,reduceEqDiff,reduceAdd,z1,z2]
  exact hP
 by_cases d4:d=4
 ·subst d4
  have z1:¬((4:Int)=1):=by decide
  have z2:¬((4:Int)=2):=by decide
  have z3:¬((4:Int)=3):=by decide
  simp only [KK,↓reduceIte,reduceLT,reduceEqDiff,reduceAdd,z1,z2,z3]
  exact hP
 ·simp only [KK,↓reduceIte,reduceLT,reduceEqDiff,reduceAdd,d1,d2,d3,d4]
  simpa only [ofE,d1,d2,d3,d4,if_false,or_self] using hP
theorem right_ok {d n:Nat} (hd:d=1∨d=2∨d=3∨d=4) (hP:P (.c (.bool (rightN d n))) h):callW N (k+2) 424 [.c (.int .i64 (d:Nat)),.c (.int .i64 (n:Nat))] h P:=by
 refine ci rfl ?_
 simp only [KK,↓reduceIte,reduceLT,reduceEqDiff,reduceAdd,reduceLeDiff,reduceCtorEq]
 refine of_ok (k:=k) ?_
 have y1:¬(220=218):=by decide
 have y2:¬(222=218):=by decide
 have y3:¬(222=220):=by decide
 rcases hd with rfl|rfl|rfl|rfl
 ·have e:decide ((n:Int)=6)=rightN 1 n:=by simp only [rightN,if_pos];rw [Bool.eq_iff_iff];simp;omega
  have eo:∀ a q t v,ofE ((1:Nat):Int) a q t v = .iface 218 true [.int .i64 a,.int .i64 q]:=fun _ _ _ _=>rfl
  simp only [KK,↓reduceIte,reduceLT,reduceEqDiff,reduceCtorEq,eo,e]
  exact hP
 ·have e:decide ((n:Int)=2)=rightN 2 n:=by
   have:rightN 2 n=(n == 2):=rfl
   rw [this,Bool.eq_iff_iff];simp;omega
  have eo:∀ a q t v,ofE ((2:Nat):Int) a q t v = .iface 220 true [.int .i64 t]:=fun _ _ _ _=>rfl
  simp only [KK,↓reduceIte,reduceLT,reduceEqDiff,reduceCtorEq,eo,e,y1]
  exact hP
 ·have e:decide ((n:Int)≤16)=rightN 3 n:=by
   have:rightN 3 n=decide (n≤16):=rfl
   rw [this,Bool.eq_iff_iff];simp;omega
  have eo:∀ a q t v,ofE ((3:Nat):Int) a q t v = .iface 222 true [v]:=fun _ _ _ _=>rfl
  simp only [KK,↓reduceIte,reduceLT,reduceEqDiff,reduceCtorEq,eo,e,y2,y3]
  exact hP
 ·have e:decide ((n:Int)≤16)=rightN 4 n:=by
   have:rightN 4 n=decide (n≤16):=rfl
   rw [this,Bool.eq_iff_iff];simp;omega
  have eo:∀ a q t v,ofE ((4:Nat):Int) a q t v = .iface 222 true [v]:=fun _ _ _ _=>rfl
  simp only [KK,↓reduceIte,reduceLT,reduceEqDiff,reduceCtorEq,eo,e,y2,y3]
  exact hP
theorem plainS {d a q:Int} (hP:∀ h',Fn h h'→P (.agg [.int .i64 d,.int .i64 a,.int .i64 q,.int .i64 0,.nils]) h'):callW N (k+1) 334 [.c (.int .i64 d),.c (.iface 218 true [.int .i64 a,.int .i64 q])] h P:=by
 refine ci rfl ?_
 rw [a_fin]
 unfold n334b
 obtain ⟨h1,hh1⟩:=nm (h.push (.rows true 5 0 0 [[.int .i64 0,.int .i64 0,.int .i64 0,.int .i64 0,.nils]]))
 have g1:h1.g h.n=some (.rows true 5 0 0 [[.int .i64 0,.int .i64 0,.int .i64 0,.int .i64 0,.nils]]):=by rw [hh1,g_push_eq]
 have f1:=pf hh1
 have z1:¬(218=220):=by decide
 have z2:¬(218=222):=by decide
 simp only [KK,↓reduceIte,reduceLT,reduceEqDiff,reduceAdd,reduceLeDiff,reduceCtorEq,hh1.symm,g1,z1,z2,fz_r]
 exact hP _ (f1.fresh (Fm.put (S:=fun j=>j=h.n) _ _ rfl) (fun j e=>by omega))
theorem plainC {d t:Int} (hP:∀ h',Fn h h'→P (.agg [.int .i64 d,.int .i64 0,.int .i64 0,.int .i64 t,.nils]) h'):callW N (k+1) 334 [.c (.int .i64 d),.c (.iface 220 true [.int .i64 t])] h P:=by
 refine ci rfl ?_
 rw [a_fin]
 unfold n334b
 obtain ⟨h1,hh1⟩:=nm (h.push (.rows true 5 0 0 [[.int .i64 0,.int .i64 0,.int .i64 0,.int .i64 0,.nils]]))
 have g1:h1.g h.n=some (.rows true 5 0 0 [[.int .i64 0,.int .i64 0,.int .i64 0,.int .i64 0,.nils]]):=by rw [hh1,g_push_eq]
 have f1:=pf hh1
 have z1:¬(220=218):=by decide
 have z2:¬(220=222):=by decide
 simp only [KK,↓reduceIte,reduceLT,reduceEqDiff,reduceAdd,reduceLeDiff,reduceCtorEq,hh1.symm,g1,z1,z2,fz_r]
 exact hP _ (f1.fresh (Fm.put (S:=fun j=>j=h.n) _ _ rfl) (fun j e=>by omega))
theorem plainL {d:Int} {v:CV} (hP:∀ h',Fn h h'→P (.agg [.int .i64 d,.int .i64 0,.int .i64 0,.int .i64 0,v]) h'):callW N (k+1) 334 [.c (.int .i64 d),.c (.iface 222 true [v])] h P:=by
 refine ci rfl ?_
 rw [a_fin]
 unfold n334b
 obtain ⟨h1,hh1⟩:=nm (h.push (.rows true 5 0 0 [[.int .i64 0,.int .i64 0,.int .i64 0,.int .i64 0,.nils]]))
 have g1:h1.g h.n=some (.rows true 5 0 0 [[.int .i64 0,.int .i64 0,.int .i64 0,.int .i64 0,.nils]]):=by rw [hh1,g_push_eq]
 have f1:=pf hh1
 have z1:¬(222=218):=by decide
 have z2:¬(222=220):=by decide
 simp only [KK,↓reduceIte,reduceLT,reduceEqDiff,reduceAdd,reduceLeDiff,reduceCtorEq,hh1.symm,g1,z1,z2,fz_r]
 exact hP _ (f1.fresh (Fm.put (S:=fun j=>j=h.n) _ _ rfl) (fun j e=>by omega))
def z5:List CV:=[.int .i64 0,.int .i64 0,.int .i64 0,.int .i64 0,.nils]
theorem takeS_ok {n:Int} (hr:Rdb h r S)
 (hP:∀ h',Rdb h' r (takeN 1 (takeN 5 S).2).2→Fm (fun i=>i=r) h h'→P (.agg (Iv.row (.sync (takeN 5 S).1 (takeN 1 (takeN 5 S).2).1) .nils)) h') :
 callW N (k+4) 425 [.c (.ptr r 0 0 0),.c (.int .i64 1),.c (.int .i64 n)] h P:=by
 refine ci rfl ?_
 rw [a_fin]
 unfold n425b
 obtain ⟨h1,hh1⟩:=nm (h.push (.rows true 5 0 0 [[.int .i64 0,.int .i64 0,.int .i64 0,.int .i64 0,.nils]]))
 have g1:h1.g h.n=some (.rows true 5 0 0 [[.int .i64 0,.int .i64 0,.int .i64 0,.int .i64 0,.nils]]):=by rw [hh1,g_push_eq]
 have f1:=pf hh1
 have hrl:=hr.lt
 simp only [KK,↓reduceIte,reduceLT,reduceEqDiff,reduceAdd,reduceLeDiff,reduceCtorEq,hh1.symm]
 refine of_ok (k:=k+2) ?_
 have eo:∀ a q t v,ofE 1 a q t v = .iface 218 true [.int .i64 a,.int .i64 q]:=fun _ _ _ _=>rfl
 simp only [KK,↓reduceIte,reduceLT,reduceEqDiff,reduceAdd,reduceCtorEq,eo]
 refine takeb_ok (k:=k) (m:=5) (hr.new f1) rfl (by omega) fun h2 r2 f2=>?_
 have b1:=takeN_lt (m:=5) (hr.new f1)
 have w1:IntKind.wrap .i64 (((takeN 5 S).1:Nat):Int)=(((takeN 5 S).1:Nat):Int):=wrap_i64 (by omega)
 simp only [KK,↓reduceIte,reduceLT,reduceCtorEq,w1]
 refine takeb_ok (k:=k) (m:=1) r2 rfl (by omega) fun h3 r3 f3=>?_
 have b2:=takeN_lt (m:=1) r2
 have w2:IntKind.wrap .i64 (((takeN 1 (takeN 5 S).2).1:Nat):Int)=(((takeN 1 (takeN 5 S).2).1:Nat):Int):=wrap_i64 (by omega)
 simp only [KK,↓reduceIte,reduceLT,reduceEqDiff,reduceAdd,reduceLeDiff,w2]
 refine plainS (k:=k+2) fun h4 f4=>?_
 have f14:Fm (fun i=>i=r) h1 h4:=(f2.trans f3).trans (f4.mono (fun _ _ e=>e.elim))
 have g4:=f14.some g1 (by omega)
 simp only [KK,↓reduceIte,reduceLT,reduceEqDiff,reduceAdd,reduceCtorEq,g4,fz_r]
 have fp:Fm (fun j=>j=h.n) h4 (h4.put h.n (.rows true 5 0 0 [[.int .i64 1,.int .i64 ((takeN 5 S).1:Nat),.int .i64 ((takeN 1 (takeN 5 S).2).1:Nat),.int .i64 0,.nils]])):=Fm.put (S:=fun j=>j=h.n) _ _ rfl
 exact hP _ ((r3.new f4).keep fp (fun j hj=>by omega)) (((f1.mono (fun _ _ e=>e.elim)).trans f14).fresh fp (fun j e=>by omega))
theorem takeC_ok {n:Int} (hr:Rdb h r S)
 (hP:∀ h',Rdb h' r (takeN 2 S).2→Fm (fun i=>i=r) h h'→P (.agg (Iv.row (.corr (sx (takeN 2 S).1)) .nils)) h') :
 callW N (k+4) 425 [.c (.ptr r 0 0 0),.c (.int .i64 2),.c (.int .i64 n)] h P:=by
 refine ci rfl ?_
 rw [a_fin]
 unfold n425b
 obtain ⟨h1,hh1⟩:=nm (h.push (.rows true 5 0 0 [[.int .i64 0,.int .i64 0,.int .i64 0,.int .i64 0,.nils]]))
 have g1:h1.g h.n=some (.rows true 5 0 0 [[.int .i64 0,.int .i64 0,.int .i64 0,.int .i64 0,.nils]]):=by rw [hh1,g_push_eq]
 have f1:=pf hh1
 have hrl:=hr.lt
 simp only [KK,↓reduceIte,reduceLT,reduceEqDiff,reduceAdd,reduceLeDiff,reduceCtorEq,hh1.symm]
 refine of_ok (k:=k+2) ?_
 have eo:∀ a q t v,ofE 2 a q t v = .iface 220 true [.int .i64 t]:=fun _ _ _ _=>rfl
 have y1:¬(220=218):=by decide
 simp only [KK,↓reduceIte,reduceLT,reduceEqDiff,reduceAdd,reduceCtorEq,eo,y1]
 refine takeb_ok (k:=k) (m:=2) (hr.new f1) rfl (by omega) fun h2 r2 f2=>?_
 have w1:IntKind.wrap .i16 (((takeN 2 S).1:Nat):Int)=sx (takeN 2 S).1:=rfl
 have b2:=sx_le (takeN 2 S).1
 have w2:IntKind.wrap .i64 (sx (takeN 2 S).1)=sx (takeN 2 S).1:=wrap_i64 (by omega)
 simp only [KK,↓reduceIte,reduceLT,reduceEqDiff,w1,w2]
 refine plainC (k:=k+2) fun h4 f4=>?_
 have f14:Fm (fun i=>i=r) h1 h4:=f2.trans (f4.mono (fun _ _ e=>e.elim))
 have g4:=f14.some g1 (by omega)
 simp only [KK,↓reduceIte,reduceLT,reduceEqDiff,reduceAdd,reduceCtorEq,g4,fz_r]
 have fp:Fm (fun j=>j=h.n) h4 (h4.put h.n (.rows true 5 0 0 [[.int .i64 2,.int .i64 0,.int .i64 0,.int .i64 (sx (takeN 2 S).1),.nils]])):=Fm.put (S:=fun j=>j=h.n) _ _ rfl
 exact hP _ ((r2.new f4).keep fp (fun j hj=>by omega)) (((f1.mono (fun _ _ e=>e.elim)).trans f14).fresh fp (fun j e=>by omega))
def TlI (r b d:Nat) (h0:Hp) (u:CV) (L:List Nat) (n:Nat) (s:St):Prop:=∃ (i:Nat) (l:List (Nat × TV)) (h':Hp) (w:CV),s=ST 67 l [] h'∧i≤L.length∧n=L.length-i∧Ow h' 1 w ((L.take i).map eN)∧
 (∀ j,ownId w j→h0.n≤j)∧Fn h0 h'∧(i=0→w = .nils)∧lk l 1 = .v (.c (.int .i64 d))∧lk l 6 = .v (.c (.ptr b 0 0 0))∧lk l 12 = .v (.c w)∧lk l 50 = .v (.c u)∧lk l 51 = .v (.c (.int .i64 L.length))∧lk l 52 = .v (.c (.int .i64 i))
theorem takeL_ok {d n:Nat} (hd:d=3∨d=4) (hr:Rdb h r S) (hn:n≤1000)
 (hP:∀ h' w,Rdb h' r (textN n S).2→IeM h' (.lst d (textN n S).1) w→(∀ j,ownId w j→h.n≤j)→Fm (fun i=>i=r) h h'→P (.agg (Iv.row (.lst d (textN n S).1) w)) h') :
 callW N (k+5) 425 [.c (.ptr r 0 0 0),.c (.int .i64 (d:Nat)),.c (.int .i64 (n:Nat))] h P:=by
 refine ci rfl ?_
 rw [a_fin]
 unfold n425b
 obtain ⟨h1,hh1⟩:=nm (h.push (.rows true 5 0 0 [[.int .i64 0,.int .i64 0,.int .i64 0,.int .i64 0,.nils]]))
 have g1:h1.g h.n=some (.rows true 5 0 0 [[.int .i64 0,.int .i64 0,.int .i64 0,.int .i64 0,.nils]]):=by rw [hh1,g_push_eq]
 have f1:=pf hh1
 have hrl:=hr.lt
 have n1:h1.n=h.n+1:=by rw [hh1,n_push]
 simp only [KK,↓reduceIte,reduceLT,reduceEqDiff,reduceAdd,reduceLeDiff,reduceCtorEq,hh1.symm]
 refine of_ok (k:=k+3) ?_
 have eo:∀ a q t v,ofE (d:Int) a q t v = .iface 222 true [v]:=fun _ _ _ _=>by rcases hd with rfl|rfl <;> rfl
 have y2:¬(222=218):=by decide
 have y3:¬(222=220):=by decide
 simp only [KK,↓reduceIte,reduceLT,reduceEqDiff,reduceAdd,reduceCtorEq,eo,y2,y3]
 refine text_ok (k:=k) (hr.new f1) (by omega) fun h2 u r2 ku pu eu cu f2=>?_
 have hlen:=ku.lm
 have hT:∀ c∈(textN n S).1,c<256:=by
  intro c hc
  obtain ⟨B,rfl,hB⟩:=textN_of.1 c hc
  exact hr.bytes.1 c hB
 have hTl:(textN n S).1.length≤n:=textN_of.2
 generalize textN n S=T at *
 obtain ⟨T,S'⟩:=T
 simp only at *
 have hnu:Nr h.n u:=by
  rintro id tok off len cap rfl rfl
  have:=pu _ rfl
  omega
 simp only [KK,↓reduceIte,reduceLT,reduceEqDiff,reduceCtorEq,hlen]
 have g2:=f2.some g1 (by omega)
 refine loop_rd (callW_mono N _) (TlI r h.n d h2 u T) (n:=T.length) ⟨0,_,_,.nils,rfl,by omega,by omega,rfl,(fun j e=>e.elim),Fm.refl _ _,fun _=>rfl,rfl,rfl,rfl,rfl,rfl,rfl⟩ ?_
 rintro nn s ⟨i,l,h3,w,rfl,hi,hnn,w2,w3,f3,ez,e1,e6,e12,e50,e51,e52⟩
 by_cases hlt:(i:Int)<T.length
 ·obtain ⟨id,tok,j,k1,k2⟩:=bytes_at (ku.new f3) (i:=i) (by omega)
  have hi2:i<T.length:=by omega
  have hc:=hT _ (List.getElem_mem hi2)
  have w5:IntKind.wrap .i64 ((T[i]:Nat):Int)=((T[i]:Nat):Int):=wrap_i64 (by omega)
  have w4:=wi1 i (by omega)
  obtain ⟨w',h4,a1,a2,a3,a4⟩:=w2.app (lc:=[[.int .i64 ((T[i]:Nat):Int)]]) (x:=.lsl 0 1) (xs:=[[.int .i64 ((T[i]:Nat):Int)]]) rfl (by simp) (bytes:=8)
   (by simp only [room,List.length_map,List.length_take,List.length_cons,List.length_nil];omega)
  simp only [KK,↓reduceIte,reduceLT,reduceEqDiff,e1,e6,e12,e50,e51,e52,hlt,k1,k2,w5,a1,w4,rd_n]
  refine ⟨nn-1,by omega,i+1,_,h4,w',rfl,by omega,by omega,?_,?_,f3.fresh a3 w3,(fun e=>by omega),rfl,rfl,rfl,rfl,rfl,rfl⟩
  ·rw [List.take_add_one,List.getElem?_eq_getElem hi2,Option.toList_some,List.map_append]
   exact a2
  ·intro j hj
   rcases a4 j hj with e|e
   ·exact w3 j e
   ·have:=f3.n;omega
 ·have hi2:i=T.length:=by omega
  subst hi2
  rw [List.take_of_length_le (Nat.le_refl _)] at w2
  simp only [KK,↓reduceIte,reduceLT,reduceEqDiff,e1,e6,e12,e50,e51,e52,hlt]
  refine plainL (k:=k+3) fun h4 f4=>?_
  have f14:Fm (fun i=>i=r) h1 h4:=f2.trans ((f3.trans f4).mono (fun _ _ e=>e.elim))
  have g4:=f14.some g1 (by omega)
  simp only [KK,↓reduceIte,reduceLT,reduceEqDiff,reduceAdd,g4,fz_r]
  obtain ⟨h5,hh5⟩:∃ g,g=h4.put h.n (.rows true 5 0 0 [[.int .i64 (d:Int),.int .i64 0,.int .i64 0,.int .i64 0,w]]):=⟨_,rfl⟩
  have fp:Fm (fun j=>j=h.n) h4 h5:=by rw [hh5];exact Fm.put (S:=fun j=>j=h.n) _ _ rfl
  have nw:∀ j,ownId w j→h1.n≤j:=fun j hj=>by have:=w3 j hj;have:=f2.n;omega
  have:=hP h5 w ((r2.new (f3.trans f4)).keep fp (fun j hj=>by omega))
   ⟨((w2.sl.new f4).mono fp (by rintro id tok off len cap rfl rfl;have:=nw _ rfl;omega)),fun e=>?_⟩ (fun j hj=>by have:=nw j hj;omega) (((f1.mono (fun _ _ e=>e.elim)).trans f14).fresh fp (fun j e=>by omega))
  ·rw [hh5] at this
   exact this
  ·have e:T=[]:=e
   exact ez (by rw [e];rfl)
end
end
section
set_option maxHeartbeats 4000000
def oneD:List Nat→Option (Iv × List Nat)
 | d::n::B=>
  if d=1 then (if n=6∧6≤B.length then some (.sync (beN (B.take 5)) (beN ((B.drop 5).take 1)),B.drop 6) else none)
  else if d=2 then (if n=2∧2≤B.length then some (.corr (sx (beN (B.take 2))),B.drop 2) else none)
  else if d=3∨d=4 then (if n≤16∧n≤B.length then some (.lst d (B.take n),B.drop n) else none)
  else none
 | _=>none
theorem oneL {d n:Nat} {B:List Nat} (hd:d=3∨d=4) (hn:n≤16) (hle:n≤B.length):oneD (d::n::B)=some (.lst d (B.take n),B.drop n):=by
 unfold oneD
 simp only
 rw [if_neg (by omega),if_neg (by omega),if_pos hd,if_pos ⟨hn,hle⟩]
theorem oneLn {d n:Nat} {B:List Nat} (hd:d=3∨d=4) (hle:¬n≤B.length):oneD (d::n::B)=none:=by
 unfold oneD
 simp only
 rw [if_neg (by omega),if_neg (by omega),if_pos hd,if_neg (by omega)]
section
variable {k:Nat} {h:Hp} {P:AV→Hp→Prop} {r:Nat}
theorem one_ok {B:List Nat} (hr:Rdb h r (some B))
 (h1:∀ v B' h' s,oneD B=some (v,B')→Rdb h' r (some B')→IeM h' v s→(∀ j,ownId s j→h.n≤j)→Fm (fun i=>i=r) h h'→P (.tup [.agg (v.row s),.c (.int .i64 0)]) h')
 (h2:∀ h' (e:Int),oneD B=none→e≠0→Fm (fun i=>i=r) h h'→P (.tup [.agg z5,.c (.int .i64 e)]) h'):callW N (k+6) 411 [.c (.ptr r 0 0 0)] h P:=by
 have zr:z5=[.int .i64 0,.int .i64 0,.int .i64 0,.int .i64 0,.nils]:=rfl
 have hrl:=hr.lt
 have hBb:=hr.bytes.1
 refine ci rfl ?_
 rw [a_fin]
 unfold n411b
 obtain ⟨g0,hh0⟩:=nm (h.push (.rows true 5 0 0 [[.int .i64 0,.int .i64 0,.int .i64 0,.int .i64 0,.nils]]))
 have u0:g0.g h.n=some (.rows true 5 0 0 [[.int .i64 0,.int .i64 0,.int .i64 0,.int .i64 0,.nils]]):=by rw [hh0,g_push_eq]
 have f0:=pf hh0
 have n0:g0.n=h.n+1:=by rw [hh0,n_push]
 have out:∀ g (e:Int),oneD B=none→e≠0→Fm (fun i=>i=r) g0 g→P (.tup [.agg [.int .i64 0,.int .i64 0,.int .i64 0,.int .i64 0,.nils],.c (.int .i64 e)]) (g.put h.n (.rows true 5 0 0 [[.int .i64 0,.int .i64 0,.int .i64 0,.int .i64 0,.nils]])):=by
  intro g e ho he f
  exact h2 _ e ho he (((f0.mono (fun _ _ e=>e.elim)).trans f).fresh (Fm.put (S:=fun j=>j=h.n) _ _ rfl) (fun j e=>by omega))
 simp only [KK,↓reduceIte,reduceLT,reduceAdd,reduceCtorEq,hh0.symm]
 refine takeb_ok (k:=k+2) (m:=1) (hr.new f0) rfl (by omega) fun g1 r1 f1=>?_
 have b1:=takeN_lt (m:=1) (hr.new f0)
 have w1:IntKind.wrap .i64 (((takeN 1 (some B)).1:Nat):Int)=(((takeN 1 (some B)).1:Nat):Int):=wrap_i64 (by omega)
 have u1:=f1.some u0 (by omega)
 simp only [KK,↓reduceIte,reduceLT,reduceEqDiff,reduceCtorEq,w1]
 refine short_ok (k:=k+2) r1 ?_
 rcases B with _|⟨d,B⟩
 ·have e1:(takeN 1 (some [])).2=none:=rfl
  rw [e1]
  have z1:(none:Option (List Nat)).isNone=true:=rfl
  simp only [KK,↓reduceIte,reduceLT,reduceEqDiff,reduceAdd,reduceCtorEq,z1,u1,fz_r]
  exact out g1 2 rfl (by decide) f1
 have e1:takeN 1 (some (d::B))=(d,some B):=by simp [takeN,beN]
 rw [e1] at r1 w1 b1 ⊢
 have r1:Rdb g1 r (some B):=r1
 have z1:(some B).isNone=false:=rfl
 simp only [KK,↓reduceIte,reduceLT,reduceEqDiff,reduceAdd,reduceLeDiff,reduceCtorEq,z1]
 refine of_ok (k:=k+4) ?_
 by_cases hd:d=1∨d=2∨d=3∨d=4
 case neg=>
  have z1:¬((d:Int)=1):=by omega
  have z2:¬((d:Int)=2):=by omega
  have z3:¬((d:Int)=3∨(d:Int)=4):=by omega
  have eo:∀ v,ofE (d:Int) 0 0 0 v = .nili:=fun v=>by simp only [ofE,if_neg z1,if_neg z2,if_neg z3]
  have on:oneD (d::B)=none:=by
   unfold oneD
   rcases B with _|⟨n,B⟩
   ·rfl
   ·simp only
    rw [if_neg (by omega),if_neg (by omega),if_neg (by omega)]
  simp only [KK,↓reduceIte,reduceLT,reduceEqDiff,reduceAdd,reduceCtorEq,eo,u1,fz_r]
  exact out g1 3 on (by decide) f1
 have en:∀ v,(ofE (d:Int) 0 0 0 v = .iface 218 true [.int .i64 0,.int .i64 0]∧d=1)∨(ofE (d:Int) 0 0 0 v = .iface 220 true [.int .i64 0]∧d=2)∨(ofE (d:Int) 0 0 0 v = .iface 222 true [v]∧(d=3∨d=4)):=by
  intro v
  rcases hd with rfl|rfl|rfl|rfl
  ·exact .inl ⟨rfl,rfl⟩
  ·exact .inr (.inl ⟨rfl,rfl⟩)
  ·exact .inr (.inr ⟨rfl,.inl rfl⟩)
  ·exact .inr (.inr ⟨rfl,.inr rfl⟩)
 obtain ⟨o,ho,hno⟩:∃ o,ofE (d:Int) 0 0 0 .nils=o∧∃ i c,o = .iface i true c:=by
  rcases en .nils with ⟨e,_⟩|⟨e,_⟩|⟨e,_⟩ <;> exact ⟨_,e,_,_,rfl⟩
 obtain ⟨io,co,rfl⟩:=hno
 simp only [KK,↓reduceIte,reduceLT,reduceEqDiff,reduceCtorEq,ho]
 refine takeb_ok (k:=k+2) (m:=1) r1 rfl (by omega) fun g2 r2 f2=>?_
 have b2:=takeN_lt (m:=1) r1
 have w2:IntKind.wrap .i64 (((takeN 1 (some B)).1:Nat):Int)=(((takeN 1 (some B)).1:Nat):Int):=wrap_i64 (by omega)
 have u2:=f2.some u1 (by omega)
 simp only [KK,↓reduceIte,reduceLT,reduceEqDiff,reduceCtorEq,w2]
 refine short_ok (k:=k+2) r2 ?_
 rcases B with _|⟨n,B⟩
 ·have e2:(takeN 1 (some [])).2=none:=rfl
  rw [e2]
  have z1:(none:Option (List Nat)).isNone=true:=rfl
  simp only [KK,↓reduceIte,reduceLT,reduceEqDiff,reduceAdd,reduceCtorEq,z1,u2,fz_r]
  exact out g2 2 (by unfold oneD;rfl) (by decide) (f1.trans f2)
 have e2:takeN 1 (some (n::B))=(n,some B):=by simp [takeN,beN]
 rw [e2] at r2 w2 b2 ⊢
 have r2:Rdb g2 r (some B):=r2
 have z2:(some B).isNone=false:=rfl
 have hn:n<256:=b2
 simp only [KK,↓reduceIte,reduceLT,reduceEqDiff,reduceCtorEq,z2]
 refine right_ok (k:=k+3) hd ?_
 by_cases hri:rightN d n=true
 case neg=>
  have hri:rightN d n=false:=by simpa using hri
  have on:oneD (d::n::B)=none:=by
   unfold rightN at hri
   unfold oneD
   rcases hd with rfl|rfl|rfl|rfl
   ·simp at hri;simp [hri]
   ·simp at hri;simp [hri]
   ·simp at hri;simp;omega
   ·simp at hri;simp;omega
  simp only [KK,↓reduceIte,reduceLT,reduceEqDiff,reduceAdd,reduceCtorEq,hri,u2,fz_r]
  exact out g2 3 on (by decide) (f1.trans f2)
 simp only [KK,↓reduceIte,reduceLT,reduceEqDiff,reduceCtorEq,hri]
 have f02:Fm (fun i=>i=r) g0 g2:=f1.trans f2
 have n02:=f02.n
 have u2':=u2
 rcases hd with rfl|rfl|rfl|rfl
 ·have hn6:n=6:=by simpa [rightN] using hri
  subst hn6
  have q1:((1:Nat):Int)=1:=rfl
  rw [q1]
  refine takeS_ok (k:=k+1) r2 fun g3 r3 f3=>?_
  have u3:=f3.some u2 (by omega)
  by_cases hle:6≤B.length
  ·have t5:takeN 5 (some B)=(beN (B.take 5),some (B.drop 5)):=by simp only [takeN,if_pos (show 5≤B.length by omega)]
   have t1:takeN 1 (some (B.drop 5))=(beN ((B.drop 5).take 1),some (B.drop 6)):=by
    simp only [takeN]
    rw [List.length_drop,if_pos (by omega),List.drop_drop]
   have on:oneD (1::6::B)=some (.sync (beN (B.take 5)) (beN ((B.drop 5).take 1)),B.drop 6):=by
    unfold oneD
    simp [hle]
   rw [t5] at r3 ⊢
   simp only [t1] at r3 ⊢
   simp only [Iv.row]
   simp only [KK,↓reduceIte,reduceLT,reduceEqDiff,reduceAdd,reduceCtorEq]
   refine short_ok (k:=k+2) r3 ?_
   have zs:(some (B.drop 6)).isNone=false:=rfl
   simp only [KK,↓reduceIte,reduceLT,reduceEqDiff,reduceAdd,reduceCtorEq,zs,u3,fz_r]
   have fp:∀ row,Fm (fun j=>j=h.n) g3 (g3.put h.n (.rows true 5 0 0 [row])):=fun row=>Fm.put (S:=fun j=>j=h.n) _ _ rfl
   exact h1 _ _ _ .nils on (r3.keep (fp _) (fun j hj=>by omega)) ⟨rfl,fun _=>rfl⟩ (fun j e=>e.elim) (((f0.mono (fun _ _ e=>e.elim)).trans (f02.trans f3)).fresh (fp _) (fun j e=>by omega))
  ·have tn:(takeN 1 (takeN 5 (some B)).2).2=none:=by
    by_cases h5:5≤B.length
    ·simp only [takeN,if_pos h5]
     rw [if_neg (by rw [List.length_drop];omega)]
    ·simp only [takeN,if_neg h5]
   have on:oneD (1::6::B)=none:=by
    unfold oneD
    simp [hle]
   rw [tn] at r3
   simp only [Iv.row]
   simp only [KK,↓reduceIte,reduceLT,reduceEqDiff,reduceAdd,reduceCtorEq]
   refine short_ok (k:=k+2) r3 ?_
   have zs:(none:Option (List Nat)).isNone=true:=rfl
   simp only [KK,↓reduceIte,reduceLT,reduceEqDiff,reduceAdd,reduceCtorEq,zs,u3,fz_r]
   exact out g3 2 on (by decide) (f02.trans f3)
 ·have hn2:n=2:=by simpa [rightN] using hri
  subst hn2
  have q1:((2:Nat):Int)=2:=rfl
  rw [q1]
  refine takeC_ok (k:=k+1) r2 fun g3 r3 f3=>?_
  have u3:=f3.some u2 (by omega)
  by_cases hle:2≤B.length
  ·have t2:takeN 2 (some B)=(beN (B.take 2),some (B.drop 2)):=by simp only [takeN,if_pos hle]
   have on:oneD (2::2::B)=some (.corr (sx (beN (B.take 2))),B.drop 2):=by
    unfold oneD
    simp [hle]
   rw [t2] at r3 ⊢
   simp only [Iv.row]
   simp only [KK,↓reduceIte,reduceLT,reduceEqDiff,reduceAdd,reduceCtorEq]
   refine short_ok (k:=k+2) r3 ?_
   have zs:(some (B.drop 2)).isNone=false:=rfl
   simp only [KK,↓reduceIte,reduceLT,reduceEqDiff,reduceAdd,reduceCtorEq,zs,u3,fz_r]
   have fp:∀ row,Fm (fun j=>j=h.n) g3 (g3.put h.n (.rows true 5 0 0 [row])):=fun row=>Fm.put (S:=fun j=>j=h.n) _ _ rfl
   exact h1 _ _ _ .nils on (r3.keep (fp _) (fun j hj=>by omega)) ⟨rfl,fun _=>rfl⟩ (fun j e=>e.elim) (((f0.mono (fun _ _ e=>e.elim)).trans (f02.trans f3)).fresh (fp _) (fun j e=>by omega))
  ·have tn:(takeN 2 (some B)).2=none:=by simp only [takeN,if_neg hle]
   have on:oneD (2::2::B)=none:=by
    unfold oneD
    simp [hle]
   rw [tn] at r3
   simp only [Iv.row]
   simp only [KK,↓reduceIte,reduceLT,reduceEqDiff,reduceAdd,reduceCtorEq]
   refine short_ok (k:=k+2) r3 ?_
   have zs:(none:Option (List Nat)).isNone=true:=rfl
   simp only [KK,↓reduceIte,reduceLT,reduceEqDiff,reduceAdd,reduceCtorEq,zs,u3,fz_r]
   exact out g3 2 on (by decide) (f02.trans f3)
 all_goals
  have hn16:n≤16:=by simpa [rightN] using hri
  refine takeL_ok (k:=k) (by omega) r2 (by omega) fun g3 s r3 m3 p3 f3=>?_
  have u3:=f3.some u2 (by omega)
  by_cases hle:n≤B.length
  ·have t2:textN n (some B)=(B.take n,some (B.drop n)):=by simp only [textN,if_pos hle]
   rw [t2] at r3 m3 ⊢
   simp only [Iv.row]
   simp only [KK,↓reduceIte,reduceLT,reduceEqDiff,reduceAdd,reduceCtorEq]
   refine short_ok (k:=k+2) r3 ?_
   have zs:(some (B.drop n)).isNone=false:=rfl
   simp only [KK,↓reduceIte,reduceLT,reduceEqDiff,reduceAdd,reduceCtorEq,zs,u3,fz_r]
   have fp:∀ row,Fm (fun j=>j=h.n) g3 (g3.put h.n (.rows true 5 0 0 [row])):=fun row=>Fm.put (S:=fun j=>j=h.n) _ _ rfl
   refine h1 _ _ _ s (oneL (by omega) hn16 hle) (r3.keep (fp _) (fun j hj=>by omega)) ⟨m3.1.mono (fp _) ?_,m3.2⟩ (fun j e=>by have:=p3 j e;omega) (((f0.mono (fun _ _ e=>e.elim)).trans (f02.trans f3)).fresh (fp _) (fun j e=>by omega))
   rintro id tok off len cap rfl rfl
   have:=p3 _ rfl
   omega
  ·have tn:(textN n (some B)).2=none:=by simp only [textN,if_neg hle]
   rw [tn] at r3
   simp only [Iv.row]
   simp only [KK,↓reduceIte,reduceLT,reduceEqDiff,reduceAdd,reduceCtorEq]
   refine short_ok (k:=k+2) r3 ?_
   have zs:(none:Option (List Nat)).isNone=true:=rfl
   simp only [KK,↓reduceIte,reduceLT,reduceEqDiff,reduceAdd,reduceCtorEq,zs,u3,fz_r]
   exact out g3 2 (oneLn (by omega) hle) (by decide) (f02.trans f3)
end
end
section
set_option maxHeartbeats 4000000
def iesD:Nat→List Nat→Option (List Iv × List Nat)
 | 0,B=>some ([],B)
 | n+1,B=>(oneD B).bind fun x=>(iesD n x.2).map fun y=>(x.1::y.1,y.2)
def decI:List Nat→Option (List Iv)
 | []=>none
 | n::B=>if n≤4 then (iesD n B).bind fun x=>if x.2=[] then some x.1 else none else none
def IesAt (base:Nat) (h:Hp) (o:CV) (l:List Iv):Prop:=
 ∃ vs:List (Iv × CV),vs.map (·.1)=l∧SL h 5 o (vs.map fun x=>x.1.row x.2)∧(∀ x∈vs,IeM h x.1 x.2)∧(∀ j,ownId o j→base≤j)∧(∀ x∈vs,∀ j,ownId x.2 j→base≤j)
theorem SL.off {S:Nat→Prop} {h h':Hp} {sz:Nat} {v:CV} {rows:List (List CV)} (k:SL h sz v rows) (f:Fm S h h') (hS:∀ j,ownId v j→¬S j):SL h' sz v rows:=
 k.mono f (by rintro id tok off len cap rfl;exact hS id rfl)
theorem IesAt.keep {S:Nat→Prop} {base:Nat} {h h':Hp} {o:CV} {l:List Iv} (k:IesAt base h o l) (f:Fm S h h') (hS:∀ j,base≤j→j<h.n→¬S j):IesAt base h' o l:=by
 obtain ⟨vs,k1,k2,k3,k4,k5⟩:=k
 have lt:∀ {sz:Nat} {v:CV} {rows:List (List CV)},SL h sz v rows→∀ j,ownId v j→j<h.n:=by
  intro sz v rows k j hj
  cases v <;> simp only [ownId] at hj
  subst hj
  exact k.lt _ _ _ _ _ rfl
 exact ⟨vs,k1,k2.off f (fun j hj=>hS j (k4 j hj) (lt k2 j hj)),fun x hx=>⟨(k3 x hx).1.off f (fun j hj=>hS j (k5 x hx j hj) (lt (k3 x hx).1 j hj)),(k3 x hx).2⟩,k4,k5⟩
theorem IesAt.new {base:Nat} {h h':Hp} {o:CV} {l:List Iv} (k:IesAt base h o l) (f:Fn h h'):IesAt base h' o l:=k.keep f (fun _ _ _ e=>e)
theorem IesAt.base {b b':Nat} {h:Hp} {o:CV} {l:List Iv} (k:IesAt b h o l) (hb:b'≤b):IesAt b' h o l:=by
 obtain ⟨vs,k1,k2,k3,k4,k5⟩:=k
 exact ⟨vs,k1,k2,k3,fun j hj=>Nat.le_trans hb (k4 j hj),fun x hx j hj=>Nat.le_trans hb (k5 x hx j hj)⟩
theorem sl_ne {h:Hp} {a b:Nat} {v o:CV} {l rows:List (List CV)} (k:SL h a v l) (w:Ow h b o rows) (hab:a≠b):∀ j,ownId v j→¬ownId o j:=by
 intro j hj hj2
 cases v <;> simp only [ownId] at hj
 cases o <;> simp only [ownId] at hj2
 subst hj;subst hj2
 obtain ⟨wr,cur,lw,rs,e1,_⟩:=k
 obtain ⟨_,_,lw2,rs2,e2,_⟩:=w
 rw [e1] at e2
 injection e2 with e2
 injection e2 with _ e3
 exact hab e3
section
variable {k:Nat} {h:Hp} {P:AV→Hp→Prop} {r:Nat}
def DiI (r m:Nat) (h0:Hp) (B:List Nat) (n:Nat) (s:St):Prop:=∃ (i:Nat) (l:List (Nat × TV)) (h':Hp) (o:CV) (vs:List (Iv × CV)) (Bi:List Nat),s=ST 41 l [] h'∧i≤m∧n=m-i∧vs.length=i∧
 iesD m B=(iesD (m-i) Bi).map (fun x=>(vs.map (·.1)++x.1,x.2))∧Rdb h' r (some Bi)∧Ow h' 5 o (vs.map fun x=>x.1.row x.2)∧(∀ x∈vs,IeM h' x.1 x.2)∧(∀ j,ownId o j→h0.n≤j)∧(∀ x∈vs,∀ j,ownId x.2 j→h0.n≤j)∧
 Fm (fun i=>i=r) h0 h'∧lk l 4 = .v (.c (.ptr r 0 0 0))∧lk l 6 = .v (.c o)∧lk l 19 = .v (.c (.int .i64 m))∧lk l 20 = .v (.c (.int .i64 i))
theorem decies_ok {v:CV} {B:List Nat} (hv:SL h 1 v (B.map eB)) (hB:∀ c∈B,c<256) (hl:B.length≤100000)
 (h1:∀ l h' o,decI B=some l→IesAt h.n h' o l→Fn h h'→P (.tup [.c o,.c (.int .i64 0)]) h')
 (h2:∀ h' o (e:Int),decI B=none→e≠0→Fn h h'→P (.tup [.c o,.c (.int .i64 e)]) h'):callW N (k+7) 399 [.c v] h P:=by
 refine ci rfl ?_
 simp only [KK,↓reduceIte,reduceLT,reduceCtorEq]
 refine newreader_ok (k:=k+5) hv hB hl fun g1 r hr r1 f1=>?_
 simp only [KK,↓reduceIte,reduceLT]
 refine takeb_ok (k:=k+3) (m:=1) r1 rfl (by omega) fun g2 r2 f2=>?_
 have b1:=takeN_lt (m:=1) r1
 have w1:IntKind.wrap .i64 (((takeN 1 (some B)).1:Nat):Int)=(((takeN 1 (some B)).1:Nat):Int):=wrap_i64 (by omega)
 have F:∀ {g g':Hp},Fn h g→Fm (fun i=>i=r) g g'→Fn h g':=fun a b=>a.fresh b (fun j e=>by omega)
 simp only [KK,↓reduceIte,reduceLT,reduceEqDiff,w1]
 refine short_ok (k:=k+3) r2 ?_
 rcases B with _|⟨n,B⟩
 ·have e1:(takeN 1 (some [])).2=none:=rfl
  rw [e1]
  have z1:(none:Option (List Nat)).isNone=true:=rfl
  simp only [KK,↓reduceIte,reduceLT,reduceEqDiff,z1]
  exact h2 _ _ _ rfl (by decide) (F f1 f2)
 have e1:takeN 1 (some (n::B))=(n,some B):=by simp [takeN,beN]
 rw [e1] at r2 w1 b1 ⊢
 have r2:Rdb g2 r (some B):=r2
 have z1:(some B).isNone=false:=rfl
 have hn:n<256:=b1
 by_cases h4:n≤4
 case neg=>
  have c4:(4:Int)<(n:Int):=by omega
  simp only [KK,↓reduceIte,reduceLT,reduceEqDiff,z1,c4]
  exact h2 _ _ _ (by simp only [decI,if_neg h4]) (by decide) (F f1 f2)
 have c4:¬(4:Int)<(n:Int):=by omega
 simp only [KK,↓reduceIte,reduceLT,reduceEqDiff,z1,c4]
 have hd:decI (n::B)=(iesD n B).bind fun x=>if x.2=[] then some x.1 else none:=by simp only [decI,if_pos h4]
 refine loop_rd (callW_mono N _) (DiI r n g2 B) (n:=n) ⟨0,_,g2,.nils,[],B,rfl,by omega,by omega,rfl,by simp,r2,rfl,by simp,(fun j e=>e.elim),by simp,Fm.refl _ _,rfl,rfl,rfl,rfl⟩ ?_
 rintro nn s ⟨i,l,g3,o,vs,Bi,rfl,hi,hnn,hvl,hie,r3,o3,m3,p3,q3,f3,e4,e6,e19,e20⟩
 by_cases hlt:(i:Int)<n
 ·obtain ⟨t,ht⟩:∃ t,n-i=t+1:=⟨n-i-1,by omega⟩
  rw [ht] at hie
  simp only [iesD] at hie
  have w4:=wi1 i (by omega)
  have hrl:=r3.lt
  simp only [KK,↓reduceIte,reduceLT,reduceEqDiff,e4,e6,e19,e20,hlt]
  refine one_ok (k:=k) r3 ?_ ?_
  ·intro v B' g4 s on r4 m4 p4 f4
   have o4:Ow g4 5 o (vs.map fun x=>x.1.row x.2):=o3.mono f4 (fun j hj e=>by
    have:=p3 j hj
    have:=r2.lt
    omega)
   obtain ⟨ra,rb,rc,rd,re,hrow⟩:∃ a b c d e,v.row s=[a,b,c,d,e]:=by cases v <;> exact ⟨_,_,_,_,_,rfl⟩
   obtain ⟨o',g5,a1,a2,a3,a4⟩:=o4.app (lc:=[[ra,rb,rc,rd,re],[ra,rb,rc,rd,re]]) (x:=.lsl 1 1) (xs:=[[ra,rb,rc,rd,re]]) rfl (by simp) (bytes:=56) (by simp only [List.length_map,List.length_cons,List.length_nil,room];omega)
   have z0:¬((0:Int)≠0):=by decide
   rw [hrow]
   simp only [KK,↓reduceIte,reduceLT,reduceEqDiff,reduceAdd,a1,w4,rd_n]
   rw [on] at hie
   refine ⟨nn-1,by omega,i+1,_,g5,o',vs++[(v,s)],B',rfl,by omega,by omega,by simp [hvl],?_,r4.keep a3 ?_,?_,?_,?_,?_,(f3.trans f4).fresh a3 p3,rfl,rfl,rfl,rfl⟩
   ·rw [hie,show n-(i+1)=t by omega,Option.bind_some]
    cases hq:iesD t B' with
    | none=>simp [hq]
    | some y=>simp [hq]
   ·intro j hj hj2
    have:=p3 j hj2
    have:=r2.lt
    omega
   ·simpa [hrow] using a2
   ·intro x hx
    rcases List.mem_append.mp hx with hx|hx
    ·refine ⟨((m3 x hx).1.off f4 ?_).off a3 ?_,(m3 x hx).2⟩
     ·intro j hj e
      have:=q3 x hx j hj
      have:=r2.lt
      omega
     ·exact sl_ne ((m3 x hx).1.off f4 (fun j hj e=>by have:=q3 x hx j hj;have:=r2.lt;omega)) o4 (by decide)
    ·rw [List.mem_singleton] at hx
     subst hx
     exact ⟨m4.1.off a3 (sl_ne m4.1 o4 (by decide)),m4.2⟩
   ·intro j hj
    rcases a4 j hj with e|e
    ·exact p3 j e
    ·have:=f3.n;have:=f4.n;omega
   ·intro x hx
    rcases List.mem_append.mp hx with hx|hx
    ·exact q3 x hx
    ·rw [List.mem_singleton] at hx
     subst hx
     intro j hj
     have:=p4 j hj
     have:=f3.n
     omega
  ·intro g4 e on he f4
   have he2:¬e=0:=he
   have:z5=[.int .i64 0,.int .i64 0,.int .i64 0,.int .i64 0,.nils]:=rfl
   rw [this]
   simp only [KK,↓reduceIte,reduceLT,reduceEqDiff,reduceAdd,he2]
   exact h2 _ _ _ (by rw [hd,hie,on];rfl) he (F (F f1 f2) (f3.trans f4))
 ·have hs:n-i=0:=by omega
  rw [hs] at hie
  simp only [iesD] at hie
  simp only [KK,↓reduceIte,reduceLT,reduceEqDiff,e4,e6,e19,e20,hlt]
  refine endn_ok (k:=k+4) r3 ?_
  rcases Bi with _|⟨y,ys⟩
  ·have z0:endN (some [])=0:=rfl
   simp only [KK,↓reduceIte,reduceLT,reduceEqDiff,z0]
   refine h1 (vs.map (·.1)) _ _ ?_ ⟨vs,rfl,o3.sl,m3,?_,?_⟩ (F (F f1 f2) f3)
   ·rw [hd,hie]
    simp
   ·intro j hj
    have:=p3 j hj
    have:=f1.n
    have:=f2.n
    omega
   ·intro x hx j hj
    have:=q3 x hx j hj
    have:=f1.n
    have:=f2.n
    omega
  ·have z0:endN (some (y::ys))=3:=rfl
   have z3:¬(3:Int)=0:=by decide
   simp only [KK,↓reduceIte,reduceLT,reduceEqDiff,z0,z3]
   refine h2 _ _ 3 ?_ (by decide) (F (F f1 f2) f3)
   rw [hd,hie]
   simp
end
end
section
set_option maxHeartbeats 4000000
def Iv.kind:Iv→Nat
 | .sync _ _=>1
 | .corr _=>2
 | .lst d _=>d
def Iv.Good:Iv→Prop
 | .sync a r=>a<1099511627776∧r≤255
 | .corr t=>-32768≤t∧t≤32767
 | .lst d l=>(d=3∨d=4)∧l.length≤16∧∀ c∈l,c<256
theorem Iv.row_eq (v:Iv):∃ a b c:Int,∀ s,v.row s=[.int .i64 (v.kind:Int),.int .i64 a,.int .i64 b,.int .i64 c,s]:=by
 cases v <;> exact ⟨_,_,_,fun _=>rfl⟩
theorem Iv.row_len (v:Iv) (s:CV):(v.row s).length=5:=by cases v <;> rfl
theorem oneD_good {B B':List Nat} {v:Iv} (hB:∀ c∈B,c<256) (h:oneD B=some (v,B')):v.Good∧∀ c∈B',c<256:=by
 rcases B with _|⟨d,_|⟨n,B⟩⟩
 ·cases h
 ·cases h
 have hb:∀ c∈B,c<256:=fun c hc=>hB c (by simp [hc])
 simp only [oneD] at h
 split at h
 ·split at h
  ·injection h with h
   injection h with h1 h2
   subst h1;subst h2
   have e1:=beN_lt (B.take 5) (fun c hc=>hb c (List.mem_of_mem_take hc))
   have e2:=beN_lt ((B.drop 5).take 1) (fun c hc=>hb c (List.mem_of_mem_drop (List.mem_of_mem_take hc)))
   rw [List.length_take,Nat.min_eq_left (by omega)] at e1
   rw [List.length_take,List.length_drop,Nat.min_eq_left (by omega)] at e2
   exact ⟨⟨by omega,by omega⟩,fun c hc=>hb c (List.mem_of_mem_drop hc)⟩
  ·cases h
 ·split at h
  ·split at h
   ·injection h with h
    injection h with h1 h2
    subst h1;subst h2
    exact ⟨sx_le _,fun c hc=>hb c (List.mem_of_mem_drop hc)⟩
   ·cases h
  ·split at h
   ·split at h
    ·injection h with h
     injection h with h1 h2
     subst h1;subst h2
     rename_i hd hn
     exact ⟨⟨hd,by rw [List.length_take];omega,fun c hc=>hb c (List.mem_of_mem_take hc)⟩,fun c hc=>hb c (List.mem_of_mem_drop hc)⟩
    ·cases h
   ·cases h
theorem iesD_good:∀ (n:Nat) {B B':List Nat} {l:List Iv},(∀ c∈B,c<256)→iesD n B=some (l,B')→(∀ v∈l,v.Good)∧l.length=n
 | 0,B,B',l,hB,h=>by
  simp only [iesD] at h
  injection h with h
  injection h with h1 h2
  subst h1
  simp
 | n+1,B,B',l,hB,h=>by
  simp only [iesD] at h
  cases h1:oneD B with
  | none=>rw [h1] at h;cases h
  | some x=>
   obtain ⟨v,B1⟩:=x
   rw [h1,Option.bind_some] at h
   cases h2:iesD n B1 with
   | none=>simp only [h2,Option.map_none] at h;cases h
   | some y=>
    obtain ⟨l1,B2⟩:=y
    simp only [h2,Option.map_some] at h
    injection h with h
    injection h with h3 h4
    subst h3
    obtain ⟨g1,g2⟩:=oneD_good hB h1
    obtain ⟨g3,g4⟩:=iesD_good n g2 h2
    refine ⟨fun w hw=>?_,by simp [g4]⟩
    rcases List.mem_cons.mp hw with rfl|hw
    ·exact g1
    ·exact g3 w hw
theorem decI_good {B:List Nat} {l:List Iv} (hB:∀ c∈B,c<256) (h:decI B=some l):(∀ v∈l,v.Good)∧l.length≤4:=by
 rcases B with _|⟨n,B⟩
 ·cases h
 simp only [decI] at h
 split at h
 ·cases h1:iesD n B with
  | none=>rw [h1] at h;cases h
  | some x=>
   obtain ⟨l1,B1⟩:=x
   rw [h1,Option.bind_some] at h
   split at h
   ·injection h with h
    subst h
    obtain ⟨g1,g2⟩:=iesD_good n (fun c hc=>hB c (by simp [hc])) h1
    exact ⟨g1,by simp only;omega⟩
   ·cases h
 ·cases h
theorem eN_map (l:List Nat):l.map eN=(l.map fun n:Nat=>(n:Int)).map encI:=by simp [eN,encI]
section
variable {k:Nat} {h:Hp} {P:AV→Hp→Prop} {r:Nat}
theorem clonei_ok {v:CV} {L:List Int} (hs:SL h 1 v (L.map encI)) (h0:L≠[]) (hn:L.length≤1000000)
 (hP:∀ h' u,Ow h' 1 u (L.map encI)→(∀ j,ownId u j→h.n≤j)→Fn h h'→P (.c u) h'):callW N (k+1) 203 [.c v] h P:=by
 cases v <;> simp only [SL] at hs
 case nils=>exact absurd (List.map_eq_nil_iff.mp hs) h0
 case sl id tok off len cap=>
  have hs:SL h 1 (.sl id tok off len cap) (L.map encI):=hs
  obtain ⟨h2,hh2⟩:∃ h2,h2=h.push (.rows true 1 0 0 []):=⟨_,rfl⟩
  have hf2:=pf hh2
  have hn2:h2.n=h.n+1:=by rw [hh2,n_push]
  have hg2:h2.g h.n=some (.rows true 1 0 0 []):=by rw [hh2,g_push_eq]
  have hfold:=hh2.symm
  have hrd:sliceRows h2 [] 1 (.v (.c (.sl id tok off len cap)))=some (L.map encI):=(hs.new hf2).read
  have hl:(L.map encI).length=L.length:=List.length_map ..
  cases L with
  | nil=>exact absurd rfl h0
  | cons y ys=>
   have happ:appT h2 [] 1 8 (.v (.c (.sl h.n 0 0 0 (some 0)))) (.v (.c (.sl id tok off len cap)))=some (.sl h2.n 0 0 ((y::ys).map encI).length none,h2.push (.rows true 1 0 0 ((y::ys).map encI))):=by
    simp only [appT,asC_c,Option.bind_some,hrd]
    simp only [List.map_cons,appRows,g_def,hg2]
    rw [if_pos ⟨trivial,Nat.le_refl _,by simp only [room,List.length_cons,List.length_map] at hn ⊢;omega⟩]
    rw [if_neg (by simp only [List.length_cons];omega)]
    simp only [List.drop_nil,List.take_nil,List.nil_append,Nat.zero_add]
    rfl
   refine ci rfl ?_
   simp only [KK,↓reduceIte,reduceLT,reduceCtorEq,chunks,hfold,happ]
   refine hP _ _ ⟨rfl,rfl,0,_,g_push_eq _ _,Nat.le_refl _,Nat.le_refl _,(List.take_of_length_le (Nat.le_refl _)).symm⟩ ?_ (hf2.trans (Fm.push _ _ _))
   intro j hj
   simp only [ownId] at hj
   omega
theorem clonen_ok (hP:P (.c .nils) h):callW N (k+1) 203 [.c .nils] h P:=by
 refine ci rfl ?_
 simp only [KK,↓reduceIte,reduceLT,reduceCtorEq,hP]
theorem clonev_ok {v:Iv} {s:CV} (hs:IeM h v s) (hl:v.list.length≤1000000)
 (hP:∀ h' s',IeM h' v s'→(∀ j,ownId s' j→h.n≤j)→Fn h h'→P (.c s') h'):callW N (k+1) 203 [.c s] h P:=by
 by_cases h0:v.list=[]
 ·have:=hs.2 h0
  subst this
  exact clonen_ok (hP h .nils hs (fun j e=>e.elim) (Fm.refl _ _))
 ·obtain ⟨h1,h2⟩:=hs
  rw [eN_map] at h1
  refine clonei_ok h1 (by simpa using h0) (by simpa using hl) fun h' u o p f=>hP h' u ⟨by rw [eN_map];exact o.sl,fun e=>absurd e h0⟩ p f
theorem maycorr_ok {t:Int} (ht : -32768≤t∧t≤32767) (hP:P (.c (.bool true)) h):callW N (k+1) 332 [.agg [.int .i64 t]] h P:=by
 refine ci rfl ?_
 simp only [KK,↓reduceIte,reduceLT,reduceEqDiff,ht.1,ht.2,hP]
theorem iemayC {t:Int} (ht : -32768≤t∧t≤32767) (hP:∀ h',Fn h h'→P (.c (.bool true)) h'):callW N (k+5) 330 [.agg [.int .i64 2,.int .i64 0,.int .i64 0,.int .i64 t,.nils]] h P:=by
 refine ci rfl ?_
 have z1:¬(218=220):=by decide
 have z2:¬(220=222):=by decide
 have z3:¬(220=218):=by decide
 have z4:¬(222=220):=by decide
 simp only [KK,↓reduceIte,reduceLT,reduceAdd]
 refine of_ok (k:=k+3) ?_
 have eo:∀ a q t v,ofE 2 a q t v = .iface 220 true [.int .i64 t]:=fun _ _ _ _=>rfl
 simp only [KK,↓reduceIte,reduceLT,reduceEqDiff,eo,z3]
 refine maycorr_ok (k:=k+3) ht ?_
 simp only [KK,↓reduceIte,reduceLT,reduceEqDiff,reduceAdd]
 refine plainC (k:=k+3) fun h1 f1=>?_
 simp only [KK,↓reduceIte,reduceLT,reduceEqDiff,reduceAdd]
 refine iesame_ok (k:=k+2) (L:=[]) rfl (by simp) ?_
 simp only [KK,↓reduceIte,reduceLT,reduceEqDiff]
 exact hP _ f1
theorem iemayL {d:Nat} {v:CV} {L:List Int} (hd:d=3∨d=4) (hv:SL h 1 v (L.map encI)) (hL:∀ x∈L,0≤x∧x≤255) (hl:L.length≤16) (hP:∀ h',Fn h h'→P (.c (.bool true)) h'):callW N (k+5) 330 [.agg [.int .i64 (d:Int),.int .i64 0,.int .i64 0,.int .i64 0,v]] h P:=by
 refine ci rfl ?_
 have z1:¬(218=222):=by decide
 have z2:¬(220=222):=by decide
 have z3:¬(222=218):=by decide
 have z4:¬(222=220):=by decide
 simp only [KK,↓reduceIte,reduceLT,reduceAdd]
 refine of_ok (k:=k+3) ?_
 have eo:∀ a q t v,ofE (d:Int) a q t v = .iface 222 true [v]:=fun _ _ _ _=>by rcases hd with rfl|rfl <;> rfl
 simp only [KK,↓reduceIte,reduceLT,reduceEqDiff,eo,z3,z4]
 refine maylists_ok (k:=k) hv hL hl ?_
 simp only [KK,↓reduceIte,reduceLT,reduceEqDiff,reduceAdd]
 refine plainL (k:=k+3) fun h1 f1=>?_
 simp only [KK,↓reduceIte,reduceLT,reduceEqDiff,reduceAdd]
 refine iesame_ok (k:=k+2) (hv.new f1) (by omega) ?_
 simp only [KK,↓reduceIte,reduceLT,reduceEqDiff]
 exact hP _ f1
theorem iemay_ok {v:Iv} {s:CV} (hg:v.Good) (hs:IeM h v s) (hP:∀ h',Fn h h'→P (.c (.bool true)) h'):callW N (k+5) 330 [.agg (v.row s)] h P:=by
 cases v with
 | sync a q=>
  have:=hs.2 rfl
  subst this
  exact iemay_sync (k:=k+2) ⟨by omega,by have:=hg.1;omega⟩ ⟨by omega,by have:=hg.2;omega⟩ hP
 | corr t=>
  have:=hs.2 rfl
  subst this
  exact iemayC (k:=k) hg hP
 | lst d l=>
  have h1:=hs.1
  rw [eN_map] at h1
  refine iemayL (k:=k) hg.1 h1 ?_ (by simpa [Iv.list] using hg.2.1) hP
  intro x hx
  simp only [Iv.list,List.mem_map] at hx
  obtain ⟨n,hn,rfl⟩:=hx
  have:=hg.2.2 n hn
  omega
theorem fnot_ok {v:Iv} {s:CV} (hg:v.Good) (hs:IeM h v s) (hP:∀ h',Fn h h'→P (.c (.bool false)) h'):callW N (k+6) 317 [.agg (v.row s)] h P:=by
 have h5:=v.row_len s
 have t5:(v.row s).take 5=v.row s:=List.take_of_length_le (by omega)
 refine ci rfl ?_
 simp only [KK,↓reduceIte,reduceLT,h5,t5]
 refine iemay_ok (k:=k) hg hs fun h1 f1=>?_
 simp only [KK,↓reduceIte,reduceLT]
 exact hP _ f1
theorem anybad_ok {base:Nat} {o:CV} {l:List Iv} (ho:IesAt base h o l) (hg:∀ v∈l,v.Good) (hl:l.length≤1000) (hP:∀ h',Fn h h'→P (.c (.bool false)) h'):callW N (k+8) 316 [.c o,.c (.fn 317 [])] h P:=by
 obtain ⟨vs,k1,k2,k3,k4,k5⟩:=ho
 have z1:¬((0:Int)≤-1):=by decide
 have k2':SL h 5 o (vs.attach.map fun x=>x.1.1.row x.1.2):=by
  have e:(vs.attach.map fun x=>x.1.1.row x.1.2)=vs.map fun x=>x.1.row x.2:=List.attach_map_val (f:=fun x:Iv × CV=>x.1.row x.2)
  rw [e];exact k2
 refine ci rfl ?_
 simp only [KK,↓reduceIte,reduceLT,reduceEqDiff,reduceAdd,reduceCtorEq]
 refine indexF_ok (k:=k+6) (f:=329) (sz:=5) (α:={x // x∈vs}) (enc:=fun x=>x.1.1.row x.1.2) (L:=vs.attach) (p:=fun _=>false) rfl (fun x=>Iv.row_len _ _) ?_ k2'.sv ?_ (fun h1 f1 _=>?_) (fun h1 i x _ _ hp _=>by cases hp)
 ·intro x h1 Q f1 hQ
  refine fnot_ok (k:=k) (hg x.1.1 ?_) ⟨(k3 x.1 x.2).1.new f1,(k3 x.1 x.2).2⟩ fun h2 f2=>hQ h2 f2
  rw [←k1]
  exact List.mem_map_of_mem x.2
 ·have:vs.length=l.length:=by rw [←k1,List.length_map]
  rw [List.length_attach]
  omega
 ·simp only [KK,↓reduceIte,reduceLT,z1]
  exact hP _ f1
def FdI (h1:Hp) (b:Nat) (d:Nat) (o:CV) (vs:List (Iv × CV)) (n:Nat) (s:St):Prop:=∃ (i:Nat) (l:List (Nat × TV)) (lc:List (List CV)),s=ST 25 l lc h1∧i≤vs.length∧n=vs.length-i∧(∀ x∈vs.take i,¬x.1.kind=d)∧
 lk l 1 = .v (.c (.int .i64 (d:Int)))∧lk l 4 = .v (.c (.ptr b 0 0 0))∧lk l 8 = .v (.c o)∧lk l 9 = .v (.c (.int .i64 vs.length))∧lk l 10 = .v (.c (.int .i64 i))
def findI (d:Nat) (l:List Iv):Option Iv:=l.find? fun v=>v.kind == d
theorem findi_ok {base d:Nat} {o:CV} {l:List Iv} (ho:IesAt base h o l) (hg:∀ v∈l,v.Good) (hl:l.length≤1000)
 (h1:∀ h' v s,findI d l=some v→IeM h' v s→Fn h h'→P (.tup [.agg (v.row s),.c (.bool true)]) h')
 (h0:∀ h',findI d l=none→Fn h h'→P (.tup [.agg z5,.c (.bool false)]) h'):callW N (k+2) 336 [.c o,.c (.int .i64 (d:Int))] h P:=by
 obtain ⟨vs,k1,k2,k3,k4,k5⟩:=ho
 have hvl:vs.length=l.length:=by rw [←k1,List.length_map]
 refine ci rfl ?_
 rw [a_fin]
 unfold n336b
 obtain ⟨g1,hh1⟩:=nm (h.push (.rows true 5 0 0 [[.int .i64 0,.int .i64 0,.int .i64 0,.int .i64 0,.nils]]))
 have u1:g1.g h.n=some (.rows true 5 0 0 [[.int .i64 0,.int .i64 0,.int .i64 0,.int .i64 0,.nils]]):=by rw [hh1,g_push_eq]
 have f1:=pf hh1
 have hlen:=k2.lm
 have k21:=k2.new f1
 simp only [KK,↓reduceIte,reduceLT,reduceEqDiff,reduceAdd,reduceCtorEq,hh1.symm,hlen]
 refine loop_rd (callW_mono N _) (FdI g1 h.n d o vs) (n:=vs.length) ⟨0,_,_,rfl,by omega,by omega,by simp,rfl,rfl,rfl,rfl,rfl⟩ ?_
 rintro n s ⟨i,lv,lc,rfl,hi,hn,hno,e1,e4,e8,e9,e10⟩
 by_cases hlt:(i:Int)<vs.length
 ·obtain ⟨x,hx⟩:∃ x,vs[i]? = some x:=⟨_,List.getElem?_eq_getElem (by omega)⟩
  obtain ⟨v,s⟩:=x
  have hxm:=List.mem_of_getElem? hx
  obtain ⟨ra,rb,rc,hrow⟩:=v.row_eq
  obtain ⟨pid,ptok,pj,a1,a2⟩:=k21.at (i:=(i:Int)) (r:=v.row s) (by omega) (by simp [hx])
  rw [hrow] at a2
  have w4:=wi1 i (by omega)
  have hvg:=hg v (by rw [←k1];exact List.mem_map_of_mem hxm)
  by_cases hk:v.kind=d
  ·have hk1:((v.kind:Int)=(d:Int)):=by omega
   simp only [KK,↓reduceIte,reduceLT,reduceEqDiff,reduceAdd,e1,e4,e8,e9,e10,hlt,a1,a2,hk1]
   have hvl:v.list.length≤1000000:=by
    cases v with
    | lst d l=>have:=hvg.2.1;show l.length≤_;omega
    | _=>simp [Iv.list]
   refine clonev_ok (k:=k) (v:=v) ⟨(k3 _ hxm).1.new f1,(k3 _ hxm).2⟩ hvl fun g2 s' m2 p2 f2=>?_
   have u2:=f2.some u1 (fun e=>e)
   simp only [KK,↓reduceIte,reduceLT,reduceEqDiff,reduceAdd,u2,fz_r]
   have hn1:g1.n=h.n+1:=by rw [hh1,n_push]
   have fp:∀ row,Fm (fun j=>j=h.n) g2 (g2.put h.n (.rows true 5 0 0 [row])):=fun row=>Fm.put (S:=fun j=>j=h.n) _ _ rfl
   have:=h1 (g2.put h.n (.rows true 5 0 0 [v.row s'])) v s' ?_ ⟨m2.1.off (fp _) (fun j hj e=>by have:=p2 j hj;omega),m2.2⟩ ((f1.trans f2).fresh (fp _) (fun j e=>by omega))
   ·rw [hrow,hk1] at this
    exact this
   ·unfold findI
    rw [←k1]
    have hsp:vs=vs.take i++(v,s)::vs.drop (i+1):=by
     have:=List.getElem_of_getElem? hx
     obtain ⟨hlt2,hge⟩:=List.getElem?_eq_some_iff.mp hx
     rw [←hge,←List.drop_eq_getElem_cons hlt2,List.take_append_drop]
    rw [hsp,List.map_append,List.find?_append]
    have:(vs.take i |>.map (·.1)).find? (fun v=>v.kind == d)=none:=by
     rw [List.find?_eq_none]
     intro w hw
     obtain ⟨y,hy,rfl⟩:=List.mem_map.mp hw
     simpa using hno y hy
    rw [this]
    simp [hk]
  ·have hk1:¬((v.kind:Int)=(d:Int)):=by omega
   simp only [KK,↓reduceIte,reduceLT,reduceEqDiff,reduceAdd,e1,e4,e8,e9,e10,hlt,a1,a2,hk1,w4,rd_n]
   refine ⟨n-1,by omega,i+1,_,_,rfl,by omega,by omega,?_,rfl,rfl,rfl,rfl,rfl⟩
   rw [take_snoc hx]
   intro y hy
   rcases List.mem_append.mp hy with hy|hy
   ·exact hno y hy
   ·simp at hy;subst hy;exact hk
 ·simp only [KK,↓reduceIte,reduceLT,reduceEqDiff,reduceAdd,e1,e4,e8,e9,e10,hlt,u1,fz_r]
  refine h0 _ ?_ (f1.fresh (Fm.put (S:=fun j=>j=h.n) _ _ rfl) (fun j e=>by omega))
  unfold findI
  rw [List.find?_eq_none,←k1]
  intro w hw
  obtain ⟨y,hy,rfl⟩:=List.mem_map.mp hw
  rw [List.take_of_length_le (by omega)] at hno
  simpa using hno y hy
end
end
section
set_option maxHeartbeats 4000000
structure Fv where
 kind:Nat
 src:Nat
 dst:Nat
 seq:Nat
 ies:List Iv
 data:List Nat
def Fv.row (F:Fv) (o d:CV):List CV:=[.int .i64 (F.kind:Int),.int .i64 (F.src:Int),.int .i64 (F.dst:Int),.int .i64 (F.seq:Int),o,d]
def goodF (L:List Nat):Bool:=decide (apx (L.take (L.length-2))=L)
def saysF (d t:Nat) (l:List Iv) (D:List Nat):Bool:=
 if d=2∨d=4 then decide (t≠64) && decide (D.length=0)
 else if d=3 then decide (t=64) && decide (D.length=0) && (findI 1 l).isSome
 else if d=1∨d=5 then decide (t≠64) && decide (0<D.length)
 else false
def mayF (d s t:Nat) (l:List Iv) (D:List Nat):Bool:=
 if 16≤s∨(16≤t∧t≠64)∨t=s∨64<D.length then false else saysF d t l D
def decF (L:List Nat):Option Fv:=
 if L.length<9∨goodF L=false then none else
 match L.take (L.length-2) with
 | b::d::s::t::q::n::B=>
  if b=197∧endN (textN (takeN 1 (textN n (some B)).2).1 (takeN 1 (textN n (some B)).2).2).2=0 then
   (decI (textN n (some B)).1).bind fun l=>if mayF d s t l (textN (takeN 1 (textN n (some B)).2).1 (takeN 1 (textN n (some B)).2).2).1 then
    some ⟨d,s,t,q,l,(textN (takeN 1 (textN n (some B)).2).1 (takeN 1 (textN n (some B)).2).2).1⟩ else none
  else none
 | _=>none
def z6:List CV:=[.int .i64 0,.int .i64 0,.int .i64 0,.int .i64 0,.nils,.nils]
section
variable {k:Nat} {h:Hp} {P:AV→Hp→Prop} {r:Nat}
theorem crcgood_ok {v:CV} {L:List Nat} (hv:SL h 1 v (L.map eB)) (hc:CapL v) (hL:∀ c∈L,c<256) (h9:9≤L.length) (hl:L.length≤100000)
 (hP:∀ h',Fn h h'→P (.c (.bool (goodF L))) h'):callW N (k+3) 394 [.c v] h P:=by
 have hlen:=hv.lm
 have w1:IntKind.wrap .i64 ((L.length:Int)-2)=((L.length-2:Nat):Int):=by rw [wrap_i64 (by omega)];omega
 have c1:(0:Int)≤((L.length-2:Nat):Int):=by omega
 obtain ⟨v1,s1,s2,s3,s4⟩:=hv.firstB hc (by decide) (m:=((L.length-2:Nat):Int)) (by rw [List.length_map];omega)
 rw [Int.toNat_natCast,←List.map_take] at s2
 refine ci rfl ?_
 simp only [KK,↓reduceIte,reduceLT,reduceEqDiff,reduceCtorEq,hlen,w1,c1,s1]
 refine append_ok (k:=k) s2 ?_ (fun c hc=>hL c (List.mem_of_mem_take hc)) (by rw [List.length_take];omega) fun h2 u ku cu f2=>?_
 ·intro e
  have:(L.take (L.length-2)).length=0:=by rw [e];rfl
  rw [List.length_take] at this
  omega
 simp only [KK,↓reduceIte,reduceLT,reduceEqDiff,reduceCtorEq]
 refine eqL_ok (k:=k+1) (f:=386) (kd:=.u8) (g:=fun n:Nat=>(n:Int)) rfl (fun _ _ e=>by omega) ku (hv.new f2) (by simp only [apx,List.length_append,List.length_take,List.length_cons,List.length_nil];omega) (by omega) fun b hb=>?_
 have:b=goodF L:=by
  unfold goodF
  rw [Bool.eq_iff_iff,hb]
  simp
 subst this
 simp only [KK,↓reduceIte,reduceLT,reduceEqDiff]
 exact hP _ f2
theorem fnode_ok {n:Nat} (hP:P (.c (.bool (decide (n<16)))) h):callW N (k+1) 315 [.c (.int .i64 (n:Int))] h P:=by
 have c0:(0:Int)≤(n:Int):=by omega
 have c1:decide ((n:Int)<16)=decide (n<16):=by rw [Bool.eq_iff_iff];simp;omega
 refine ci rfl ?_
 simp only [KK,↓reduceIte,reduceLT,reduceEqDiff,reduceCtorEq,c0,c1]
 exact hP
theorem findb_ok {base d:Nat} {o:CV} {l:List Iv} (ho:IesAt base h o l) (hg:∀ v∈l,v.Good) (hl:l.length≤1000)
 (hP:∀ h' (a b c e:Int) s,Fn h h'→P (.tup [.agg [.int .i64 a,.int .i64 b,.int .i64 c,.int .i64 e,s],.c (.bool (findI d l).isSome)]) h'):callW N (k+2) 336 [.c o,.c (.int .i64 (d:Int))] h P:=by
 refine findi_ok (k:=k) ho hg hl (fun h' v s hf _ f=>?_) (fun h' hf f=>?_)
 ·obtain ⟨ra,rb,rc,hrow⟩:=v.row_eq
  rw [hrow]
  have:=hP h' v.kind ra rb rc s f
  rw [hf] at this
  exact this
 ·have:=hP h' 0 0 0 0 .nils f
  rw [hf] at this
  exact this
theorem fsays_ok {base d s t q:Nat} {o dat:CV} {l:List Iv} {D:List Nat} (ho:IesAt base h o l) (hg:∀ v∈l,v.Good) (hl:l.length≤4) (hD:SL h 1 dat (D.map eB))
 (hP:∀ h',Fn h h'→P (.c (.bool (saysF d t l D))) h'):callW N (k+3) 318 [.agg [.int .i64 (d:Int),.int .i64 (s:Int),.int .i64 (t:Int),.int .i64 (q:Int),o,dat]] h P:=by
 have hlen:=hD.lm
 have n1:¬(4:Int)=2:=by decide
 have n2:¬(3:Int)=2:=by decide
 have n3:¬(3:Int)=4:=by decide
 have n4:¬(1:Int)=2:=by decide
 have n5:¬(1:Int)=4:=by decide
 have n6:¬(1:Int)=3:=by decide
 have n7:¬(5:Int)=2:=by decide
 have n8:¬(5:Int)=4:=by decide
 have n9:¬(5:Int)=3:=by decide
 have n0:¬(5:Int)=1:=by decide
 refine ci rfl ?_
 simp only [KK,↓reduceIte,reduceLT,reduceAdd]
 refine findb_ok (k:=k) (d:=1) ho hg (by omega) fun h2 x0 x1 x2 x3 sx f2=>?_
 have hq:=hP _ f2
 clear hP
 generalize hbb:(findI 1 l).isSome=b at *
 have ct:(t=64∧(t:Int)=64)∨(¬t=64∧¬(t:Int)=64):=by omega
 have cD:(D.length=0∧¬(0:Int)<D.length∧(D.length:Int)=0)∨(¬D.length=0∧(0:Int)<D.length∧¬(D.length:Int)=0):=by omega
 rcases ct with ⟨ht,tt⟩|⟨ht,tt⟩ <;> rcases cD with ⟨hD0,hD1,hD2⟩|⟨hD0,hD1,hD2⟩
 all_goals
  have q2:((2:Nat):Int)=2:=rfl
  have q4:((4:Nat):Int)=4:=rfl
  have q3:((3:Nat):Int)=3:=rfl
  have q1:((1:Nat):Int)=1:=rfl
  have q5:((5:Nat):Int)=5:=rfl
  rcases (by omega:d=2∨d=4∨d=3∨d=1∨d=5∨(d≠2∧d≠4∧d≠3∧d≠1∧d≠5)) with rfl|rfl|rfl|rfl|rfl|⟨d2,d4,d3,d1,d5⟩
  ·simp [saysF,ht,hD0] at hq
   simp only [KK,↓reduceIte,reduceLT,reduceEqDiff,reduceAdd,reduceLeDiff,q2,tt,hD2,hlen]
   exact hq
  ·simp [saysF,ht,hD0] at hq
   simp only [KK,↓reduceIte,reduceLT,reduceEqDiff,reduceAdd,reduceLeDiff,q4,tt,hD2,hlen,n1]
   exact hq
  ·cases b
   ·simp [saysF,ht,hD0,hbb] at hq
    simp only [KK,↓reduceIte,reduceLT,reduceEqDiff,reduceAdd,reduceLeDiff,q3,tt,hD2,hlen,n2,n3]
    exact hq
   ·simp [saysF,ht,hD0,hbb] at hq
    simp only [KK,↓reduceIte,reduceLT,reduceEqDiff,reduceAdd,reduceLeDiff,q3,tt,hD2,hlen,n2,n3]
    exact hq
  ·simp [saysF,ht,hD0,Nat.pos_iff_ne_zero] at hq
   simp only [KK,↓reduceIte,reduceLT,reduceEqDiff,reduceAdd,reduceLeDiff,q1,tt,hD1,hD2,hlen,n4,n5,n6]
   exact hq
  ·simp [saysF,ht,hD0,Nat.pos_iff_ne_zero] at hq
   simp only [KK,↓reduceIte,reduceLT,reduceEqDiff,reduceAdd,reduceLeDiff,q5,tt,hD1,hD2,hlen,n7,n8,n9,n0]
   exact hq
  ·have e2:¬(d:Int)=2:=by omega
   have e4:¬(d:Int)=4:=by omega
   have e3:¬(d:Int)=3:=by omega
   have e1:¬(d:Int)=1:=by omega
   have e5:¬(d:Int)=5:=by omega
   simp [saysF,d2,d4,d3,d1,d5] at hq
   simp only [KK,↓reduceIte,reduceLT,reduceEqDiff,reduceAdd,reduceLeDiff,e2,e4,e3,e1,e5]
   exact hq
theorem fmayD_ok {base d s t q:Nat} {o dat:CV} {l:List Iv} {D:List Nat} (hq:q<256) (ho:IesAt base h o l) (hg:∀ v∈l,v.Good) (hl:l.length≤4) (hD:SL h 1 dat (D.map eB))
 (hP:∀ h',Fn h h'→P (.c (.bool (mayF d s t l D))) h'):callW N (k+9) 298 [.agg [.int .i64 (d:Int),.int .i64 (s:Int),.int .i64 (t:Int),.int .i64 (q:Int),o,dat]] h P:=by
 have hlen:=hD.lm
 have hlo:∀ h':Hp,lenT h' .sl (.v (.c o))=some (l.length:Int):=fun h'=>by
  obtain ⟨vs,k1,k2,_⟩:=ho
  rw [k2.len h',←k1,List.length_map,List.length_map]
 have c1:¬(q:Int)<0:=by omega
 have c2:¬255<(q:Int):=by omega
 have c3:¬((4:Int)<(l.length:Int)):=by omega
 refine ci rfl ?_
 simp only [KK,↓reduceIte,reduceLT,reduceAdd]
 refine fnode_ok (k:=k+7) ?_
 by_cases hs:16≤s
 ·have e1:decide (s<16)=false:=by simp;omega
  have em:mayF d s t l D=false:=by unfold mayF;rw [if_pos (.inl hs)]
  simp only [KK,↓reduceIte,reduceLT,reduceEqDiff,e1]
  rw [em] at hP
  exact hP _ (Fm.refl _ _)
 have e1:decide (s<16)=true:=by simp;omega
 simp only [KK,↓reduceIte,reduceLT,reduceEqDiff,e1]
 refine fnode_ok (k:=k+7) ?_
 by_cases ht:16≤t∧t≠64
 ·have e2:decide (t<16)=false:=by simp;omega
  have e3:¬(t:Int)=64:=by omega
  have em:mayF d s t l D=false:=by unfold mayF;rw [if_pos (.inr (.inl ht))]
  simp only [KK,↓reduceIte,reduceLT,reduceEqDiff,e2,e3]
  rw [em] at hP
  exact hP _ (Fm.refl _ _)
 by_cases hts:t=s
 ·have e2:decide (t<16)=true:=by simp;omega
  have e3:(t:Int)=(s:Int):=by omega
  have em:mayF d s t l D=false:=by unfold mayF;rw [if_pos (.inr (.inr (.inl hts)))]
  simp only [KK,↓reduceIte,reduceLT,reduceEqDiff,e2,e3]
  rw [em] at hP
  exact hP _ (Fm.refl _ _)
 have e3:¬(t:Int)=(s:Int):=by omega
 have fin:callW N (k+8) 316 [.c o,.c (.fn 317 [])] h (fun a h'=>a = .c (.bool false)∧Fn h h'):=anybad_ok (k:=k) ho hg (by omega) fun h' f=>⟨rfl,f⟩
 have ht2:(t<16)∨(¬t<16∧t=64):=by omega
 rcases ht2 with h16|⟨h16,h64⟩
 case' inl=>have e2:decide (t<16)=true:=by simp;omega
            simp only [KK,↓reduceIte,reduceLT,reduceEqDiff,e2,e3,c1,c2,hlo,c3]
 case' inr=>have e2:decide (t<16)=false:=by simp;omega
            have e4:decide ((t:Int)=64)=true:=by simp;omega
            simp only [KK,↓reduceIte,reduceLT,reduceEqDiff,e2,e4,e3,c1,c2,hlo,c3]
 all_goals
  refine anybad_ok (k:=k) ho hg (by omega) fun h2 f2=>?_
  by_cases hD6:64<D.length
  ·have c6:(64:Int)<(D.length:Int):=by omega
   have em:mayF d s t l D=false:=by unfold mayF;rw [if_pos (.inr (.inr (.inr hD6)))]
   simp only [KK,↓reduceIte,reduceLT,reduceEqDiff,hlen,c6]
   rw [em] at hP
   exact hP _ f2
  ·have c6:¬(64:Int)<(D.length:Int):=by omega
   have em:mayF d s t l D=saysF d t l D:=by unfold mayF;rw [if_neg (by omega)]
   simp only [KK,↓reduceIte,reduceLT,reduceEqDiff,reduceAdd,hlen,c6]
   refine fsays_ok (k:=k+5) (ho.new f2) hg hl (hD.new f2) fun h3 f3=>?_
   simp only [KK,↓reduceIte,reduceLT]
   rw [em] at hP
   exact hP _ (f2.trans f3)
theorem nextc_ok {c:Nat} {B:List Nat} (hr:Rdb h r (some (c::B))) (hP:∀ h',Rdb h' r (some B)→Fm (fun i=>i=r) h h'→P (.c (.int .i64 (c:Int))) h'):callW N (k+4) 396 [.c (.ptr r 0 0 0)] h P:=by
 have e1:takeN 1 (some (c::B))=(c,some B):=by simp [takeN,beN]
 refine next_ok (k:=k) hr fun h2 r2 f2=>?_
 rw [e1] at r2 ⊢
 exact hP _ r2 f2
end
end
section
set_option maxHeartbeats 8000000
theorem decF_none {L:List Nat} (h:L.length<9∨goodF L=false):decF L=none:=by unfold decF;rw [if_pos h]
theorem decF_some {L:List Nat} {b d s t q n:Nat} {B:List Nat} (h:¬(L.length<9∨goodF L=false)) (hT:L.take (L.length-2)=b::d::s::t::q::n::B) :
 decF L=if b=197∧endN (textN (takeN 1 (textN n (some B)).2).1 (takeN 1 (textN n (some B)).2).2).2=0 then
  (decI (textN n (some B)).1).bind fun l=>if mayF d s t l (textN (takeN 1 (textN n (some B)).2).1 (takeN 1 (textN n (some B)).2).2).1 then
   some ⟨d,s,t,q,l,(textN (takeN 1 (textN n (some B)).2).1 (takeN 1 (textN n (some B)).2).2).1⟩ else none
 else none:=by
 unfold decF
 rw [if_neg h,hT]
section
variable {k:Nat} {h:Hp} {P:AV→Hp→Prop} {r:Nat}
theorem decode_ok {v:CV} {L:List Nat} (hv:SL h 1 v (L.map eB)) (hc:CapL v) (hL:∀ c∈L,c<256) (hl:L.length≤100000)
 (h1:∀ F h' o dat,decF L=some F→IesAt h.n h' o F.ies→SL h' 1 dat (F.data.map eB)→(∀ j,ownId dat j→h.n≤j)→Fn h h'→P (.tup [.agg (F.row o dat),.c (.int .i64 0)]) h')
 (h2:∀ h' (e:Int),decF L=none→e≠0→Fn h h'→P (.tup [.agg z6,.c (.int .i64 e)]) h'):callW N (k+10) 375 [.c v] h P:=by
 have hlen:=hv.lm
 refine ci rfl ?_
 rw [a_fin]
 unfold n375b
 obtain ⟨g0,hh0⟩:=nm (h.push (.rows true 6 0 0 [[.int .i64 0,.int .i64 0,.int .i64 0,.int .i64 0,.nils,.nils]]))
 have u0:g0.g h.n=some (.rows true 6 0 0 [[.int .i64 0,.int .i64 0,.int .i64 0,.int .i64 0,.nils,.nils]]):=by rw [hh0,g_push_eq]
 have f0:=pf hh0
 have n0:g0.n=h.n+1:=by rw [hh0,n_push]
 have fp:∀ (g:Hp) row,Fm (fun j=>j=h.n) g (g.put h.n (.rows true 6 0 0 [row])):=fun g row=>Fm.put (S:=fun j=>j=h.n) _ _ rfl
 have out:∀ g (e:Int),decF L=none→e≠0→Fn g0 g→P (.tup [.agg [.int .i64 0,.int .i64 0,.int .i64 0,.int .i64 0,.nils,.nils],.c (.int .i64 e)]) (g.put h.n (.rows true 6 0 0 [[.int .i64 0,.int .i64 0,.int .i64 0,.int .i64 0,.nils,.nils]])):=by
  intro g e ho he f
  exact h2 _ e ho he ((f0.trans f).fresh (fp _ _) (fun j e=>by omega))
 by_cases h9:L.length<9
 ·have c9:(L.length:Int)<9:=by omega
  simp only [KK,↓reduceIte,reduceLT,reduceEqDiff,reduceAdd,reduceCtorEq,hh0.symm,hlen,c9,u0,fz_r]
  exact out g0 2 (decF_none (.inl h9)) (by decide) (Fm.refl _ _)
 have c9:¬(L.length:Int)<9:=by omega
 simp only [KK,↓reduceIte,reduceLT,reduceEqDiff,reduceAdd,reduceCtorEq,hh0.symm,hlen,c9]
 refine crcgood_ok (k:=k+6) (hv.new f0) hc hL (by omega) hl fun g1 f1=>?_
 have u1:=f1.some u0 (fun e=>e)
 by_cases hgd:goodF L=true
 case neg=>
  have hgd:goodF L=false:=by simpa using hgd
  simp only [KK,↓reduceIte,reduceLT,reduceEqDiff,reduceAdd,reduceCtorEq,hgd,u1,fz_r]
  exact out g1 4 (decF_none (.inr hgd)) (by decide) f1
 have hcond:¬(L.length<9∨goodF L=false):=by rw [hgd];simp;omega
 have w2:IntKind.wrap .i64 ((L.length:Int)-2)=((L.length-2:Nat):Int):=by rw [wrap_i64 (by omega)];omega
 obtain ⟨v1,s1,s2,s3,s4⟩:=((hv.new f0).new f1).firstB hc (by decide) (m:=((L.length-2:Nat):Int)) (by rw [List.length_map];omega)
 rw [Int.toNat_natCast,←List.map_take] at s2
 have hTl:(L.take (L.length-2)).length=L.length-2:=by rw [List.length_take];omega
 have hTb:∀ c∈L.take (L.length-2),c<256:=fun c hc=>hL c (List.mem_of_mem_take hc)
 generalize hT:L.take (L.length-2)=T at *
 simp only [KK,↓reduceIte,reduceLT,reduceEqDiff,reduceCtorEq,hgd,hlen,w2,s1]
 refine newreader_ok (k:=k+8) s2 hTb (by omega) fun g2 r hr r2 f2=>?_
 rcases T with _|⟨b,_|⟨d,_|⟨s,_|⟨t,_|⟨q,_|⟨n,B⟩⟩⟩⟩⟩⟩
 iterate 6 (simp only [List.length_cons,List.length_nil] at hTl;omega)
 have hdec:=decF_some hcond hT
 have hq:q<256:=hTb q (by simp)
 have hn:n<256:=hTb n (by simp)
 have hB:∀ c∈B,c<256:=fun c hc=>hTb c (by simp [hc])
 have hBl:B.length≤100000:=by simp only [List.length_cons] at hTl;omega
 simp only [KK,↓reduceIte,reduceLT,reduceEqDiff,reduceCtorEq]
 refine nextc_ok (k:=k+5) r2 fun g3 r3 f3=>?_
 simp only [KK,↓reduceIte,reduceLT,reduceEqDiff]
 refine nextc_ok (k:=k+5) r3 fun g4 r4 f4=>?_
 simp only [KK,↓reduceIte,reduceLT,reduceEqDiff]
 refine nextc_ok (k:=k+5) r4 fun g5 r5 f5=>?_
 simp only [KK,↓reduceIte,reduceLT,reduceEqDiff]
 refine nextc_ok (k:=k+5) r5 fun g6 r6 f6=>?_
 simp only [KK,↓reduceIte,reduceLT,reduceEqDiff]
 refine nextc_ok (k:=k+5) r6 fun g7 r7 f7=>?_
 simp only [KK,↓reduceIte,reduceLT,reduceEqDiff,reduceAdd,reduceLeDiff]
 refine nextc_ok (k:=k+5) r7 fun g8 r8 f8=>?_
 simp only [KK,↓reduceIte,reduceLT,reduceEqDiff]
 refine text_ok (k:=k+5) r8 (by omega) fun g9 ue r9 ke pe ee ce f9=>?_
 simp only [KK,↓reduceIte,reduceLT,reduceEqDiff]
 refine next_ok (k:=k+5) r9 fun g10 r10 f10=>?_
 have hm:=takeN_lt (m:=1) r9
 simp only [KK,↓reduceIte,reduceLT,reduceEqDiff]
 refine text_ok (k:=k+5) r10 (by omega) fun g11 ud r11 kd pd ed cd f11=>?_
 simp only [KK,↓reduceIte,reduceLT,reduceEqDiff,reduceAdd]
 have fr:Fm (fun i=>i=r) g2 g11:=f3.trans (f4.trans (f5.trans (f6.trans (f7.trans (f8.trans (f9.trans (f10.trans f11)))))))
 have F11:Fn g0 g11:=(f1.trans f2).fresh fr (fun j e=>by have:=f1.n;omega)
 have ke11:SL g11 1 ue ((textN n (some B)).1.map eB):=ke.off (f10.trans f11) (fun j hj e=>by have:=pe j hj;have:=r8.lt;omega)
 have hEb:(∀ c∈(textN n (some B)).1,c<256)∧(textN n (some B)).1.length≤n:=⟨fun c hc=>by obtain ⟨B',e,hc⟩:=textN_of.1 c hc;injection e with e;subst e;exact hB c hc,textN_of.2⟩
 have hdl:∀ j,ownId ud j→j<g11.n:=by
  intro j hj
  cases ud <;> simp only [ownId] at hj
  subst hj
  exact kd.lt _ _ _ _ _ rfl
 generalize textN n (some B)=E at *
 obtain ⟨E,S1⟩:=E
 simp only at *
 generalize hM:takeN 1 S1=M at *
 obtain ⟨m,S2⟩:=M
 simp only at *
 generalize textN m S2=D at *
 obtain ⟨D,S3⟩:=D
 simp only at *
 have u11:=F11.some u0 (fun e=>e)
 have nle:h.n≤g10.n:=by have:=F11.n;have:=f1.n;have:=f2.n;have:=f3.n;have:=f4.n;have:=f5.n;have:=f6.n;have:=f7.n;have:=f8.n;have:=f9.n;have:=f10.n;omega
 have nle0:h.n<g10.n:=by have:=f1.n;have:=f2.n;have:=f3.n;have:=f4.n;have:=f5.n;have:=f6.n;have:=f7.n;have:=f8.n;have:=f9.n;have:=f10.n;omega
 by_cases hb:b=197
 case neg=>
  have cb:¬(b:Int)=197:=by omega
  simp only [KK,↓reduceIte,reduceLT,reduceEqDiff,reduceAdd,cb,u11,fz_r]
  exact out g11 3 (by rw [hdec,if_neg (fun e=>hb e.1)]) (by decide) F11
 have cb:(b:Int)=197:=by omega
 have cbb:decide ((b:Int)=197)=true:=by simp [cb]
 simp only [KK,↓reduceIte,reduceLT,reduceEqDiff,cb]
 refine endn_ok (k:=k+7) r11 ?_
 by_cases hend:endN S3=0
 case neg=>
  simp only [KK,↓reduceIte,reduceLT,reduceEqDiff,reduceAdd,hend,u11,fz_r]
  exact out g11 3 (by rw [hdec,if_neg (fun e=>hend e.2)]) (by decide) F11
 have hendb:decide (endN S3=0)=true:=by simp [hend]
 simp only [KK,↓reduceIte,reduceLT,reduceEqDiff,hend]
 rw [if_pos ⟨hb,hend⟩] at hdec
 refine decies_ok (k:=k+2) ke11 hEb.1 (by omega) (fun l g12 o hdl1 ho f12=>?_) (fun g12 o e hdn he f12=>?_)
 case refine_2=>
  have u12:=f12.some u11 (fun e=>e)
  have he2:¬e=0:=he
  simp only [KK,↓reduceIte,reduceLT,reduceEqDiff,reduceAdd,reduceLeDiff,he2,u12,fz_r]
  exact out g12 e (by rw [hdec,hdn];rfl) he (F11.trans f12)
 obtain ⟨hg,hl4⟩:=decI_good hEb.1 hdl1
 rw [hdl1,Option.bind_some] at hdec
 simp only [KK,↓reduceIte,reduceLT,reduceEqDiff,reduceAdd,reduceLeDiff]
 refine fmayD_ok (k:=k) (base:=g11.n) hq ho hg hl4 (kd.new f12) fun g13 f13=>?_
 have u13:=f13.some (f12.some u11 (fun e=>e)) (fun e=>e)
 by_cases hmay:mayF d s t l D=true
 case neg=>
  have hmay:mayF d s t l D=false:=by simpa using hmay
  simp only [KK,↓reduceIte,reduceLT,reduceEqDiff,reduceAdd,hmay,u13,fz_r]
  exact out g13 3 (by rw [hdec,hmay];rfl) (by decide) (F11.trans (f12.trans f13))
 simp only [KK,↓reduceIte,reduceLT,reduceEqDiff,reduceAdd,hmay,u13,fz_r]
 rw [hmay,if_pos rfl] at hdec
 refine h1 _ _ o ud hdec ?_ ?_ (fun j hj=>by have:=pd j hj;omega) ((f0.trans (F11.trans (f12.trans f13))).fresh (fp _ _) (fun j e=>by omega))
 ·exact ((ho.new f13).keep (fp _ _) (fun j hj _ e=>by have:=f11.n;omega)).base (by have:=f11.n;omega)
 ·exact ((kd.new f12).new f13).off (fp _ _) (fun j hj e=>by have:=pd j hj;omega)
end
end
end Camp
