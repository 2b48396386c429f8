/- The reference's reader. The reference's reader: numbers; is the sum right? The reference takes a beacon's elements apart. A beacon that the reference decodes: it may be. The reference decodes a beacon. -/
import Derived.Test.YtcjijkejnolfiaaLawB
set_option linter.unnecessarySimpa false
set_option linter.unusedVariables false
set_option linter.unusedSimpArgs false
set_option linter.unusedSectionVars false
namespace Camp
open Go
section
set_option maxHeartbeats 4000000
theorem SL.rest {h:Hp} {sz:Nat} {v:CV} {rows:List (List CV)} (k:SL h sz v rows) (hc:CapL v) (h0:0<sz) {m:Int} (hm:0≤m∧m≤rows.length) :
 ∃ v',sliceT h sz (.v (.c v)) (some m) none none=some v'∧SL h sz v' (rows.drop m.toNat)∧CapL v'∧∀ b,Bf b v→Bf b v':=by
 cases v <;> simp only [SL] at k
 case nils=>
  subst k
  have:m=0:=by simp at hm;omega
  subst this
  refine ⟨.nils,?_,?_,by rintro _ _ _ _ _ ⟨⟩,fun b h=>h⟩
  ·simp [sliceT,sliceV,h0]
  ·simp [SL]
 case sl id tok off len cap=>
  obtain ⟨wr,cur,lw,rs,h1,h2,h3,rfl⟩:=k
  have hl:((rs.drop off).take len).length=len:=by rw [List.length_take,List.length_drop];omega
  rw [hl] at hm
  refine ⟨.sl id tok (off+m.toNat) (len-m.toNat) (cap.map (· - m.toNat)),?_,?_,?_,?_⟩
  ·simp only [sliceT,sliceV,g_def,h1]
   rw [if_pos ⟨h0,trivial,h2⟩]
   unfold sliceB
   rw [if_pos]
   ·simp
   ·have:len≤cap.getD len:=by
     cases cap with
     | none=>exact Nat.le_refl _
     | some c=>exact hc _ _ _ _ _ rfl
    simp
    omega
  ·refine ⟨wr,cur,lw,rs,h1,h2,by omega,?_⟩
   rw [List.drop_take,List.drop_drop]
  ·rintro _ _ _ _ c he
   injection he with _ _ _ e1 e2
   cases cap with
   | none=>cases e2
   | some q=>
    have:=hc _ _ _ _ _ rfl
    simp at e2
    omega
  ·intro b hb i t o l c he
   injection he with e1
   subst e1
   exact hb _ _ _ _ _ rfl
theorem SL.firstB {h:Hp} {sz:Nat} {v:CV} {rows:List (List CV)} (k:SL h sz v rows) (hc:CapL v) (h0:0<sz) {m:Int} (hm:0≤m∧m≤rows.length) :
 ∃ v',sliceT h sz (.v (.c v)) none (some m) none=some v'∧SL h sz v' (rows.take m.toNat)∧CapL v'∧∀ b,Bf b v→Bf b v':=by
 cases v <;> simp only [SL] at k
 case nils=>
  subst k
  have:m=0:=by simp at hm;omega
  subst this
  refine ⟨.nils,?_,?_,by rintro _ _ _ _ _ ⟨⟩,fun b h=>h⟩
  ·simp [sliceT,sliceV,h0]
  ·simp [SL]
 case sl id tok off len cap=>
  obtain ⟨wr,cur,lw,rs,h1,h2,h3,rfl⟩:=k
  have hl:((rs.drop off).take len).length=len:=by rw [List.length_take,List.length_drop];omega
  rw [hl] at hm
  have hcap:len≤cap.getD len:=by
   cases cap with
   | none=>exact Nat.le_refl _
   | some c=>exact hc _ _ _ _ _ rfl
  refine ⟨.sl id tok off m.toNat cap,?_,?_,?_,?_⟩
  ·simp only [sliceT,sliceV,g_def,h1]
   rw [if_pos ⟨h0,trivial,h2⟩]
   unfold sliceB
   rw [if_pos]
   ·simp
   ·simp
    omega
  ·refine ⟨wr,cur,lw,rs,h1,h2,by omega,?_⟩
   rw [List.take_take,Nat.min_eq_left (by omega)]
  ·rintro _ _ _ _ c he
   injection he with _ _ _ e1 e2
   subst e2
   have:=hc _ _ _ _ _ rfl
   omega
  ·intro b hb i t o l c he
   injection he with e1
   subst e1
   exact hb _ _ _ _ _ rfl
def Rdr (h:Hp) (r:Nat) (B:List Nat):Prop:=∃ u,h.g r=some (.rows true 2 0 0 [[u,.int .i64 0]])∧SL h 1 u (B.map eB)∧CapL u∧Bf r u
theorem Rdr.new {h h':Hp} {r:Nat} {B:List Nat} (k:Rdr h r B) (f:Fn h h'):Rdr h' r B:=by
 obtain ⟨u,g1,g2,g3,g4⟩:=k
 exact ⟨u,f.some g1 (fun e=>e),g2.new f,g3,g4⟩
def nf (s:Nat) (L:List Nat):Nat:=L.foldl (fun s c=>s * 256+c) s
theorem nf_snoc (s:Nat) (L:List Nat) (c:Nat):nf s (L++[c])=nf s L * 256+c:=by simp [nf]
theorem nf_lt':∀ (L:List Nat) (s t:Nat),(∀ c∈L,c<256)→s<256 ^ t→nf s L<256 ^ (t+L.length)
 | [],s,t,_,h=>h
 | c::L,s,t,hL,h=>by
  have hc:=hL c (by simp)
  have h2:s * 256+c<256 ^ (t+1):=by rw [Nat.pow_succ];omega
  have:=nf_lt' L (s * 256+c) (t+1) (fun c hc=>hL c (by simp [hc])) h2
  rw [List.length_cons,show t+(L.length+1)=t+1+L.length by omega]
  exact this
theorem nf_lt {L:List Nat} (h:∀ c∈L,c<256):nf 0 L<256 ^ L.length:=by
 have:=nf_lt' L 0 0 h (by decide)
 rwa [Nat.zero_add] at this
section
variable {k:Nat} {h:Hp} {P:AV→Hp→Prop} {r:Nat} {B:List Nat}
theorem raw_ok {m:Nat} (hr:Rdr h r B) (hm:m≤B.length) (hB:B.length≤1000000)
 (hP:∀ h' u,SL h' 1 u ((B.take m).map eB)→CapL u→Rdr h' r (B.drop m)→Fm (fun j=>j=r) h h'→(m=0→u = .nils)→P (.c u) h'):callW N (k+1) 284 [.c (.ptr r 0 0 0),.c (.int .i64 m)] h P:=by
 obtain ⟨u,g1,g2,g3,g4⟩:=hr
 have hlen:∀ h':Hp,lenT h' .sl (.v (.c u))=some (B.length:Int):=fun h'=>by rw [g2.len h',List.length_map]
 have m1:max (0:Int) (m:Int)=m:=by omega
 have c1:¬(B.length:Int)<(m:Int):=by omega
 obtain ⟨v1,s1,s2,s3,s4⟩:=g2.firstB g3 (by decide) (m:=(m:Int)) (by rw [List.length_map];omega)
 rw [Int.toNat_natCast] at s2
 rw [←List.map_take] at s2
 have z0:((0:Int)=0):=rfl
 have fin:∀ h1 u1,appT h [] 1 1 (.v (.c .nils)) (.v (.c v1))=some (u1,h1)→SL h1 1 u1 ((B.take m).map eB)→CapL u1→Fn h h1→(m=0→u1 = .nils)→callW N (k+1) 284 [.c (.ptr r 0 0 0),.c (.int .i64 m)] h P:=by
  intro h1 u1 a1 a2 a3 f1 a4
  have g1':=f1.some g1 (fun e=>e)
  obtain ⟨v2,t1,t2,t3,t4⟩:=(g2.new f1).rest g3 (by decide) (m:=(m:Int)) (by rw [List.length_map];omega)
  rw [Int.toNat_natCast] at t2
  rw [←List.map_drop] at t2
  refine call_intro rfl (by simp only [List.length_cons,List.length_nil];omega) ?_
  simp (maxSteps:=200000) -implicitDefEqProofs only [KA,KB,KC,KD,KE,KF,eq_self,ne_eq,↓reduceIte,Nat.reduceLT,Nat.reduceEqDiff,Nat.reduceAdd,Nat.reduceLeDiff,Nat.reduceSub,Nat.reduceMul,reduceCtorEq,m1,g1,hlen,c1,s1,a1,g1',t1]
  have fp:Fm (fun j=>j=r) h1 (h1.put r (.rows true 2 0 0 [[v2,.int .i64 0]])):=Fm.put _ _ rfl
  refine hP _ u1 (a2.mono fp ?_) a3 ⟨v2,by rw [g_put_eq,g1'];rfl,t2.mono fp ?_,t3,t4 _ g4⟩ ((f1.mono (fun _ _ e=>e.elim)).trans fp) a4
  ·rintro id tok off len cap rfl rfl
   obtain ⟨wr,cur,lw,rs,e1,_⟩:=a2
   rw [g1'] at e1
   cases e1
  ·rintro id tok off len cap rfl rfl
   have:=t4 _ g4 _ _ _ _ _ rfl
   omega
 cases hT:B.take m with
 | nil=>
  rw [hT] at s2
  refine fin h .nils ?_ (by rw [hT];rfl) (by rintro _ _ _ _ _ ⟨⟩) (Fm.refl _ _) (fun _=>rfl)
  simp only [appT,asC_c,Option.bind_some,s2.read,List.map_nil,appRows]
 | cons y ys=>
  rw [hT] at s2
  have on:Ow h 1 .nils ([]:List (List CV)):=rfl
  obtain ⟨u',h2,k1,k2,k3,k4⟩:=on.app (lc:=[]) (x:=.v (.c v1)) (xs:=(y::ys).map eB) s2.read (by simp) (bytes:=1)
   (by have:=congrArg List.length hT;simp only [List.length_take,List.length_cons] at this;simp only [room,List.length_map,List.length_nil,List.length_cons];omega)
  refine fin h2 u' k1 (by rw [hT];simpa using k2.sl) ?_ (k3.mono (fun _ _ e=>e.elim)) (fun e=>by subst e;simp at hT)
  intro id tok off len c he
  have:=k2.cap _ _ _ _ _ he
  cases this
theorem end_ok (hr:Rdr h r []) (hP:P (.c (.int .i64 0)) h):callW N (k+1) 285 [.c (.ptr r 0 0 0)] h P:=by
 obtain ⟨u,g1,g2,g3,g4⟩:=hr
 have hlen:∀ h':Hp,lenT h' .sl (.v (.c u))=some (0:Int):=fun h'=>by rw [g2.len h'];rfl
 have z0:¬((0:Int)<0):=by decide
 refine call_intro rfl (by simp only [List.length_cons,List.length_nil];omega) ?_
 simp (maxSteps:=200000) -implicitDefEqProofs only [KA,KB,KC,KD,KE,KF,eq_self,ne_eq,↓reduceIte,Nat.reduceLT,Nat.reduceEqDiff,Nat.reduceAdd,Nat.reduceLeDiff,Nat.reduceSub,Nat.reduceMul,reduceCtorEq,g1,hlen,z0,hP]
end
end
section
set_option maxHeartbeats 4000000
theorem or_u64 {a c:Nat} (ha:a<2 ^ 56) (hc:c<256):IntKind.wrap .u64 ((BitVec.ofInt (IntKind.bits .u64) ((a * 256:Nat):Int) ||| BitVec.ofInt (IntKind.bits .u64) (c:Int)).toNat:Nat)=((a * 256+c:Nat):Int):=by
 have h:=or_k (k:=.u64) rfl (a:=a * 256) (b:=c) (by show a * 256<2 ^ 64;omega) (by show c<2 ^ 64;omega)
 rw [h]
 have:a * 256 ||| c=a * 256+c:=by
  rw [show a * 256=a <<< 8 by rw [Nat.shiftLeft_eq]]
  exact (Nat.shiftLeft_add_eq_or_of_lt (by omega) a).symm
 rw [this]
theorem shl_u64 {a:Nat} (ha:a<2 ^ 56):binC .shl .num (.int .u64 (a:Int)) (.int .u64 8)=some (.int .u64 ((a * 256:Nat):Int)):=by
 show some (CV.int .u64 (IntKind.wrap .u64 ((a:Int) * 2 ^ (min (8:Int).toNat 64))))=_
 rw [show (min (8:Int).toNat 64)=8 by decide,wrap_u64 (by omega)]
 congr 2
section
variable {k:Nat} {h:Hp} {P:AV→Hp→Prop} {r:Nat} {B:List Nat}
def NuI (h0:Hp) (v:CV) (L:List Nat) (n:Nat) (s:St):Prop:=∃ (i:Nat) (l:List (Nat × TV)) (lc:List (List CV)),s=ST 23 l lc h0∧i≤L.length∧n=L.length-i∧
 lk l 5 = .v (.c (.int .u64 (nf 0 (L.take i):Nat)))∧lk l 10 = .v (.c v)∧lk l 11 = .v (.c (.int .i64 L.length))∧lk l 12 = .v (.c (.int .i64 i))
theorem num_ok {m:Nat} (hr:Rdr h r B) (hm:m≤B.length) (hm8:m≤7) (hB:B.length≤1000000) (hlt:∀ c∈B,c<256)
 (hP:∀ h',Rdr h' r (B.drop m)→Fm (fun j=>j=r) h h'→P (.c (.int .u64 (nf 0 (B.take m):Nat))) h'):callW N (k+2) 302 [.c (.ptr r 0 0 0),.c (.int .i64 m)] h P:=by
 refine call_intro rfl (by simp only [List.length_cons,List.length_nil];omega) ?_
 simp (maxSteps:=200000) -implicitDefEqProofs only [KA,KB,KC,KD,KE,KF,eq_self,ne_eq,↓reduceIte,Nat.reduceLT,Nat.reduceEqDiff,Nat.reduceAdd,Nat.reduceLeDiff,Nat.reduceSub,Nat.reduceMul,reduceCtorEq]
 refine raw_ok (k:=k) hr hm hB fun h1 u k1 k2 k3 f1 _=>?_
 have hLl:(B.take m).length=m:=by rw [List.length_take];omega
 have hL:∀ c∈B.take m,c<256:=fun c hc=>hlt c (List.mem_of_mem_take hc)
 generalize hLd:B.take m=L at *
 have hlen:∀ h':Hp,lenT h' .sl (.v (.c u))=some (L.length:Int):=fun h'=>by rw [k1.len h',List.length_map]
 simp (maxSteps:=200000) -implicitDefEqProofs only [KA,KB,KC,KD,KE,KF,eq_self,ne_eq,↓reduceIte,Nat.reduceLT,Nat.reduceEqDiff,Nat.reduceAdd,Nat.reduceLeDiff,Nat.reduceSub,Nat.reduceMul,reduceCtorEq,hlen]
 refine loop_rd (callW_mono N _) (NuI h1 u L) (n:=L.length) ⟨0,_,_,rfl,by omega,by omega,rfl,rfl,rfl,rfl⟩ ?_
 rintro n s ⟨i,l,lc,rfl,hi,hn,e5,e10,e11,e12⟩
 by_cases hil:i<L.length
 ·have c1:((i:Int)<(L.length:Int)):=by omega
  obtain ⟨id,tok,j,a1,a2⟩:=bytes_at k1 hil
  have hc:=hL _ (List.getElem_mem hil)
  have hq:nf 0 (L.take i)<2 ^ 56:=by
   have h1:=nf_lt (L:=L.take i) (fun c hc=>hL c (List.mem_of_mem_take hc))
   rw [List.length_take] at h1
   have h2:256 ^ (min i L.length)≤256 ^ 7:=Nat.pow_le_pow_right (by decide) (by omega)
   have h3:(256:Nat) ^ 7=2 ^ 56:=by decide
   omega
  have w1:IntKind.wrap .u64 ((L[i]:Nat):Int)=((L[i]:Nat):Int):=wrap_u64 (by omega)
  have s1:=shl_u64 hq
  have o1:=or_u64 hq hc
  have w3:IntKind.wrap .i64 ((i:Int)+1)=((i+1:Nat):Int):=by rw [wrap_i64 (by omega)];omega
  simp (maxSteps:=200000) -implicitDefEqProofs only [KA,KB,KC,KD,KE,KF,eq_self,ne_eq,↓reduceIte,Nat.reduceLT,Nat.reduceEqDiff,Nat.reduceAdd,Nat.reduceLeDiff,Nat.reduceSub,Nat.reduceMul,reduceCtorEq,e5,e10,e11,e12,c1,a1,a2,s1,w1,o1,w3,rd_n]
  refine ⟨n-1,by omega,i+1,_,_,rfl,by omega,by omega,?_,rfl,rfl,rfl⟩
  rw [List.take_add_one,List.getElem?_eq_getElem hil,Option.toList_some,nf_snoc]
  rfl
 ·have c1:¬((i:Int)<(L.length:Int)):=by omega
  rw [List.take_of_length_le (by omega)] at e5
  simp (maxSteps:=200000) -implicitDefEqProofs only [KA,KB,KC,KD,KE,KF,eq_self,ne_eq,↓reduceIte,Nat.reduceLT,Nat.reduceEqDiff,Nat.reduceAdd,Nat.reduceLeDiff,Nat.reduceSub,Nat.reduceMul,reduceCtorEq,e5,e10,e11,e12,c1]
  exact hP _ k3 f1
theorem u8_ok {c:Nat} (hr:Rdr h r (c::B)) (hB:B.length≤100000) (hc:c<256) (hlt:∀ c∈B,c<256)
 (hP:∀ h',Rdr h' r B→Fm (fun j=>j=r) h h'→P (.c (.int .i64 c)) h'):callW N (k+3) 283 [.c (.ptr r 0 0 0)] h P:=by
 refine call_intro rfl (by simp only [List.length_cons,List.length_nil];omega) ?_
 simp (maxSteps:=200000) -implicitDefEqProofs only [KA,KB,KC,KD,KE,KF,eq_self,ne_eq,↓reduceIte,Nat.reduceLT,Nat.reduceEqDiff,Nat.reduceAdd,Nat.reduceLeDiff,Nat.reduceSub,Nat.reduceMul,reduceCtorEq]
 refine num_ok (k:=k) (m:=1) hr (by simp) (by omega) (by simp only [List.length_cons];omega) (by intro d hd;rcases List.mem_cons.mp hd with rfl|hd;exact hc;exact hlt d hd) fun h1 k1 f1=>?_
 have e1:nf 0 ((c::B).take 1)=c:=by simp [nf]
 rw [e1]
 have w1:IntKind.wrap .i64 ((c:Nat):Int)=((c:Nat):Int):=wrap_i64 (by omega)
 simp (maxSteps:=200000) -implicitDefEqProofs only [KA,KB,KC,KD,KE,KF,eq_self,ne_eq,↓reduceIte,Nat.reduceLT,Nat.reduceEqDiff,Nat.reduceAdd,Nat.reduceLeDiff,Nat.reduceSub,Nat.reduceMul,reduceCtorEq,w1]
 exact hP _ k1 f1
theorem rowsBytes_n:∀ {B:List Nat},(∀ c∈B,c<256)→rowsBytes (B.map eB)=some (B.map UInt8.ofNat)
 | [],_=>rfl
 | b::B,h=>by
  have hb:=h b (by simp)
  show (rowsBytes (B.map eB)).bind (fun l=>some (UInt8.ofNat ((b:Int)).toNat::l))=_
  rw [rowsBytes_n (fun c hc=>h c (by simp [hc])),Option.bind_some,Int.toNat_natCast]
  rfl
theorem b2s_n {t:List TV} {lc:List (List CV)} {h:Hp} {v:CV} {B:List Nat} (hs:SL h 1 v (B.map eB)) (hB:∀ c∈B,c<256):convV ⟨t,lc,h⟩ .bytesToStr (.v (.c v))=some ⟨.v (.c (.str (bs (B.map UInt8.ofNat)))),lc,h⟩:=by
 have hrd:sliceRows h lc 1 (.v (.c v))=some (B.map eB):=hs.read
 have hv:∀ s,v≠.str s:=by rintro s rfl;exact hs.elim
 cases v <;> first|exact absurd rfl (hv _)|skip
 all_goals
  simp only [convV,hrd,Option.bind_some,rowsBytes_n hB,Option.map_some]
  rfl
theorem str_same (A:List UInt8):binC .eql .str (.str (bs A)) (.str (bs A))=some (.bool true):=by
 show some (CV.bool ((bs A).toList == (bs A).toList))=_
 simp
theorem apx_lt {L:List Nat} (hL:∀ c∈L,c<256):∀ c∈apx L,c<256:=by
 intro c hc
 have h1:=crcS_lt (s:=0) (by omega) L hL
 rcases List.mem_append.mp hc with hc|hc
 ·exact hL c hc
 ·simp only [List.mem_cons,List.not_mem_nil,or_false] at hc
  omega
theorem rgood_ok {v:CV} {L:List Nat} (hv:SL h 1 v ((apx L).map eB)) (hc:CapL v) (h0:L≠[]) (hL:∀ c∈L,c<256) (hn:L.length≤100000)
 (hP:∀ h',Fn h h'→P (.c (.bool true)) h'):callW N (k+3) 282 [.c v] h P:=by
 have hal:(apx L).length=L.length+2:=by simp [apx]
 have hlen:∀ h':Hp,lenT h' .sl (.v (.c v))=some ((L.length+2:Nat):Int):=fun h'=>by rw [hv.len h',List.length_map,hal]
 have w1:IntKind.wrap .i64 (((L.length+2:Nat):Int)-2)=(L.length:Int):=by rw [wrap_i64 (by omega)];omega
 have c1:(0:Int)≤(L.length:Int):=by omega
 obtain ⟨v1,s1,s2,s3,s4⟩:=hv.firstB hc (by decide) (m:=(L.length:Int)) (by rw [List.length_map,hal];omega)
 rw [Int.toNat_natCast,←List.map_take] at s2
 have htk:(apx L).take L.length=L:=by simp [apx]
 rw [htk] at s2
 have hB:=apx_lt hL
 have f1:∀ (t:List TV) (lc:List (List CV)),convV ⟨t,lc,h⟩ .bytesToStr (.v (.c v))=some ⟨.v (.c (.str (bs ((apx L).map UInt8.ofNat)))),lc,h⟩:=fun t lc=>b2s_n hv hB
 refine call_intro rfl (by simp only [List.length_cons,List.length_nil];omega) ?_
 simp (maxSteps:=200000) -implicitDefEqProofs only [KA,KB,KC,KD,KE,KF,eq_self,ne_eq,↓reduceIte,Nat.reduceLT,Nat.reduceEqDiff,Nat.reduceAdd,Nat.reduceLeDiff,Nat.reduceSub,Nat.reduceMul,reduceCtorEq,hlen,w1,c1,s1,f1]
 refine rappend_ok (k:=k) s2 h0 hL (by omega) fun h1 u k1 g1=>?_
 have f2:∀ (t:List TV) (lc:List (List CV)),convV ⟨t,lc,h1⟩ .bytesToStr (.v (.c u))=some ⟨.v (.c (.str (bs ((apx L).map UInt8.ofNat)))),lc,h1⟩:=fun t lc=>b2s_n k1 hB
 have f3:∀ (t:List TV) (lc:List (List CV)),convV ⟨t,lc,h1⟩ .bytesToStr (.v (.c v))=some ⟨.v (.c (.str (bs ((apx L).map UInt8.ofNat)))),lc,h1⟩:=fun t lc=>b2s_n (hv.new g1) hB
 have e1:=str_same ((apx L).map UInt8.ofNat)
 simp (maxSteps:=200000) -implicitDefEqProofs only [KA,KB,KC,KD,KE,KF,eq_self,ne_eq,↓reduceIte,Nat.reduceLT,Nat.reduceEqDiff,Nat.reduceAdd,Nat.reduceLeDiff,Nat.reduceSub,Nat.reduceMul,reduceCtorEq,f2,f3,e1]
 exact hP _ g1
end
end
section
set_option maxHeartbeats 8000000
theorem nf_be (n:Nat):∀ (m s:Nat),nf s (be m n)=s * 2 ^ (8 * m)+n % 2 ^ (8 * m)
 | 0,s=>by simp [nf,be,Nat.mod_one]
 | m+1,s=>by
  show nf (s * 256+n / 2 ^ (8 * m) % 256) (be m n)=_
  rw [nf_be n m]
  have h1:2 ^ (8 * (m+1))=2 ^ (8 * m) * 256:=by rw [show 8 * (m+1)=8 * m+8 by omega,Nat.pow_add]
  rw [h1,Nat.mod_mul,Nat.add_mul,Nat.mul_assoc,Nat.mul_comm 256,Nat.mul_comm (n / 2 ^ (8 * m) % 256)]
  omega
theorem Rdr.keep {S:Nat→Prop} {h h':Hp} {r:Nat} {B:List Nat} (k:Rdr h r B) (f:Fm S h h') (hS:∀ j,j≤r→¬S j):Rdr h' r B:=by
 obtain ⟨u,g1,g2,g3,g4⟩:=k
 refine ⟨u,f.some g1 (hS r (Nat.le_refl _)),g2.mono f ?_,g3,g4⟩
 intro id tok off len cap e
 exact hS id (by have:=g4 _ _ _ _ _ e;omega)
section
variable {k:Nat} {h:Hp} {P:AV→Hp→Prop} {x:Nat} {v:CV} {L:List Int}
def DlI (base r:Nat) (h0:Hp) (o u:CV) (L:List Int) (n:Nat) (s:St):Prop:=∃ (i:Nat) (l:List (Nat × TV)) (h':Hp) (w:CV),s=ST 132 l [[.int .i64 3,.int .i64 0,.int .i64 0,.int .i64 0,w]] h'∧i≤L.length∧n=L.length-i∧Ow h' 1 w ((L.take i).map encI)∧
 (∀ j,ownId w j→base≤j)∧Fm (fun j=>base≤j) h0 h'∧lk l 4 = .v (.c (.ptr r 0 0 0))∧lk l 6 = .v (.c o)∧lk l 7 = .lp 0 0∧lk l 28 = .v (.c (.int .i64 2))∧lk l 29 = .v (.c (.int .i64 1))∧
 lk l 91 = .v (.c u)∧lk l 92 = .v (.c (.int .i64 L.length))∧lk l 93 = .v (.c (.int .i64 i))
def ieT (L:List Int):List Nat:=3::L.length::L.map Int.toNat
def ieL (x:Nat) (L:List Int):Nat→List Nat
 | 0=>1::6::(be 5 x++0::ieT L)
 | 1=>ieT L
 | _=>[]
theorem ieB_eq (x:Nat) (L:List Int):ieB x L=2::ieL x L 0:=by simp [ieB,ieL,ieT]
theorem Rdr.err {h:Hp} {r:Nat} {B:List Nat} (k:Rdr h r B):∃ u,h.g r=some (.rows true 2 0 0 [[u,.int .i64 0]]):=⟨k.choose,k.choose_spec.1⟩
def outR (x:Nat) (L:List Int) (h:Hp) (r:Nat) (o:CV):Nat→Prop
 | 0=>o = .nils
 | 1=>Ow h 5 o [bE x .nils true]
 | _=>∃ w,Ow h 5 o [bE x .nils true,bE x w false]∧SL h 1 w (L.map encI)
def DeI (r:Nat) (h0:Hp) (x:Nat) (L:List Int) (n:Nat) (s:St):Prop:=∃ (i:Nat) (l:List (Nat × TV)) (lc:List (List CV)) (h':Hp) (o:CV),s=ST 132 l lc h'∧i≤2∧n=2-i∧Rdr h' r (ieL x L i)∧Fm (fun j=>r≤j) h0 h'∧outR x L h' r o i∧(∀ j,ownId o j→r<j)∧
 lk l 4 = .v (.c (.ptr r 0 0 0))∧lk l 6 = .v (.c o)∧lk l 28 = .v (.c (.int .i64 2))∧lk l 29 = .v (.c (.int .i64 i))
theorem decies_ok (hx:x<1099511627776) (hv:SL h 1 v ((ieB x L).map eB)) (hcv:CapL v) (hL:∀ x∈L,0≤x∧x≤255) (hl:L.length≤16)
 (hP:∀ h' o w,SL h' 5 o (bR x w)→SL h' 1 w (L.map encI)→Fn h h'→P (.tup [.c o,.c (.int .i64 0)]) h'):callW N (k+4) 286 [.c v] h P:=by
 have hbl:=ieB_lt (x:=x) hL hl
 have hil:=ieB_len x L
 obtain ⟨h1,hh1⟩:∃ g,g=h.push (.rows true 2 0 0 [[v,.int .i64 0]]):=⟨_,rfl⟩
 have f1:Fn h h1:=by rw [hh1];exact Fm.push _ _ _
 have n1:h1.n=h.n+1:=by rw [hh1,n_push]
 have r1:Rdr h1 h.n (2::ieL x L 0):=⟨v,by rw [hh1,g_push_eq],by rw [←ieB_eq];exact hv.new f1,hcv,hv.lt⟩
 have ltT:∀ c∈ieT L,c<256:=by
  intro c hc
  simp only [ieT,List.mem_cons] at hc
  rcases hc with rfl|rfl|hc
  ·omega
  ·omega
  ·exact toNat_lt hL c hc
 have ltR:∀ c∈be 5 x++0::ieT L,c<256:=by
  intro c hc
  rcases List.mem_append.mp hc with hc|hc
  ·exact be_lt x 5 c hc
  ·rcases List.mem_cons.mp hc with rfl|hc
   ·omega
   ·exact ltT c hc
 have lt0:∀ c∈ieL x L 0,c<256:=by
  intro c hc
  simp only [ieL,List.mem_cons] at hc
  rcases hc with rfl|rfl|hc
  ·omega
  ·omega
  ·exact ltR c hc
 have llT:(ieT L).length=2+L.length:=by simp [ieT];omega
 have llR:(be 5 x++0::ieT L).length=8+L.length:=by rw [List.length_append,be_len,List.length_cons,llT];omega
 have ll0:(ieL x L 0).length=10+L.length:=by simp only [ieL,List.length_cons,llR];omega
 have q1:((1:Nat):Int)=1:=rfl
 have q2:((2:Nat):Int)=2:=rfl
 have q3:((3:Nat):Int)=3:=rfl
 have q6:((6:Nat):Int)=6:=rfl
 have q0:((0:Nat):Int)=0:=rfl
 have c2:¬((4:Int)<2):=by decide
 refine call_intro rfl (by simp only [List.length_cons,List.length_nil];omega) ?_
 simp (maxSteps:=200000) -implicitDefEqProofs only [KA,KB,KC,KD,KE,KF,eq_self,ne_eq,↓reduceIte,Nat.reduceLT,Nat.reduceEqDiff,Nat.reduceAdd,Nat.reduceLeDiff,Nat.reduceSub,Nat.reduceMul,reduceCtorEq,hh1.symm]
 refine u8_ok (k:=k) r1 (by omega) (by omega) lt0 fun h2 r2 f2=>?_
 have gr2:∃ u,h2.g h.n=some (.rows true 2 0 0 [[u,.int .i64 0]]):=⟨r2.choose,r2.choose_spec.1⟩
 obtain ⟨u2,gr2⟩:=gr2
 simp (maxSteps:=200000) -implicitDefEqProofs only [KA,KB,KC,KD,KE,KF,eq_self,ne_eq,↓reduceIte,Nat.reduceLT,Nat.reduceEqDiff,Nat.reduceAdd,Nat.reduceLeDiff,Nat.reduceSub,Nat.reduceMul,reduceCtorEq,gr2,c2,q2]
 have f02:Fm (fun j=>h.n≤j) h h2:=(f1.mono (fun _ _ e=>e.elim)).trans (f2.mono fun j _ e=>by omega)
 refine loop_rd (callW_mono N _) (DeI h.n h x L) (n:=2) ?_ ?_
 ·exact ⟨0,_,_,h2,.nils,rfl,by omega,rfl,r2,f02,rfl,(fun j hj=>False.elim hj),rfl,rfl,rfl,rfl⟩
 rintro n s ⟨i,l,lc,h3,o,rfl,hi,hn,r3,f3,o3,p3,e4,e6,e28,e29⟩
 rcases Nat.lt_or_ge i 2 with hi2|hi2
 ·have hlt:(i:Int)<2:=by omega
  rcases (by omega:i=0∨i=1) with rfl|rfl
  ·have z1:¬((1:Int)<1):=by decide
   have z2:¬((4:Int)<1):=by decide
   have z3:¬((1:Int)=2):=by decide
   have z4:¬((16:Int)<6):=by decide
   simp (maxSteps:=200000) -implicitDefEqProofs only [KA,KB,KC,KD,KE,KF,eq_self,ne_eq,↓reduceIte,Nat.reduceLT,Nat.reduceEqDiff,Nat.reduceAdd,Nat.reduceLeDiff,Nat.reduceSub,Nat.reduceMul,reduceCtorEq,e4,e6,e28,e29,hlt]
   refine u8_ok (k:=k) (c:=1) (B:=6::(be 5 x++0::ieT L)) r3 (by rw [List.length_cons,llR];omega) (by omega) (fun c hc=>lt0 c (by simp only [ieL];exact List.mem_cons_of_mem _ hc)) fun h4 r4 f4=>?_
   obtain ⟨u4,gr4⟩:=r4.err
   simp (maxSteps:=200000) -implicitDefEqProofs only [KA,KB,KC,KD,KE,KF,eq_self,ne_eq,↓reduceIte,Nat.reduceLT,Nat.reduceEqDiff,Nat.reduceAdd,Nat.reduceLeDiff,Nat.reduceSub,Nat.reduceMul,reduceCtorEq,gr4,z1,z2,q1]
   refine u8_ok (k:=k) (c:=6) r4 (by rw [llR];omega) (by omega) ltR fun h5 r5 f5=>?_
   obtain ⟨u5,gr5⟩:=r5.err
   simp (maxSteps:=200000) -implicitDefEqProofs only [KA,KB,KC,KD,KE,KF,eq_self,ne_eq,↓reduceIte,Nat.reduceLT,Nat.reduceEqDiff,Nat.reduceAdd,Nat.reduceLeDiff,Nat.reduceSub,Nat.reduceMul,reduceCtorEq,gr5,z1,z3,z4,q6]
   refine raw_ok (k:=k+2) (m:=6) r5 (by rw [llR];omega) (by rw [llR];omega) fun h6 u6 k6 c6 r6 f6 _=>?_
   have t6:(be 5 x++0::ieT L).take 6=be 5 x++[0]:=by rw [List.take_append,be_len,List.take_of_length_le (by rw [be_len];omega)];rfl
   have d6:(be 5 x++0::ieT L).drop 6=ieT L:=by rw [List.drop_append,be_len,List.drop_of_length_le (by rw [be_len];omega)];rfl
   rw [t6] at k6
   rw [d6] at r6
   obtain ⟨u7,gr6⟩:=r6.err
   obtain ⟨h7,hh7⟩:∃ g,g=h6.push (.rows true 2 0 0 [[u6,.int .i64 0]]):=⟨_,rfl⟩
   have f7:Fn h6 h7:=by rw [hh7];exact Fm.push _ _ _
   have y7:Rdr h7 h6.n (be 5 x++[0]):=⟨u6,by rw [hh7,g_push_eq],k6.new f7,c6,k6.lt⟩
   simp (maxSteps:=200000) -implicitDefEqProofs only [KA,KB,KC,KD,KE,KF,eq_self,ne_eq,↓reduceIte,Nat.reduceLT,Nat.reduceEqDiff,Nat.reduceAdd,Nat.reduceLeDiff,Nat.reduceSub,Nat.reduceMul,reduceCtorEq,gr6,q0,hh7.symm]
   have t5:(be 5 x++[0]).take 5=be 5 x:=by rw [List.take_append_of_le_length (by rw [be_len];omega),List.take_of_length_le (by rw [be_len];omega)]
   have d5:(be 5 x++[0]).drop 5=[0]:=by rw [List.drop_append,be_len,List.drop_of_length_le (by rw [be_len];omega)];rfl
   have v5:nf 0 (be 5 x)=x:=by rw [nf_be,Nat.zero_mul,Nat.zero_add];exact Nat.mod_eq_of_lt (by omega)
   have w5:IntKind.wrap .i64 ((x:Nat):Int)=(x:Int):=wrap_i64 (by omega)
   refine num_ok (k:=k+1) (m:=5) y7 (by simp [be_len]) (by omega) (by simp [be_len]) (fun c hc=>by rcases List.mem_append.mp hc with hc|hc;exact be_lt x 5 c hc;simp at hc;omega) fun h8 y8 f8=>?_
   rw [t5,v5]
   rw [d5] at y8
   simp (maxSteps:=200000) -implicitDefEqProofs only [KA,KB,KC,KD,KE,KF,eq_self,ne_eq,↓reduceIte,Nat.reduceLT,Nat.reduceEqDiff,Nat.reduceAdd,Nat.reduceLeDiff,Nat.reduceSub,Nat.reduceMul,reduceCtorEq,w5]
   refine u8_ok (k:=k) (c:=0) y8 (by simp) (by omega) (by simp) fun h9 y9 f9=>?_
   have on:Ow h9 5 .nils ([]:List (List CV)):=rfl
   obtain ⟨o',h10,a1,a2,a3,a4⟩:=on.app (lc:=[[.int .i64 1,.int .i64 (x:Nat),.int .i64 0,.int .i64 0,.nils],[.int .i64 1,.int .i64 (x:Nat),.int .i64 0,.int .i64 0,.nils]]) (x:=.lsl 1 1) (xs:=[[.int .i64 1,.int .i64 (x:Nat),.int .i64 0,.int .i64 0,.nils]]) rfl (by simp) (bytes:=56) (by simp only [List.length_nil,List.length_cons,room];omega)
   have ho:o = .nils:=o3
   subst ho
   have w6:IntKind.wrap .i64 (0+1)=1:=by decide
   simp (maxSteps:=200000) -implicitDefEqProofs only [KA,KB,KC,KD,KE,KF,eq_self,ne_eq,↓reduceIte,Nat.reduceLT,Nat.reduceEqDiff,Nat.reduceAdd,Nat.reduceLeDiff,Nat.reduceSub,Nat.reduceMul,reduceCtorEq,q0,a1,w6,rd_n]
   have lt6:=lt_of_g gr6
   have f10:Fm (fun j=>h.n<j) h6 h10:=(f7.mono (fun _ _ e=>e.elim)).trans ((f8.mono fun j _ e=>by omega).trans ((f9.mono fun j _ e=>by omega).trans (a3.mono fun _ _ e=>e.elim)))
   have n6:h6.n≤h9.n:=Nat.le_trans f7.n (Nat.le_trans f8.n f9.n)
   refine ⟨1,by omega,1,_,_,h10,o',rfl,by omega,by omega,r6.keep f10 (fun j hj=>by omega),?_,(by show Ow h10 5 o' [bE x .nils true];simpa [bE] using a2),?_,rfl,rfl,rfl,rfl⟩
   ·exact f3.trans ((f4.mono fun j _ e=>by omega).trans ((f5.mono fun j _ e=>by omega).trans ((f6.mono fun j _ e=>by omega).trans (f10.mono fun j _ e=>by omega))))
   ·intro j hj
    rcases a4 j hj with e|e
    ·exact e.elim
    ·omega
  ·have o3':Ow h3 5 o [bE x .nils true]:=o3
   have z1:¬((3:Int)<1):=by decide
   have z2:¬((4:Int)<3):=by decide
   have z3:¬((3:Int)=1):=by decide
   have z4:¬((3:Int)=2):=by decide
   have z5:¬((16:Int)<(L.length:Int)):=by omega
   have ltM:=toNat_lt hL
   have llM:(L.map Int.toNat).length=L.length:=List.length_map ..
   simp (maxSteps:=200000) -implicitDefEqProofs only [KA,KB,KC,KD,KE,KF,eq_self,ne_eq,↓reduceIte,Nat.reduceLT,Nat.reduceEqDiff,Nat.reduceAdd,Nat.reduceLeDiff,Nat.reduceSub,Nat.reduceMul,reduceCtorEq,e4,e6,e28,e29,hlt]
   refine u8_ok (k:=k) (c:=3) (B:=L.length::L.map Int.toNat) r3 (by rw [List.length_cons,llM];omega) (by omega) (fun c hc=>ltT c (List.mem_cons_of_mem _ hc)) fun h4 r4 f4=>?_
   obtain ⟨u4,gr4⟩:=r4.err
   simp (maxSteps:=200000) -implicitDefEqProofs only [KA,KB,KC,KD,KE,KF,eq_self,ne_eq,↓reduceIte,Nat.reduceLT,Nat.reduceEqDiff,Nat.reduceAdd,Nat.reduceLeDiff,Nat.reduceSub,Nat.reduceMul,reduceCtorEq,gr4,z1,z2,q3]
   refine u8_ok (k:=k) (c:=L.length) r4 (by rw [llM];omega) (by omega) ltM fun h5 r5 f5=>?_
   obtain ⟨u5,gr5⟩:=r5.err
   simp (maxSteps:=200000) -implicitDefEqProofs only [KA,KB,KC,KD,KE,KF,eq_self,ne_eq,↓reduceIte,Nat.reduceLT,Nat.reduceEqDiff,Nat.reduceAdd,Nat.reduceLeDiff,Nat.reduceSub,Nat.reduceMul,reduceCtorEq,gr5,z3,z4,z5,q3]
   refine raw_ok (k:=k+2) (m:=L.length) r5 (by rw [llM];omega) (by rw [llM];omega) fun h6 u6 k6 c6 r6 f6 _=>?_
   rw [List.take_of_length_le (by rw [llM];omega)] at k6
   rw [List.drop_of_length_le (by rw [llM];omega)] at r6
   obtain ⟨u7,gr6⟩:=r6.err
   obtain ⟨h7,hh7⟩:∃ g,g=h6.push (.rows true 2 0 0 [[u6,.int .i64 0]]):=⟨_,rfl⟩
   have f7:Fn h6 h7:=by rw [hh7];exact Fm.push _ _ _
   have lt6:=lt_of_g gr6
   have n7:=f7.n
   have hlen:∀ h':Hp,lenT h' .sl (.v (.c u6))=some (L.length:Int):=fun h'=>by rw [k6.len h',List.length_map,llM]
   simp (maxSteps:=200000) -implicitDefEqProofs only [KA,KB,KC,KD,KE,KF,eq_self,ne_eq,↓reduceIte,Nat.reduceLT,Nat.reduceEqDiff,Nat.reduceAdd,Nat.reduceLeDiff,Nat.reduceSub,Nat.reduceMul,reduceCtorEq,gr6,hh7.symm,z3,z4,q3,q1,hlen]
   have k7:=k6.new f7
   refine loop_rd (callW_mono N _) (DlI h7.n h.n h7 o u6 L) (n:=L.length) ?_ ?_
   ·exact ⟨0,_,h7,.nils,rfl,by omega,by omega,rfl,(fun j hj=>False.elim hj),Fm.refl _ _,rfl,rfl,rfl,rfl,rfl,rfl,rfl,rfl⟩
   ·rintro n s ⟨i,l,h8,w,rfl,hi,hn',ow,pw,f8,e4,e6,e7,e28,e29,e91,e92,e93⟩
    by_cases hil:i<L.length
    ·have c1:((i:Int)<(L.length:Int)):=by omega
     have k8:=k7.bf k7.lt f8
     obtain ⟨id,tok,j,a1,a2⟩:=bytes_at k8 (i:=i) (by rw [llM];exact hil)
     have hy:L[i]? = some L[i]:=List.getElem?_eq_getElem hil
     have hyL:=hL _ (List.getElem_mem hil)
     have w1:IntKind.wrap .i64 (((L.map Int.toNat)[i]'(by rw [llM];exact hil):Nat):Int)=L[i]:=by
      rw [List.getElem_map,wrap_i64 (by omega)];omega
     have w3:IntKind.wrap .i64 ((i:Int)+1)=((i+1:Nat):Int):=by rw [wrap_i64 (by omega)];omega
     obtain ⟨w',h9,b1,b2,b3,b4⟩:=ow.app (lc:=[[.int .i64 3,.int .i64 0,.int .i64 0,.int .i64 0,w],[.int .i64 L[i]]]) (x:=.lsl 1 1) (xs:=[[.int .i64 L[i]]]) rfl (by simp) (bytes:=8)
      (by simp only [room,List.length_map,List.length_take,List.length_cons,List.length_nil];omega)
     simp (maxSteps:=200000) -implicitDefEqProofs only [KA,KB,KC,KD,KE,KF,eq_self,ne_eq,↓reduceIte,Nat.reduceLT,Nat.reduceEqDiff,Nat.reduceAdd,Nat.reduceLeDiff,Nat.reduceSub,Nat.reduceMul,reduceCtorEq,e4,e6,e7,e28,e29,e91,e92,e93,c1,a1,a2,w1,b1,w3,rd_n]
     refine ⟨n-1,by omega,i+1,_,h9,w',rfl,by omega,by omega,?_,?_,f8.trans (b3.mono fun j _ e=>pw j e),rfl,rfl,rfl,rfl,rfl,rfl,rfl,rfl⟩
     ·rw [take_snoc hy,List.map_append];exact b2
     ·intro j hj
      rcases b4 j hj with e|e
      ·exact pw j e
      ·have:=f8.n;omega
    ·have c1:¬((i:Int)<(L.length:Int)):=by omega
     rw [List.take_of_length_le (by omega)] at ow
     have n8:=f8.n
     have f38:Fm (fun j=>j=h.n∨h7.n≤j) h3 h8:=(f4.mono fun j _ e=>.inl e).trans ((f5.mono fun j _ e=>.inl e).trans ((f6.mono fun j _ e=>.inl e).trans ((f7.mono fun _ _ e=>e.elim).trans (f8.mono fun j _ e=>.inr e))))
     have o8:Ow h8 5 o [bE x .nils true]:=o3'.mono f38 (fun j hj=>by
      have h1:=p3 j hj
      have h2:=o3'.lt hj
      have h3:h3.n≤h6.n:=Nat.le_trans f4.n (Nat.le_trans f5.n f6.n)
      omega)
     obtain ⟨o',h9,b1,b2,b3,b4⟩:=o8.app (lc:=[[.int .i64 3,.int .i64 0,.int .i64 0,.int .i64 0,w],[.int .i64 3,.int .i64 0,.int .i64 0,.int .i64 0,w]]) (x:=.lsl 1 1) (xs:=[[.int .i64 3,.int .i64 0,.int .i64 0,.int .i64 0,w]]) rfl (by simp) (bytes:=56)
      (by simp only [room,List.length_cons,List.length_nil];omega)
     have w3:IntKind.wrap .i64 (1+1)=2:=by decide
     simp (maxSteps:=200000) -implicitDefEqProofs only [KA,KB,KC,KD,KE,KF,eq_self,ne_eq,↓reduceIte,Nat.reduceLT,Nat.reduceEqDiff,Nat.reduceAdd,Nat.reduceLeDiff,Nat.reduceSub,Nat.reduceMul,reduceCtorEq,e4,e6,e7,e28,e29,e91,e92,e93,c1,b1,w3,rd_n,rd_e]
     have hol:∀ j,ownId o j→j<h7.n:=by
      intro j hj
      have h2:=o3'.lt hj
      have h3:h3.n≤h6.n:=Nat.le_trans f4.n (Nat.le_trans f5.n f6.n)
      omega
     have f69:Fm (fun j=>h.n<j) h6 h9:=(f7.mono (fun _ _ e=>e.elim)).trans ((f8.mono fun j _ e=>by omega).trans (b3.mono fun j _ e=>p3 j e))
     have w9:Ow h9 1 w (L.map encI):=ow.mono b3 (fun j hj e=>by have h1:=pw j hj;have h2:=hol j e;omega)
     refine ⟨0,by omega,2,_,_,h9,o',rfl,by omega,by omega,r6.keep f69 (fun j hj=>by omega),?_,⟨w,(by simpa [bE] using b2),w9.sl⟩,?_,rfl,rfl,rfl,rfl⟩
     ·exact f3.trans ((f4.mono fun j _ e=>by omega).trans ((f5.mono fun j _ e=>by omega).trans ((f6.mono fun j _ e=>by omega).trans (f69.mono fun j _ e=>by omega))))
     ·intro j hj
      rcases b4 j hj with e|e
      ·exact p3 j e
      ·omega
 ·have hlt:¬(i:Int)<2:=by omega
  have hi3:i=2:=by omega
  subst hi3
  obtain ⟨w,ow,hw⟩:=o3
  have z0:((0:Int)=0):=rfl
  simp (maxSteps:=200000) -implicitDefEqProofs only [KA,KB,KC,KD,KE,KF,eq_self,ne_eq,↓reduceIte,Nat.reduceLT,Nat.reduceEqDiff,Nat.reduceAdd,Nat.reduceLeDiff,Nat.reduceSub,Nat.reduceMul,reduceCtorEq,e4,e6,e28,e29,hlt]
  refine end_ok (k:=k+2) r3 ?_
  simp (maxSteps:=200000) -implicitDefEqProofs only [KA,KB,KC,KD,KE,KF,eq_self,ne_eq,↓reduceIte,Nat.reduceLT,Nat.reduceEqDiff,Nat.reduceAdd,Nat.reduceLeDiff,Nat.reduceSub,Nat.reduceMul,reduceCtorEq]
  exact hP _ o w ow.sl hw ⟨f3.n,fun j hj _=>f3.g j hj (by omega)⟩
end
end
section
set_option maxHeartbeats 8000000
section
variable {k:Nat} {h:Hp} {P:AV→Hp→Prop} {x q:Nat} {v o w:CV} {L:List Int}
theorem rasn_ok {a:Int} (ha:0≤a∧a<1099511627776) (hP:P (.c (.bool true)) h):callW N (k+1) 326 [.c (.int .i64 a)] h P:=by
 refine call_intro rfl (by simp only [List.length_cons,List.length_nil];omega) ?_
 simp (maxSteps:=200000) -implicitDefEqProofs only [KA,KB,KC,KD,KE,KF,eq_self,ne_eq,↓reduceIte,Nat.reduceLT,Nat.reduceEqDiff,Nat.reduceAdd,Nat.reduceLeDiff,Nat.reduceSub,Nat.reduceMul,reduceCtorEq,ha.1,ha.2,hP]
theorem rnode_ok {x:Int} {r:Bool} (hr:r=decide (0≤x∧x<16)) (hP:P (.c (.bool r)) h):callW N (k+1) 44 [.c (.int .i64 x)] h P:=by
 refine call_intro rfl (by simp only [List.length_cons,List.length_nil];omega) ?_
 by_cases c1:0≤x
 ·by_cases c2:x<16
  ·have:r=true:=by rw [hr];simp [c1,c2]
   subst this
   simp (maxSteps:=200000) -implicitDefEqProofs only [KA,KB,KC,KD,KE,KF,eq_self,ne_eq,↓reduceIte,Nat.reduceLT,Nat.reduceEqDiff,Nat.reduceAdd,Nat.reduceLeDiff,Nat.reduceSub,Nat.reduceMul,reduceCtorEq,c1,c2,hP]
  ·have:r=false:=by rw [hr];simp [c2]
   subst this
   simp (maxSteps:=200000) -implicitDefEqProofs only [KA,KB,KC,KD,KE,KF,eq_self,ne_eq,↓reduceIte,Nat.reduceLT,Nat.reduceEqDiff,Nat.reduceAdd,Nat.reduceLeDiff,Nat.reduceSub,Nat.reduceMul,reduceCtorEq,c1,c2,hP]
 ·have:r=false:=by rw [hr];simp [c1]
  subst this
  simp (maxSteps:=200000) -implicitDefEqProofs only [KA,KB,KC,KD,KE,KF,eq_self,ne_eq,↓reduceIte,Nat.reduceLT,Nat.reduceEqDiff,Nat.reduceAdd,Nat.reduceLeDiff,Nat.reduceSub,Nat.reduceMul,reduceCtorEq,c1,hP]
def MiI (h:Hp) (v:CV) (L:List Int) (n:Nat) (s:St):Prop:=∃ (i:Nat) (l:List (Nat × TV)),s=ST 95 l [[.int .i64 3,.int .i64 0,.int .i64 0,.int .i64 0,v]] h∧i≤L.length∧n=L.length-i∧
 lk l 1 = .lp 0 0∧lk l 63 = .v (.c v)∧lk l 64 = .v (.c (.int .i64 L.length))∧lk l 65 = .v (.c (.int .i64 i))
theorem rmayie_ok {a:Int} (ha:0≤a∧a<1099511627776) (hv:SL h 1 v (L.map encI)) (hL:∀ x∈L,0≤x∧x≤255) (hl:L.length≤16) (b:Bool) (hP:P (.c (.bool true)) h):callW N (k+2) 303 [.agg (bE a v b)] h P:=by
 have hl0:∀ h',lenT h' .sl (.v (.c .nils))=some 0:=fun _=>rfl
 have hlen:∀ h':Hp,lenT h' .sl (.v (.c v))=some (L.length:Int):=fun h'=>by rw [hv.len h',List.length_map]
 cases b with
 | true=>
  unfold bE
  have z1:(0:Int)≤255:=by decide
  have z2:(0:Int)≤0:=by decide
  refine call_intro rfl (by simp only [List.length_cons,List.length_nil];omega) ?_
  simp (maxSteps:=200000) -implicitDefEqProofs only [KA,KB,KC,KD,KE,KF,eq_self,ne_eq,↓reduceIte,Nat.reduceLT,Nat.reduceEqDiff,Nat.reduceAdd,Nat.reduceLeDiff,Nat.reduceSub,Nat.reduceMul,reduceCtorEq]
  refine rasn_ok (k:=k) ha ?_
  simp (maxSteps:=200000) -implicitDefEqProofs only [KA,KB,KC,KD,KE,KF,eq_self,ne_eq,↓reduceIte,Nat.reduceLT,Nat.reduceEqDiff,Nat.reduceAdd,Nat.reduceLeDiff,Nat.reduceSub,Nat.reduceMul,reduceCtorEq,hl0,z1,z2,hP]
 | false=>
  unfold bE
  have z1:¬((3:Int)=1):=by decide
  have z2:¬((3:Int)=2):=by decide
  have c16:(L.length:Int)≤16:=by omega
  refine call_intro rfl (by simp only [List.length_cons,List.length_nil];omega) ?_
  simp (maxSteps:=200000) -implicitDefEqProofs only [KA,KB,KC,KD,KE,KF,eq_self,ne_eq,↓reduceIte,Nat.reduceLT,Nat.reduceEqDiff,Nat.reduceAdd,Nat.reduceLeDiff,Nat.reduceSub,Nat.reduceMul,reduceCtorEq,z1,z2,hlen]
  refine loop_rd (callW_mono N _) (MiI h v L) (n:=L.length) ⟨0,_,rfl,by omega,by omega,rfl,rfl,rfl,rfl⟩ ?_
  rintro n s ⟨i,l,rfl,hi,hn,e1,e63,e64,e65⟩
  by_cases hlt:(i:Int)<L.length
  ·obtain ⟨y,hy⟩:∃ y,L[i]? = some y:=⟨_,List.getElem?_eq_getElem (by omega)⟩
   obtain ⟨pid,ptok,pj,a1,a2⟩:=hv.at (i:=(i:Int)) (r:=[.int .i64 y]) (by omega) (by simp [encI,hy])
   have hy2:=hL y (List.mem_of_getElem? hy)
   have c1:¬y<0:=by omega
   have c2:¬255<y:=by omega
   have w3:IntKind.wrap .i64 ((i:Int)+1)=((i+1:Nat):Int):=by rw [wrap_i64 (by omega)];omega
   simp (maxSteps:=200000) -implicitDefEqProofs only [KA,KB,KC,KD,KE,KF,eq_self,ne_eq,↓reduceIte,Nat.reduceLT,Nat.reduceEqDiff,Nat.reduceAdd,Nat.reduceLeDiff,Nat.reduceSub,Nat.reduceMul,reduceCtorEq,e1,e63,e64,e65,hlt,a1,a2,c1,c2,w3,rd_n]
   exact ⟨n-1,by omega,i+1,_,rfl,by omega,by omega,rfl,rfl,rfl,rfl⟩
  ·simp (maxSteps:=200000) -implicitDefEqProofs only [KA,KB,KC,KD,KE,KF,eq_self,ne_eq,↓reduceIte,Nat.reduceLT,Nat.reduceEqDiff,Nat.reduceAdd,Nat.reduceLeDiff,Nat.reduceSub,Nat.reduceMul,reduceCtorEq,e1,e63,e64,e65,hlt,hlen,c16,rd_e,rd_r]
   exact hP
def RfI (h:Hp) (q:Nat) (o:CV) (n:Nat) (s:St):Prop:=∃ (i:Nat) (l:List (Nat × TV)),s=ST 115 l [[.int .i64 3,.int .i64 0,.int .i64 64,.int .i64 q,o,.nils]] h∧i≤2∧n=2-i∧
 lk l 1 = .lp 0 0∧lk l 62 = .v (.c o)∧lk l 63 = .v (.c (.int .i64 2))∧lk l 64 = .v (.c (.int .i64 i))
theorem rfind_ok {a:Int} (he:SL h 5 o (bR a w)) (hP:∀ h',Fn h h'→P (.tup [.agg (bE a w true),.c (.bool true)]) h'):callW N (k+1) 304 [.c o,.c (.int .i64 1)] h P:=by
 refine call_intro rfl (by simp only [List.length_cons,List.length_nil];omega) ?_
 rw [a_fin]
 unfold n304b
 obtain ⟨h1,hh1⟩:∃ g,g=h.push (.rows true 5 0 0 [[.int .i64 0,.int .i64 0,.int .i64 0,.int .i64 0,.nils]]):=⟨_,rfl⟩
 have g1:h1.g h.n=some (.rows true 5 0 0 [[.int .i64 0,.int .i64 0,.int .i64 0,.int .i64 0,.nils]]):=by rw [hh1,g_push_eq]
 have f1:Fn h h1:=by rw [hh1];exact Fm.push _ _ _
 have hlen:∀ h':Hp,lenT h' .sl (.v (.c o))=some (2:Int):=fun h'=>by rw [he.len h'];rfl
 have he1:=he.new f1
 obtain ⟨id,tok,j,k1,k2⟩:=he1.at (i:=0) (r:=bE a w true) (by omega) rfl
 have z1:(0:Int)<2:=by decide
 unfold bE at k2
 simp (maxSteps:=200000) -implicitDefEqProofs only [KA,KB,KC,KD,KE,KF,eq_self,ne_eq,↓reduceIte,Nat.reduceLT,Nat.reduceEqDiff,Nat.reduceAdd,Nat.reduceLeDiff,Nat.reduceSub,Nat.reduceMul,reduceCtorEq,hh1.symm,g1,hlen]
 refine loop_rd (callW_mono N _) (fun n s=>n=0∧∃ (l:List (Nat × TV)) (lc:List (List CV)),s=ST 21 l lc h1∧lk l 1 = .v (.c (.int .i64 1))∧lk l 4 = .v (.c (.ptr h.n 0 0 0))∧lk l 8 = .v (.c o)∧lk l 9 = .v (.c (.int .i64 2))∧lk l 10 = .v (.c (.int .i64 0))) (n:=0)
  ⟨rfl,_,_,rfl,rfl,rfl,rfl,rfl,rfl⟩ ?_
 rintro n s ⟨rfl,l,lc,rfl,e1,e4,e8,e9,e10⟩
 simp (maxSteps:=200000) -implicitDefEqProofs only [KA,KB,KC,KD,KE,KF,eq_self,ne_eq,↓reduceIte,Nat.reduceLT,Nat.reduceEqDiff,Nat.reduceAdd,Nat.reduceLeDiff,Nat.reduceSub,Nat.reduceMul,reduceCtorEq,e1,e4,e8,e9,e10,z1,k1,k2,g1,rd_r,fz_r,bl_r]
 exact hP _ (f1.fresh (Fm.put (S:=fun j=>j=h.n) _ _ rfl) (fun j e=>by omega))
theorem rmayf_ok {a:Int} (hq:q≤255) (ha:0≤a∧a<1099511627776) (hv:SL h 1 w (L.map encI)) (hL:∀ x∈L,0≤x∧x≤255) (hl:L.length≤16) (he:SL h 5 o (bR a w))
 (hP:∀ h',Fn h h'→P (.c (.bool true)) h'):callW N (k+3) 287 [.agg [.int .i64 3,.int .i64 0,.int .i64 64,.int .i64 q,o,.nils]] h P:=by
 have z1:¬((3:Int)<1):=by decide
 have z2:¬((5:Int)<3):=by decide
 have z3:¬((64:Int)=0):=by decide
 have z4:¬(q:Int)<0:=by omega
 have z5:¬(255:Int)<(q:Int):=by omega
 have z6:¬((4:Int)<2):=by decide
 have z7:¬((64:Int)<0):=by decide
 have z8:¬((3:Int)=2):=by decide
 have z9:¬((3:Int)=4):=by decide
 have hl0:∀ h',lenT h' .sl (.v (.c .nils))=some 0:=fun _=>rfl
 have hlen:∀ h':Hp,lenT h' .sl (.v (.c o))=some (2:Int):=fun h'=>by rw [he.len h'];rfl
 refine call_intro rfl (by simp only [List.length_cons,List.length_nil];omega) ?_
 simp (maxSteps:=200000) -implicitDefEqProofs only [KA,KB,KC,KD,KE,KF,eq_self,ne_eq,↓reduceIte,Nat.reduceLT,Nat.reduceEqDiff,Nat.reduceAdd,Nat.reduceLeDiff,Nat.reduceSub,Nat.reduceMul,reduceCtorEq,z1,z2]
 refine rnode_ok (k:=k+1) (r:=true) (by decide) ?_
 simp (maxSteps:=200000) -implicitDefEqProofs only [KA,KB,KC,KD,KE,KF,eq_self,ne_eq,↓reduceIte,Nat.reduceLT,Nat.reduceEqDiff,Nat.reduceAdd,Nat.reduceLeDiff,Nat.reduceSub,Nat.reduceMul,reduceCtorEq]
 refine rnode_ok (k:=k+1) (r:=false) (by decide) ?_
 simp (maxSteps:=200000) -implicitDefEqProofs only [KA,KB,KC,KD,KE,KF,eq_self,ne_eq,↓reduceIte,Nat.reduceLT,Nat.reduceEqDiff,Nat.reduceAdd,Nat.reduceLeDiff,Nat.reduceSub,Nat.reduceMul,reduceCtorEq,z3,z4,z5,hlen,z6,hl0,z7]
 refine loop_rd (callW_mono N _) (RfI h q o) (n:=2) ⟨0,_,rfl,by omega,rfl,rfl,rfl,rfl,rfl⟩ ?_
 rintro n s ⟨i,l,rfl,hi,hn,e1,e62,e63,e64⟩
 rcases Nat.lt_or_ge i 2 with hi2|hi2
 ·have hlt:(i:Int)<2:=by omega
  obtain ⟨b,hb⟩:∃ b:Bool,(bR a w)[i]? = some (bE a w b):=by
   rcases (by omega:i=0∨i=1) with rfl|rfl
   ·exact ⟨true,rfl⟩
   ·exact ⟨false,rfl⟩
  obtain ⟨id,tok,j,a1,a2⟩:=he.at (i:=(i:Int)) (r:=bE a w b) (by omega) (by rw [Int.toNat_natCast];exact hb)
  have h5:(bE a w b).length=5:=by cases b <;> rfl
  have t5:(bE a w b).take 5=bE a w b:=List.take_of_length_le (by omega)
  have w3:IntKind.wrap .i64 ((i:Int)+1)=((i+1:Nat):Int):=by rw [wrap_i64 (by omega)];omega
  simp (maxSteps:=200000) -implicitDefEqProofs only [KA,KB,KC,KD,KE,KF,eq_self,ne_eq,↓reduceIte,Nat.reduceLT,Nat.reduceEqDiff,Nat.reduceAdd,Nat.reduceLeDiff,Nat.reduceSub,Nat.reduceMul,reduceCtorEq,e1,e62,e63,e64,hlt,a1,a2,h5,t5,List.drop_of_length_le]
  refine rmayie_ok (k:=k) ha hv hL hl b ?_
  simp (maxSteps:=200000) -implicitDefEqProofs only [KA,KB,KC,KD,KE,KF,eq_self,ne_eq,↓reduceIte,Nat.reduceLT,Nat.reduceEqDiff,Nat.reduceAdd,Nat.reduceLeDiff,Nat.reduceSub,Nat.reduceMul,reduceCtorEq,e1,e62,e63,e64,w3,rd_n]
  exact ⟨n-1,by omega,i+1,_,rfl,by omega,by omega,rfl,rfl,rfl,rfl⟩
 ·have hlt:¬(i:Int)<2:=by omega
  simp (maxSteps:=200000) -implicitDefEqProofs only [KA,KB,KC,KD,KE,KF,eq_self,ne_eq,↓reduceIte,Nat.reduceLT,Nat.reduceEqDiff,Nat.reduceAdd,Nat.reduceLeDiff,Nat.reduceSub,Nat.reduceMul,reduceCtorEq,e1,e62,e63,e64,hlt,z8,z9,rd_e]
  refine rfind_ok (k:=k+1) he fun h1 f1=>?_
  unfold bE
  simp (maxSteps:=200000) -implicitDefEqProofs only [KA,KB,KC,KD,KE,KF,eq_self,ne_eq,↓reduceIte,Nat.reduceLT,Nat.reduceEqDiff,Nat.reduceAdd,Nat.reduceLeDiff,Nat.reduceSub,Nat.reduceMul,reduceCtorEq,hl0,rd_r]
  exact hP _ f1
end
end
section
set_option maxHeartbeats 8000000
section
variable {k:Nat} {h:Hp} {P:AV→Hp→Prop} {x q:Nat} {v:CV} {L:List Int}
theorem bcB_eq (q x:Nat) (L:List Int):bcB q x L=197::3::0::64::q::(ieB x L).length::(ieB x L++[0]):=by simp [bcB]
theorem decf_ok (hq:q<256) (hx:x<1099511627776) (hL:∀ x∈L,0≤x∧x≤255) (hl:L.length≤16) (hv:SL h 1 v ((apx (bcB q x L)).map eB)) (hc:CapL v)
 (hP:∀ h' o w,SL h' 5 o (bR x w)→Fn h h'→P (.tup [.agg [.int .i64 3,.int .i64 0,.int .i64 64,.int .i64 q,o,.nils],.c (.int .i64 0)]) h'):callW N (k+5) 264 [.c v] h P:=by
 have hbl:=bcB_lt (q:=q) (x:=x) hq hL hl
 have hil:=ieB_len x L
 have hib:=ieB_lt (x:=x) hL hl
 have hll:(bcB q x L).length=18+L.length:=by rw [bcB_eq];simp only [List.length_cons,List.length_append,List.length_nil];omega
 have hal:(apx (bcB q x L)).length=20+L.length:=by simp only [apx,List.length_append,List.length_cons,List.length_nil];omega
 have hlen:∀ h':Hp,lenT h' .sl (.v (.c v))=some ((20+L.length:Nat):Int):=fun h'=>by rw [hv.len h',List.length_map,hal]
 have c9:¬((20+L.length:Nat):Int)<9:=by omega
 have w2:IntKind.wrap .i64 (((20+L.length:Nat):Int)-2)=((18+L.length:Nat):Int):=by rw [wrap_i64 (by omega)];omega
 have q1:((1:Nat):Int)=1:=rfl
 have q3:((3:Nat):Int)=3:=rfl
 have q0:((0:Nat):Int)=0:=rfl
 have q64:((64:Nat):Int)=64:=rfl
 have q197:((197:Nat):Int)=197:=rfl
 refine call_intro rfl (by simp only [List.length_cons,List.length_nil];omega) ?_
 rw [a_fin]
 unfold n264b
 obtain ⟨h1,hh1⟩:∃ g,g=h.push (.rows true 6 0 0 [[.int .i64 0,.int .i64 0,.int .i64 0,.int .i64 0,.nils,.nils]]):=⟨_,rfl⟩
 have g1:h1.g h.n=some (.rows true 6 0 0 [[.int .i64 0,.int .i64 0,.int .i64 0,.int .i64 0,.nils,.nils]]):=by rw [hh1,g_push_eq]
 have f1:Fn h h1:=by rw [hh1];exact Fm.push _ _ _
 simp (maxSteps:=200000) -implicitDefEqProofs only [KA,KB,KC,KD,KE,KF,eq_self,ne_eq,↓reduceIte,Nat.reduceLT,Nat.reduceEqDiff,Nat.reduceAdd,Nat.reduceLeDiff,Nat.reduceSub,Nat.reduceMul,reduceCtorEq,hh1.symm,hlen,c9]
 refine rgood_ok (k:=k+1) (hv.new f1) hc (by rw [bcB_eq];simp) hbl (by omega) fun h2 f2=>?_
 obtain ⟨v1,s1,s2,s3,s4⟩:=((hv.new f1).new f2).firstB hc (by decide) (m:=((18+L.length:Nat):Int)) (by rw [List.length_map,hal];omega)
 rw [Int.toNat_natCast,←List.map_take] at s2
 have htk:(apx (bcB q x L)).take (18+L.length)=bcB q x L:=by rw [←hll];simp [apx]
 rw [htk,bcB_eq] at s2
 obtain ⟨h3,hh3⟩:∃ g,g=h2.push (.rows true 2 0 0 [[v1,.int .i64 0]]):=⟨_,rfl⟩
 have f3:Fn h2 h3:=by rw [hh3];exact Fm.push _ _ _
 have r3:Rdr h3 h2.n (197::3::0::64::q::(ieB x L).length::(ieB x L++[0])):=⟨v1,by rw [hh3,g_push_eq],s2.new f3,s3,s2.lt⟩
 have le:∀ c∈ieB x L++[0],c<256:=fun c hc=>by
  rcases List.mem_append.mp hc with hc|hc
  ·exact hib c hc
  ·simp at hc;omega
 have l1:∀ c∈(ieB x L).length::(ieB x L++[0]),c<256:=fun c hc=>by
  rcases List.mem_cons.mp hc with rfl|hc
  ·omega
  ·exact le c hc
 have l2:∀ c∈q::(ieB x L).length::(ieB x L++[0]),c<256:=fun c hc=>by
  rcases List.mem_cons.mp hc with rfl|hc
  ·exact hq
  ·exact l1 c hc
 have l3:∀ c∈64::q::(ieB x L).length::(ieB x L++[0]),c<256:=fun c hc=>by
  rcases List.mem_cons.mp hc with rfl|hc
  ·omega
  ·exact l2 c hc
 have l4:∀ c∈0::64::q::(ieB x L).length::(ieB x L++[0]),c<256:=fun c hc=>by
  rcases List.mem_cons.mp hc with rfl|hc
  ·omega
  ·exact l3 c hc
 have l5:∀ c∈3::0::64::q::(ieB x L).length::(ieB x L++[0]),c<256:=fun c hc=>by
  rcases List.mem_cons.mp hc with rfl|hc
  ·omega
  ·exact l4 c hc
 have ll:(ieB x L++[0]).length=12+L.length:=by rw [List.length_append,List.length_singleton];omega
 simp (maxSteps:=200000) -implicitDefEqProofs only [KA,KB,KC,KD,KE,KF,eq_self,ne_eq,↓reduceIte,Nat.reduceLT,Nat.reduceEqDiff,Nat.reduceAdd,Nat.reduceLeDiff,Nat.reduceSub,Nat.reduceMul,reduceCtorEq,hlen,w2,s1,hh3.symm]
 refine u8_ok (k:=k+1) (c:=197) r3 (by simp only [List.length_cons,ll];omega) (by omega) l5 fun h4 r4 f4=>?_
 simp (maxSteps:=200000) -implicitDefEqProofs only [KA,KB,KC,KD,KE,KF,eq_self,ne_eq,↓reduceIte,Nat.reduceLT,Nat.reduceEqDiff,Nat.reduceAdd,Nat.reduceLeDiff,Nat.reduceSub,Nat.reduceMul,reduceCtorEq,q197]
 refine u8_ok (k:=k+1) (c:=3) r4 (by simp only [List.length_cons,ll];omega) (by omega) l4 fun h5 r5 f5=>?_
 simp (maxSteps:=200000) -implicitDefEqProofs only [KA,KB,KC,KD,KE,KF,eq_self,ne_eq,↓reduceIte,Nat.reduceLT,Nat.reduceEqDiff,Nat.reduceAdd,Nat.reduceLeDiff,Nat.reduceSub,Nat.reduceMul,reduceCtorEq,q3]
 refine u8_ok (k:=k+1) (c:=0) r5 (by simp only [List.length_cons,ll];omega) (by omega) l3 fun h6 r6 f6=>?_
 simp (maxSteps:=200000) -implicitDefEqProofs only [KA,KB,KC,KD,KE,KF,eq_self,ne_eq,↓reduceIte,Nat.reduceLT,Nat.reduceEqDiff,Nat.reduceAdd,Nat.reduceLeDiff,Nat.reduceSub,Nat.reduceMul,reduceCtorEq,q0]
 refine u8_ok (k:=k+1) (c:=64) r6 (by simp only [List.length_cons,ll];omega) (by omega) l2 fun h7 r7 f7=>?_
 simp (maxSteps:=200000) -implicitDefEqProofs only [KA,KB,KC,KD,KE,KF,eq_self,ne_eq,↓reduceIte,Nat.reduceLT,Nat.reduceEqDiff,Nat.reduceAdd,Nat.reduceLeDiff,Nat.reduceSub,Nat.reduceMul,reduceCtorEq,q64]
 refine u8_ok (k:=k+1) (c:=q) r7 (by simp only [List.length_cons,ll];omega) (by omega) l1 fun h8 r8 f8=>?_
 simp (maxSteps:=200000) -implicitDefEqProofs only [KA,KB,KC,KD,KE,KF,eq_self,ne_eq,↓reduceIte,Nat.reduceLT,Nat.reduceEqDiff,Nat.reduceAdd,Nat.reduceLeDiff,Nat.reduceSub,Nat.reduceMul,reduceCtorEq]
 refine u8_ok (k:=k+1) (c:=(ieB x L).length) r8 (by rw [ll];omega) (by omega) le fun h9 r9 f9=>?_
 simp (maxSteps:=200000) -implicitDefEqProofs only [KA,KB,KC,KD,KE,KF,eq_self,ne_eq,↓reduceIte,Nat.reduceLT,Nat.reduceEqDiff,Nat.reduceAdd,Nat.reduceLeDiff,Nat.reduceSub,Nat.reduceMul,reduceCtorEq]
 refine raw_ok (k:=k+3) (m:=(ieB x L).length) r9 (by rw [ll];omega) (by rw [ll];omega) fun h10 u k10 c10 r10 f10 _=>?_
 have t10:(ieB x L++[0]).take (ieB x L).length=ieB x L:=by simp
 have d10:(ieB x L++[0]).drop (ieB x L).length=[0]:=by simp
 rw [t10] at k10
 rw [d10] at r10
 simp (maxSteps:=200000) -implicitDefEqProofs only [KA,KB,KC,KD,KE,KF,eq_self,ne_eq,↓reduceIte,Nat.reduceLT,Nat.reduceEqDiff,Nat.reduceAdd,Nat.reduceLeDiff,Nat.reduceSub,Nat.reduceMul,reduceCtorEq]
 refine u8_ok (k:=k+1) (c:=0) r10 (by simp) (by omega) (by simp) fun h11 r11 f11=>?_
 simp (maxSteps:=200000) -implicitDefEqProofs only [KA,KB,KC,KD,KE,KF,eq_self,ne_eq,↓reduceIte,Nat.reduceLT,Nat.reduceEqDiff,Nat.reduceAdd,Nat.reduceLeDiff,Nat.reduceSub,Nat.reduceMul,reduceCtorEq]
 refine raw_ok (k:=k+3) (m:=0) r11 (by simp) (by simp) fun h12 u2 k12 c12 r12 f12 e12=>?_
 have:u2 = .nils:=e12 rfl
 subst this
 simp (maxSteps:=200000) -implicitDefEqProofs only [KA,KB,KC,KD,KE,KF,eq_self,ne_eq,↓reduceIte,Nat.reduceLT,Nat.reduceEqDiff,Nat.reduceAdd,Nat.reduceLeDiff,Nat.reduceSub,Nat.reduceMul,reduceCtorEq,q0]
 refine end_ok (k:=k+3) (by simpa using r12) ?_
 simp (maxSteps:=200000) -implicitDefEqProofs only [KA,KB,KC,KD,KE,KF,eq_self,ne_eq,↓reduceIte,Nat.reduceLT,Nat.reduceEqDiff,Nat.reduceAdd,Nat.reduceLeDiff,Nat.reduceSub,Nat.reduceMul,reduceCtorEq]
 have fr:Fm (fun j=>j=h2.n) h3 h12:=f4.trans (f5.trans (f6.trans (f7.trans (f8.trans (f9.trans (f10.trans (f11.trans f12)))))))
 have k12':SL h12 1 u ((ieB x L).map eB):=k10.mono (f11.trans f12) (by
  rintro id tok off len cap rfl rfl
  obtain ⟨wr,cur,lw,rs,e1,_⟩:=k10
  obtain ⟨uu,e2,_⟩:=r10
  rw [e2] at e1
  cases e1)
 refine decies_ok (k:=k) hx k12' c10 hL hl fun h13 o w k13 k14 f13=>?_
 simp (maxSteps:=200000) -implicitDefEqProofs only [KA,KB,KC,KD,KE,KF,eq_self,ne_eq,↓reduceIte,Nat.reduceLT,Nat.reduceEqDiff,Nat.reduceAdd,Nat.reduceLeDiff,Nat.reduceSub,Nat.reduceMul,reduceCtorEq,q0]
 refine rmayf_ok (k:=k+1) (a:=x) (by omega) (by omega) k14 hL hl k13 fun h14 f14=>?_
 have n1:h1.n=h.n+1:=by rw [hh1,n_push]
 have n2:=f2.n
 have fall:Fm (fun j=>j=h2.n) h1 h14:=((f2.trans f3).mono (fun _ _ e=>e.elim)).trans (fr.trans ((f13.trans f14).mono (fun _ _ e=>e.elim)))
 have g14:h14.g h.n=some (.rows true 6 0 0 [[.int .i64 0,.int .i64 0,.int .i64 0,.int .i64 0,.nils,.nils]]):=fall.some g1 (by omega)
 simp (maxSteps:=200000) -implicitDefEqProofs only [KA,KB,KC,KD,KE,KF,eq_self,ne_eq,↓reduceIte,Nat.reduceLT,Nat.reduceEqDiff,Nat.reduceAdd,Nat.reduceLeDiff,Nat.reduceSub,Nat.reduceMul,reduceCtorEq,g14,fz_r,fz_n]
 refine hP _ o w ((k13.new f14).mono (Fm.put (S:=fun j=>j=h.n) _ _ rfl) ?_) ?_
 ·rintro id tok off len cap rfl rfl
  obtain ⟨wr,cur,lw,rs,e1,_⟩:=k13.new f14
  rw [g14] at e1
  cases e1
 ·exact (f1.fresh (fall.trans (S:=fun j=>j=h2.n) (Fm.refl _ _)) (fun j e=>by omega)).fresh (Fm.put (S:=fun j=>j=h.n) _ _ rfl) (fun j e=>by omega)
end
end
end Camp
