/- Bits of numbers, parts of slices. Numbers from 0 on: and, or, xor, shifts; sums of bytes. Sums of bytes: the reference's; bytes and their sum behind them; copies. The writer of bits, where it stands at whole bytes. The writer of bits: bytes; what it holds. Elements: what is the same, what may be. -/
import Derived.Test.YtjcbeikfobfjmaaGreatUseB
import Derived.Test.YtjcbeikfobfjmaaGreatCode
set_option linter.unnecessarySimpa false
set_option linter.unusedVariables false
set_option linter.unusedSimpArgs false
set_option linter.unusedSectionVars false
namespace Camp
open Go
open Nat (reduceLT reduceEqDiff reduceAdd reduceLeDiff reduceSub reduceMul)
section
set_option maxHeartbeats 4000000
theorem wrapU {k:IntKind} (hk:k.signed=false) {n:Nat} (h:n<2 ^ k.bits):k.wrap (n:Int)=(n:Int):=by
 unfold IntKind.wrap
 rw [hk]
 simp only [Bool.false_and,Bool.false_eq_true,if_false]
 have:((2:Int) ^ k.bits)=((2 ^ k.bits:Nat):Int):=by simp
 rw [this,←Int.natCast_emod,Nat.mod_eq_of_lt h]
theorem and_k {k:IntKind} (hk:k.signed=false) {a b:Nat} (ha:a<2 ^ k.bits) (hb:b<2 ^ k.bits):k.wrap ((BitVec.ofInt k.bits (a:Int) &&& BitVec.ofInt k.bits (b:Int)).toNat:Nat)=((a &&& b:Nat):Int):=by
 have h:(BitVec.ofInt k.bits (a:Int) &&& BitVec.ofInt k.bits (b:Int)).toNat=a &&& b:=by simp [BitVec.toNat_and,Nat.mod_eq_of_lt ha,Nat.mod_eq_of_lt hb]
 rw [h]
 exact wrapU hk (Nat.and_lt_two_pow _ hb)
theorem or_k {k:IntKind} (hk:k.signed=false) {a b:Nat} (ha:a<2 ^ k.bits) (hb:b<2 ^ k.bits):k.wrap ((BitVec.ofInt k.bits (a:Int) ||| BitVec.ofInt k.bits (b:Int)).toNat:Nat)=((a ||| b:Nat):Int):=by
 have h:(BitVec.ofInt k.bits (a:Int) ||| BitVec.ofInt k.bits (b:Int)).toNat=a ||| b:=by simp [BitVec.toNat_or,Nat.mod_eq_of_lt ha,Nat.mod_eq_of_lt hb]
 rw [h]
 exact wrapU hk (Nat.or_lt_two_pow ha hb)
theorem xor_k {k:IntKind} (hk:k.signed=false) {a b:Nat} (ha:a<2 ^ k.bits) (hb:b<2 ^ k.bits):k.wrap ((BitVec.ofInt k.bits (a:Int) ^^^ BitVec.ofInt k.bits (b:Int)).toNat:Nat)=((a ^^^ b:Nat):Int):=by
 have h:(BitVec.ofInt k.bits (a:Int) ^^^ BitVec.ofInt k.bits (b:Int)).toNat=a ^^^ b:=by simp [BitVec.toNat_xor,Nat.mod_eq_of_lt ha,Nat.mod_eq_of_lt hb]
 rw [h]
 exact wrapU hk (Nat.xor_lt_two_pow ha hb)
theorem and_u16 {a b:Nat} (ha:a<65536) (hb:b<65536):IntKind.wrap .u16 ((BitVec.ofInt (IntKind.bits .u16) (a:Int) &&& BitVec.ofInt (IntKind.bits .u16) (b:Int)).toNat:Nat)=((a &&& b:Nat):Int):=and_k rfl ha hb
theorem xor_u16 {a b:Nat} (ha:a<65536) (hb:b<65536):IntKind.wrap .u16 ((BitVec.ofInt (IntKind.bits .u16) (a:Int) ^^^ BitVec.ofInt (IntKind.bits .u16) (b:Int)).toNat:Nat)=((a ^^^ b:Nat):Int):=xor_k rfl ha hb
theorem shr_n (ty:TK) (k k2:IntKind) (a s:Nat) (hs:s≤k.bits):binC .shr ty (.int k (a:Int)) (.int k2 (s:Int))=some (.int k ((a / 2 ^ s:Nat):Int)):=by
 have h0:¬((s:Int)<0):=by omega
 show shiftBin .shr k (a:Int) (s:Int)=_
 unfold shiftBin
 rw [if_neg h0]
 simp only [Int.toNat_natCast,Nat.min_eq_left hs]
 rw [show ((2:Int) ^ s)=((2 ^ s:Nat):Int) by simp,Int.fdiv_eq_ediv_of_nonneg _ (Int.natCast_nonneg _)]
 simp
def Bf (base:Nat) (v:CV):Prop:=∀ id tok off len cap,v = .sl id tok off len cap→id<base
theorem SL.bf {base:Nat} {h h':Hp} {sz:Nat} {v:CV} {rows:List (List CV)} (k:SL h sz v rows) (hb:Bf base v) (f:Fm (fun j=>base≤j) h h'):SL h' sz v rows:=
 k.mono f (fun id tok off len cap e=>by have:=hb _ _ _ _ _ e;omega)
theorem SL.lt {h:Hp} {sz:Nat} {v:CV} {rows:List (List CV)} (k:SL h sz v rows):Bf h.n v:=by
 rintro id tok off len cap rfl
 obtain ⟨wr,cur,lw,rs,h1,_⟩:=k
 exact lt_of_g h1
theorem SL.rest {h:Hp} {sz:Nat} {v:CV} {rows:List (List CV)} (k:SL h sz v rows) (hc:CapL v) (h0:0<sz) {m:Int} (hm:0≤m∧m≤rows.length) :
 ∃ v',sliceT h sz (.v (.c v)) (some m) none none=some v'∧SL h sz v' (rows.drop m.toNat)∧CapL v'∧∀ b,Bf b v→Bf b v':=by
 cases v <;> simp only [SL] at k
 case nils=>
  subst k
  have:m=0:=by simp at hm;omega
  subst this
  refine ⟨.nils,?_,?_,by rintro _ _ _ _ _ ⟨⟩,fun b h=>h⟩
  ·simp [sliceT,sliceV,h0]
  ·simp [SL]
 case sl id tok off len cap=>
  obtain ⟨wr,cur,lw,rs,h1,h2,h3,rfl⟩:=k
  have hl:((rs.drop off).take len).length=len:=by rw [List.length_take,List.length_drop];omega
  rw [hl] at hm
  refine ⟨.sl id tok (off+m.toNat) (len-m.toNat) (cap.map (· - m.toNat)),?_,?_,?_,?_⟩
  ·simp only [sliceT,sliceV,g_def,h1]
   rw [if_pos ⟨h0,trivial,h2⟩]
   unfold sliceB
   rw [if_pos]
   ·simp
   ·have:len≤cap.getD len:=by
     cases cap with
     | none=>exact Nat.le_refl _
     | some c=>exact hc _ _ _ _ _ rfl
    simp
    omega
  ·refine ⟨wr,cur,lw,rs,h1,h2,by omega,?_⟩
   rw [List.drop_take,List.drop_drop]
  ·rintro _ _ _ _ c he
   injection he with _ _ _ e1 e2
   cases cap with
   | none=>cases e2
   | some q=>
    have:=hc _ _ _ _ _ rfl
    simp at e2
    omega
  ·intro b hb i t o l c he
   injection he with e1
   subst e1
   exact hb _ _ _ _ _ rfl
theorem SL.firstB {h:Hp} {sz:Nat} {v:CV} {rows:List (List CV)} (k:SL h sz v rows) (hc:CapL v) (h0:0<sz) {m:Int} (hm:0≤m∧m≤rows.length) :
 ∃ v',sliceT h sz (.v (.c v)) none (some m) none=some v'∧SL h sz v' (rows.take m.toNat)∧CapL v'∧∀ b,Bf b v→Bf b v':=by
 cases v <;> simp only [SL] at k
 case nils=>
  subst k
  have:m=0:=by simp at hm;omega
  subst this
  refine ⟨.nils,?_,?_,by rintro _ _ _ _ _ ⟨⟩,fun b h=>h⟩
  ·simp [sliceT,sliceV,h0]
  ·simp [SL]
 case sl id tok off len cap=>
  obtain ⟨wr,cur,lw,rs,h1,h2,h3,rfl⟩:=k
  have hl:((rs.drop off).take len).length=len:=by rw [List.length_take,List.length_drop];omega
  rw [hl] at hm
  have hcap:len≤cap.getD len:=by
   cases cap with
   | none=>exact Nat.le_refl _
   | some c=>exact hc _ _ _ _ _ rfl
  refine ⟨.sl id tok off m.toNat cap,?_,?_,?_,?_⟩
  ·simp only [sliceT,sliceV,g_def,h1]
   rw [if_pos ⟨h0,trivial,h2⟩]
   unfold sliceB
   rw [if_pos]
   ·simp
   ·simp
    omega
  ·refine ⟨wr,cur,lw,rs,h1,h2,by omega,?_⟩
   rw [List.take_take,Nat.min_eq_left (by omega)]
  ·rintro _ _ _ _ c he
   injection he with _ _ _ e1 e2
   subst e2
   have:=hc _ _ _ _ _ rfl
   omega
  ·intro b hb i t o l c he
   injection he with e1
   subst e1
   exact hb _ _ _ _ _ rfl
theorem u8_mod (n:Nat):IntKind.wrap .u8 (n:Int)=((n % 256:Nat):Int):=by
 simp [IntKind.wrap,IntKind.signed,IntKind.bits]
theorem tmod_nat (a b:Nat):Int.tmod (a:Int) (b:Int)=((a % b:Nat):Int):=by
 rw [Int.tmod_eq_emod_of_nonneg (by omega)];simp
theorem tdiv_nat (a b:Nat):Int.tdiv (a:Int) (b:Int)=((a / b:Nat):Int):=by
 rw [Int.tdiv_eq_ediv_of_nonneg (by omega)];simp
end
section
set_option maxHeartbeats 4000000
def crc1 (s:Nat):Nat:=if s % 2=1 then (s / 2) ^^^ 33800 else s / 2
def crcN (s:Nat):Nat→Nat
 | 0=>s
 | n+1=>crc1 (crcN s n)
def crcS (s:Nat) (L:List Nat):Nat:=L.foldl (fun s c=>crcN (s ^^^ c) 8) s
theorem crc1_lt {s:Nat} (h:s<65536):crc1 s<65536:=by
 unfold crc1
 split
 ·exact Nat.xor_lt_two_pow (n:=16) (by omega) (by omega)
 ·omega
theorem crcN_lt {s:Nat} (h:s<65536):∀ n,crcN s n<65536
 | 0=>h
 | n+1=>crc1_lt (crcN_lt h n)
theorem crcS_lt {s:Nat} (h:s<65536):∀ L:List Nat,(∀ c∈L,c<256)→crcS s L<65536:=by
 intro L
 induction L generalizing s with
 | nil=>intro _;exact h
 | cons c L ih=>
  intro hL
  have hc:=hL c (by simp)
  exact ih (crcN_lt (Nat.xor_lt_two_pow (n:=16) h (by omega)) 8) (fun c hc=>hL c (by simp [hc]))
theorem crcS_snoc (s:Nat) (L:List Nat) (c:Nat):crcS s (L++[c])=crcN (crcS s L ^^^ c) 8:=by simp [crcS]
def eB (b:Nat):List CV:=[.int .u8 (b:Int)]
section
variable {k:Nat} {h:Hp} {P:AV→Hp→Prop}
theorem bytes_at {v:CV} {L:List Nat} (hv:SL h 1 v (L.map eB)) {i:Nat} (hi:i<L.length) :
 ∃ id tok j,iaddrT h 1 (.v (.c v)) (i:Int)=some (.v (.c (.ptr id tok j 0)))∧rowO (h.g id) tok j=some [.int .u8 ((L[i]:Nat):Int)]:=by
 have:=hv.at (i:=(i:Int)) (r:=eB L[i]) (by omega) (by simp [hi])
 exact this
def ScI (h:Hp) (L:List Nat) (v:CV) (n:Nat) (s:St):Prop:=∃ (i:Nat) (l:List (Nat × TV)) (lc:List (List CV)),s=ST 28 l lc h∧i≤L.length∧n=L.length-i∧
 lk l 3 = .v (.c (.int .u16 (crcS 0 (L.take i):Nat)))∧lk l 6 = .v (.c v)∧lk l 7 = .v (.c (.int .i64 L.length))∧lk l 8 = .v (.c (.int .i64 i))
def ScJ (h:Hp) (L:List Nat) (v:CV) (i s0 n:Nat) (s:St):Prop:=∃ (j:Nat) (l:List (Nat × TV)) (lc:List (List CV)),s=ST 28 l lc h∧j≤8∧n=8-j∧
 lk l 3 = .v (.c (.int .u16 (crcN s0 j:Nat)))∧lk l 6 = .v (.c v)∧lk l 7 = .v (.c (.int .i64 L.length))∧lk l 8 = .v (.c (.int .i64 i))∧lk l 16 = .v (.c (.int .i64 j))
theorem sum_ok {v:CV} {L:List Nat} (hv:SL h 1 v (L.map eB)) (hL:∀ c∈L,c<256) (hn:L.length≤1000000) (hP:P (.c (.int .u16 (crcS 0 L:Nat))) h):callW N (k+1) 324 [.c v] h P:=by
 refine ci rfl ?_
 have hlen:∀ h',lenT h' .sl (.v (.c v))=some (L.length:Int):=fun h'=>by rw [hv.len h',List.length_map]
 simp only [KK,↓reduceIte,reduceLT,reduceEqDiff,reduceCtorEq,hlen]
 refine loop_rd (callW_mono N _) (ScI h L v) (n:=L.length) ?_ ?_
 ·exact ⟨0,_,_,rfl,Nat.zero_le _,rfl,rfl,rfl,rfl,rfl⟩
 ·rintro n s ⟨i,l,lc,rfl,hi,rfl,e3,e6,e7,e8⟩
  by_cases hlt:i<L.length
  ·obtain ⟨id,tok,j,k1,k2⟩:=bytes_at hv hlt
   have c1:((i:Int)<(L.length:Int)):=by omega
   have hc:=hL _ (List.getElem_mem hlt)
   have hs:=crcS_lt (s:=0) (by omega) (L.take i) (fun c hc=>hL c (List.mem_of_mem_take hc))
   have w1:IntKind.wrap .u16 ((L[i]:Nat):Int)=((L[i]:Nat):Int):=wrapU rfl (by show L[i]<65536;omega)
   have x1:=xor_u16 hs (show L[i]<65536 by omega)
   simp only [KK,↓reduceIte,reduceLT,reduceEqDiff,e3,e6,e7,e8,c1,k1,k2,w1,x1]
   refine loop_rd (callW_mono N _) (ScJ h L v i (crcS 0 (L.take i) ^^^ L[i])) (n:=8) ?_ ?_
   ·exact ⟨0,_,_,rfl,by omega,rfl,rfl,rfl,rfl,rfl,rfl⟩
   ·rintro n s ⟨j,l,lc,rfl,hj,rfl,f3,f6,f7,f8,f16⟩
    have hq:crcN (crcS 0 (L.take i) ^^^ L[i]) j<65536:=crcN_lt (Nat.xor_lt_two_pow (n:=16) hs (by omega)) j
    have hnx:crcN (crcS 0 (L.take i) ^^^ L[i]) (j+1)=crc1 (crcN (crcS 0 (L.take i) ^^^ L[i]) j):=rfl
    generalize hs0:crcS 0 (L.take i) ^^^ L[i] = s0 at *
    generalize hqq:crcN s0 j=q at *
    by_cases hjt:j<8
    ·have c2:((j:Int)<8):=by omega
     have r1:binC .shr .num (.int .u16 (q:Int)) (.int .u64 1)=some (.int .u16 ((q / 2:Nat):Int)):=shr_n .num .u16 .u64 q 1 (by decide)
     have a1:IntKind.wrap .u16 ((BitVec.ofInt (IntKind.bits .u16) (q:Int) &&& BitVec.ofInt (IntKind.bits .u16) 1).toNat:Nat)=((q &&& 1:Nat):Int):=and_u16 (a:=q) (b:=1) hq (by decide)
     have w2:=wi1 j (by omega)
     have hm:q &&& 1=q % 2:=Nat.and_one_is_mod q
     rw [hm] at a1
     have a2:∀ b:Nat,b<65536→IntKind.wrap .u16 ((BitVec.ofInt (IntKind.bits .u16) (33800:Int) &&& BitVec.ofInt (IntKind.bits .u16) (b:Int)).toNat:Nat)=((33800 &&& b:Nat):Int):=fun b hb=>and_u16 (a:=33800) (b:=b) (by decide) hb
     have hs2:q / 2<65536:=by omega
     rcases Nat.mod_two_eq_zero_or_one q with h2|h2
     ·have n1:IntKind.wrap .u16 (0-((0:Nat):Int))=((0:Nat):Int):=by decide
      have a3:=a2 0 (by decide)
      rw [show (33800 &&& 0:Nat)=0 by decide] at a3
      have x2:=xor_u16 (a:=q / 2) (b:=0) hs2 (by decide)
      rw [Nat.xor_zero] at x2
      rw [h2] at a1
      have hc1:crc1 q=q / 2:=by unfold crc1;rw [if_neg (by omega)]
      simp only [KK,↓reduceIte,reduceLT,reduceEqDiff,f3,f6,f7,f8,f16,c2,r1,a1,n1,a3,x2,w2]
      refine ⟨8-(j+1),by omega,j+1,_,_,rfl,by omega,rfl,?_,rfl,rfl,rfl,rfl⟩
      rw [hnx,hc1];rfl
     ·have n1:IntKind.wrap .u16 (0-((1:Nat):Int))=((65535:Nat):Int):=by decide
      have a3:=a2 65535 (by decide)
      rw [show (33800 &&& 65535:Nat)=33800 by decide] at a3
      have x2:=xor_u16 (a:=q / 2) (b:=33800) hs2 (by decide)
      rw [h2] at a1
      have hc1:crc1 q=(q / 2) ^^^ 33800:=by unfold crc1;rw [if_pos h2]
      simp only [KK,↓reduceIte,reduceLT,reduceEqDiff,f3,f6,f7,f8,f16,c2,r1,a1,n1,a3,x2,w2]
      refine ⟨8-(j+1),by omega,j+1,_,_,rfl,by omega,rfl,?_,rfl,rfl,rfl,rfl⟩
      rw [hnx,hc1];rfl
    ·have c2:¬((j:Int)<8):=by omega
     have w3:=wi1 i (by omega)
     simp only [KK,↓reduceIte,reduceLT,reduceEqDiff,f3,f6,f7,f8,f16,c2,w3]
     refine ⟨L.length-(i+1),by omega,i+1,_,_,rfl,by omega,rfl,?_,rfl,rfl,rfl⟩
     have hj8:j=8:=by omega
     subst hj8
     rw [List.take_add_one,List.getElem?_eq_getElem hlt,Option.toList_some,crcS_snoc,←hqq,hs0]
     rfl
  ·have c1:¬((i:Int)<(L.length:Int)):=by omega
   have hi2:i=L.length:=by omega
   rw [List.take_of_length_le (by omega)] at e3
   simp only [KK,↓reduceIte,reduceLT,reduceEqDiff,e3,e6,e7,e8,c1]
   exact hP
end
end
section
set_option maxHeartbeats 4000000
section
variable {k:Nat} {h:Hp} {P:AV→Hp→Prop}
def RcI (h:Hp) (L:List Nat) (v:CV) (n:Nat) (s:St):Prop:=∃ (i:Nat) (l:List (Nat × TV)) (lc:List (List CV)),s=ST 29 l lc h∧i≤L.length∧n=L.length-i∧
 lk l 3 = .v (.c (.int .u16 (crcS 0 (L.take i):Nat)))∧lk l 6 = .v (.c v)∧lk l 7 = .v (.c (.int .i64 L.length))∧lk l 8 = .v (.c (.int .i64 i))
def RcJ (h:Hp) (L:List Nat) (v:CV) (i s0 n:Nat) (s:St):Prop:=∃ (j:Nat) (l:List (Nat × TV)) (lc:List (List CV)),s=ST 29 l lc h∧j≤8∧n=8-j∧
 lk l 3 = .v (.c (.int .u16 (crcN s0 j:Nat)))∧lk l 6 = .v (.c v)∧lk l 7 = .v (.c (.int .i64 L.length))∧lk l 8 = .v (.c (.int .i64 i))∧lk l 16 = .v (.c (.int .i64 j))
theorem rcrc_ok {v:CV} {L:List Nat} (hv:SL h 1 v (L.map eB)) (hL:∀ c∈L,c<256) (hn:L.length≤1000000) (hP:P (.c (.int .u16 (crcS 0 L:Nat))) h):callW N (k+1) 325 [.c v] h P:=by
 refine ci rfl ?_
 have hlen:∀ h',lenT h' .sl (.v (.c v))=some (L.length:Int):=fun h'=>by rw [hv.len h',List.length_map]
 simp only [KK,↓reduceIte,reduceLT,reduceEqDiff,reduceCtorEq,hlen]
 refine loop_rd (callW_mono N _) (RcI h L v) (n:=L.length) ?_ ?_
 ·exact ⟨0,_,_,rfl,Nat.zero_le _,rfl,rfl,rfl,rfl,rfl⟩
 ·rintro n s ⟨i,l,lc,rfl,hi,rfl,e3,e6,e7,e8⟩
  by_cases hlt:i<L.length
  ·obtain ⟨id,tok,j,k1,k2⟩:=bytes_at hv hlt
   have c1:((i:Int)<(L.length:Int)):=by omega
   have hc:=hL _ (List.getElem_mem hlt)
   have hs:=crcS_lt (s:=0) (by omega) (L.take i) (fun c hc=>hL c (List.mem_of_mem_take hc))
   have w1:IntKind.wrap .u16 ((L[i]:Nat):Int)=((L[i]:Nat):Int):=wrapU rfl (by show L[i]<65536;omega)
   have x1:=xor_u16 hs (show L[i]<65536 by omega)
   simp only [KK,↓reduceIte,reduceLT,reduceEqDiff,e3,e6,e7,e8,c1,k1,k2,w1,x1]
   refine loop_rd (callW_mono N _) (RcJ h L v i (crcS 0 (L.take i) ^^^ L[i])) (n:=8) ?_ ?_
   ·exact ⟨0,_,_,rfl,by omega,rfl,rfl,rfl,rfl,rfl,rfl⟩
   ·rintro n s ⟨j,l,lc,rfl,hj,rfl,f3,f6,f7,f8,f16⟩
    have hq:crcN (crcS 0 (L.take i) ^^^ L[i]) j<65536:=crcN_lt (Nat.xor_lt_two_pow (n:=16) hs (by omega)) j
    have hnx:crcN (crcS 0 (L.take i) ^^^ L[i]) (j+1)=crc1 (crcN (crcS 0 (L.take i) ^^^ L[i]) j):=rfl
    generalize hs0:crcS 0 (L.take i) ^^^ L[i] = s0 at *
    generalize hqq:crcN s0 j=q at *
    by_cases hjt:j<8
    ·have c2:((j:Int)<8):=by omega
     have r1:binC .shr .num (.int .u16 (q:Int)) (.int .u64 1)=some (.int .u16 ((q / 2:Nat):Int)):=shr_n .num .u16 .u64 q 1 (by decide)
     have a1:IntKind.wrap .u16 ((BitVec.ofInt (IntKind.bits .u16) (q:Int) &&& BitVec.ofInt (IntKind.bits .u16) 1).toNat:Nat)=((q &&& 1:Nat):Int):=and_u16 (a:=q) (b:=1) hq (by decide)
     have w2:=wi1 j (by omega)
     have hm:q &&& 1=q % 2:=Nat.and_one_is_mod q
     rw [hm] at a1
     have hs2:q / 2<65536:=by omega
     rcases Nat.mod_two_eq_zero_or_one q with h2|h2
     ·rw [h2] at a1
      have z1:¬(((0:Nat):Int)=1):=by decide
      have hc1:crc1 q=q / 2:=by unfold crc1;rw [if_neg (by omega)]
      simp only [KK,↓reduceIte,reduceLT,reduceEqDiff,f3,f6,f7,f8,f16,c2,r1,a1,z1,w2]
      refine ⟨8-(j+1),by omega,j+1,_,_,rfl,by omega,rfl,?_,rfl,rfl,rfl,rfl⟩
      rw [hnx,hc1];rfl
     ·have x2:IntKind.wrap .u16 ((BitVec.ofInt (IntKind.bits .u16) ((q / 2:Nat):Int) ^^^ BitVec.ofInt (IntKind.bits .u16) 33800).toNat:Nat)=((q / 2 ^^^ 33800:Nat):Int):=xor_u16 (a:=q / 2) (b:=33800) hs2 (by decide)
      rw [h2] at a1
      have z1:(((1:Nat):Int)=1):=by decide
      have hc1:crc1 q=(q / 2) ^^^ 33800:=by unfold crc1;rw [if_pos h2]
      simp only [KK,↓reduceIte,reduceLT,reduceEqDiff,f3,f6,f7,f8,f16,c2,r1,a1,z1,x2,w2]
      refine ⟨8-(j+1),by omega,j+1,_,_,rfl,by omega,rfl,?_,rfl,rfl,rfl,rfl⟩
      rw [hnx,hc1];rfl
    ·have c2:¬((j:Int)<8):=by omega
     have w3:=wi1 i (by omega)
     simp only [KK,↓reduceIte,reduceLT,reduceEqDiff,f3,f6,f7,f8,f16,c2,w3]
     refine ⟨L.length-(i+1),by omega,i+1,_,_,rfl,by omega,rfl,?_,rfl,rfl,rfl⟩
     have hj8:j=8:=by omega
     subst hj8
     rw [List.take_add_one,List.getElem?_eq_getElem hlt,Option.toList_some,crcS_snoc,←hqq,hs0]
     rfl
  ·have c1:¬((i:Int)<(L.length:Int)):=by omega
   have hi2:i=L.length:=by omega
   rw [List.take_of_length_le (by omega)] at e3
   simp only [KK,↓reduceIte,reduceLT,reduceEqDiff,e3,e6,e7,e8,c1]
   exact hP
theorem cloneb_ok {v:CV} {L:List Nat} (hs:SL h 1 v (L.map eB)) (h0:L≠[]) (hn:L.length≤1000000)
 (hP:∀ h' u,Ow h' 1 u (L.map eB)→(∀ j,ownId u j→h.n≤j)→Fn h h'→P (.c u) h'):callW N (k+1) 293 [.c v] h P:=by
 cases v <;> simp only [SL] at hs
 case nils=>exact absurd (List.map_eq_nil_iff.mp hs) h0
 case sl id tok off len cap=>
  have hs:SL h 1 (.sl id tok off len cap) (L.map eB):=hs
  obtain ⟨h2,hh2⟩:∃ h2,h2=h.push (.rows true 1 0 0 []):=⟨_,rfl⟩
  have hf2:=pf hh2
  have hn2:h2.n=h.n+1:=by rw [hh2,n_push]
  have hg2:h2.g h.n=some (.rows true 1 0 0 []):=by rw [hh2,g_push_eq]
  have hfold:=hh2.symm
  have hrd:sliceRows h2 [] 1 (.v (.c (.sl id tok off len cap)))=some (L.map eB):=(hs.new hf2).read
  have hl:(L.map eB).length=L.length:=List.length_map ..
  cases L with
  | nil=>exact absurd rfl h0
  | cons y ys=>
   have happ:appT h2 [] 1 1 (.v (.c (.sl h.n 0 0 0 (some 0)))) (.v (.c (.sl id tok off len cap)))=some (.sl h2.n 0 0 ((y::ys).map eB).length none,h2.push (.rows true 1 0 0 ((y::ys).map eB))):=by
    simp only [appT,asC_c,Option.bind_some,hrd]
    simp only [List.map_cons,appRows,g_def,hg2]
    rw [if_pos ⟨trivial,Nat.le_refl _,by simp only [room,List.length_cons,List.length_map] at hn ⊢;omega⟩]
    rw [if_neg (by simp only [List.length_cons];omega)]
    simp only [List.drop_nil,List.take_nil,List.nil_append,Nat.zero_add]
    rfl
   refine ci rfl ?_
   simp only [KK,↓reduceIte,reduceLT,reduceCtorEq,chunks,hfold,happ]
   refine hP _ _ ⟨rfl,rfl,0,_,g_push_eq _ _,Nat.le_refl _,Nat.le_refl _,(List.take_of_length_le (Nat.le_refl _)).symm⟩ ?_ (hf2.trans (Fm.push _ _ _))
   intro j hj
   simp only [ownId] at hj
   omega
def apx (L:List Nat):List Nat:=L++[crcS 0 L % 256,crcS 0 L / 256]
theorem sum_tail {u:CV} {L:List Nat} (ho:Ow h 1 u (L.map eB)) (hn:L.length≤1000000) (s:Nat) (lc:List (List CV)) :
 ∃ u' h',appT h [[.int .u8 ((s % 256:Nat):Int),.int .u8 ((s / 256:Nat):Int)]] 1 1 (.v (.c u)) (.lsl 0 2)=some (u',h')∧Ow h' 1 u' ((L++[s % 256,s / 256]).map eB)∧Fm (ownId u) h h'∧∀ j,ownId u' j→ownId u j∨h.n≤j:=by
 obtain ⟨u',h',g1,g2,g3,g4⟩:=ho.app (lc:=[[.int .u8 ((s % 256:Nat):Int),.int .u8 ((s / 256:Nat):Int)]]) (x:=.lsl 0 2) (xs:=[[.int .u8 ((s % 256:Nat):Int)],[.int .u8 ((s / 256:Nat):Int)]]) rfl (by simp) (bytes:=1)
  (by simp only [room,List.length_map,List.length_cons,List.length_nil];omega)
 exact ⟨u',h',g1,by simpa [eB] using g2,g3,g4⟩
theorem append_ok {v:CV} {L:List Nat} (hv:SL h 1 v (L.map eB)) (h0:L≠[]) (hL:∀ c∈L,c<256) (hn:L.length≤1000000)
 (hP:∀ h' u,SL h' 1 u ((apx L).map eB)→(∀ id tok off len cap,u = .sl id tok off len cap→cap=none)→Fn h h'→P (.c u) h'):callW N (k+2) 300 [.c v] h P:=by
 refine ci rfl ?_
 simp only [KK,↓reduceIte,reduceLT,reduceCtorEq]
 refine sum_ok (k:=k) hv hL hn ?_
 simp only [KK,↓reduceIte,reduceLT,reduceCtorEq]
 refine cloneb_ok (k:=k) hv h0 hn fun h2 u ho hid f2=>?_
 have hlt:=crcS_lt (s:=0) (by omega) L hL
 have w1:=u8_mod (crcS 0 L)
 have w2:=u8_mod (crcS 0 L / 256)
 rw [Nat.mod_eq_of_lt (by omega)] at w2
 have r1:binC .shr .num (.int .u16 ((crcS 0 L:Nat):Int)) (.int .u64 8)=some (.int .u16 ((crcS 0 L / 256:Nat):Int)):=shr_n .num .u16 .u64 (crcS 0 L) 8 (by decide)
 obtain ⟨u',h',g1,g2,g3,g4⟩:=sum_tail ho hn (crcS 0 L) []
 simp only [KK,↓reduceIte,reduceLT,reduceEqDiff,reduceAdd,reduceLeDiff,reduceCtorEq,w1,r1,w2,g1]
 exact hP _ _ g2.sl g2.cap (f2.fresh g3 hid)
theorem rappend_ok {v:CV} {L:List Nat} (hv:SL h 1 v (L.map eB)) (h0:L≠[]) (hL:∀ c∈L,c<256) (hn:L.length≤1000000)
 (hP:∀ h' u,SL h' 1 u ((apx L).map eB)→(∀ id tok off len cap,u = .sl id tok off len cap→cap=none)→Fn h h'→P (.c u) h'):callW N (k+2) 301 [.c v] h P:=by
 refine ci rfl ?_
 simp only [KK,↓reduceIte,reduceLT,reduceCtorEq]
 refine rcrc_ok (k:=k) hv hL hn ?_
 have hlt:=crcS_lt (s:=0) (by omega) L hL
 have w1:=u8_mod (crcS 0 L)
 have w2:=u8_mod (crcS 0 L / 256)
 rw [Nat.mod_eq_of_lt (by omega)] at w2
 have r1:binC .shr .num (.int .u16 ((crcS 0 L:Nat):Int)) (.int .u64 8)=some (.int .u16 ((crcS 0 L / 256:Nat):Int)):=shr_n .num .u16 .u64 (crcS 0 L) 8 (by decide)
 have hne:L.map eB≠[]:=fun e=>h0 (List.map_eq_nil_iff.mp e)
 have on:Ow h 1 .nils ([]:List (List CV)):=rfl
 obtain ⟨u,h2,k1,k2,k3,k4⟩:=on.app (lc:=[]) (x:=.v (.c v)) (xs:=L.map eB) hv.read hne (bytes:=1) (by simp only [room,List.length_map,List.length_nil];omega)
 have hid:∀ j,ownId u j→h.n≤j:=fun j hj=>(k4 j hj).elim (fun e=>e.elim) id
 have f2:Fn h h2:=k3.mono (fun _ _ e=>e.elim)
 obtain ⟨u',h',g1,g2,g3,g4⟩:=sum_tail (L:=L) (by simpa using k2) hn (crcS 0 L) []
 simp only [KK,↓reduceIte,reduceLT,reduceEqDiff,reduceAdd,reduceLeDiff,reduceCtorEq,k1,w1,r1,w2,g1]
 exact hP _ _ g2.sl g2.cap (f2.fresh g3 hid)
end
end
section
set_option maxHeartbeats 4000000
def be:Nat→Nat→List Nat
 | 0,_=>[]
 | m+1,n=>(n / 2 ^ (8 * m) % 256)::be m n
theorem be_len (n:Nat):∀ m,(be m n).length=m
 | 0=>rfl
 | m+1=>by simp [be,be_len n m]
theorem be_lt (n:Nat):∀ m,∀ c∈be m n,c<256
 | 0,c,h=>by cases h
 | m+1,c,h=>by
  rcases List.mem_cons.mp h with rfl|h
  ·omega
  ·exact be_lt n m c h
def Wr (base:Nat) (h:Hp) (w:Nat) (L:List Nat):Prop:=
 base≤w∧∃ u,h.g w=some (.rows true 2 0 0 [[u,.int .i64 (8 * L.length:Nat)]])∧Ow h 1 u (L.map eB)∧∀ j,ownId u j→base≤j∧j≠w
theorem Wr.mono {base:Nat} {h h':Hp} {w:Nat} {L:List Nat} (k:Wr base h w L) (f:Fm (fun j=>j<base) h h'):Wr base h' w L:=by
 obtain ⟨h1,u,g1,g2,g3⟩:=k
 exact ⟨h1,u,f.some g1 (by omega),g2.mono f (fun j hj=>by have:=(g3 j hj).1;omega),g3⟩
theorem Ow.get {h:Hp} {sz:Nat} {v:CV} {rows:List (List CV)} (k:Ow h sz v rows) (hne:rows≠[]) :
 ∃ id tok lw rs,v = .sl id tok 0 rows.length none∧h.g id=some (.rows true sz tok lw rs)∧lw≤tok∧rows.length≤rs.length∧rows=rs.take rows.length:=by
 cases v <;> simp only [Ow] at k
 case nils=>exact absurd k hne
 case sl id tok off len cap=>
  obtain ⟨rfl,rfl,lw,rs,h1,h2,h3,h4⟩:=k
  have hl:rows.length=len:=by rw [h4,List.length_take];omega
  exact ⟨id,tok,lw,rs,by rw [hl],h1,h2,by omega,by rw [hl];exact h4⟩
theorem and_u8 {a:Nat} (ha:a<256):IntKind.wrap .u8 ((BitVec.ofInt (IntKind.bits .u8) (a:Int) &&& BitVec.ofInt (IntKind.bits .u8) 255).toNat:Nat)=(a:Int):=by
 have h:=and_k (k:=.u8) rfl (a:=a) (b:=255) ha (by decide)
 rw [show a &&& 255=a by rw [show 255=2 ^ 8-1 by decide,Nat.and_two_pow_sub_one_eq_mod];exact Nat.mod_eq_of_lt ha] at h
 exact h
theorem or_u8 {a:Nat} (ha:a<256):IntKind.wrap .u8 ((BitVec.ofInt (IntKind.bits .u8) 0 ||| BitVec.ofInt (IntKind.bits .u8) (a:Int)).toNat:Nat)=(a:Int):=by
 have h:=or_k (k:=.u8) rfl (a:=0) (b:=a) (by decide) ha
 rw [Nat.zero_or] at h
 exact h
theorem shl0_u8 {a:Nat} (ha:a<256):binC .shl .num (.int .u8 (a:Int)) (.int .i64 0)=some (.int .u8 (a:Int)):=by
 show some (CV.int .u8 (IntKind.wrap .u8 ((a:Int) * 2 ^ (min (0:Int).toNat 8))))=_
 rw [show (min (0:Int).toNat 8)=0 by decide,Int.pow_zero,Int.mul_one,wrap_u8 (by omega)]
section
variable {k:Nat} {h:Hp} {P:AV→Hp→Prop}
theorem good_ok {n:Int} (h0:0≤n∧n≤64) (hP:P (.c (.bool true)) h):callW N (k+1) 309 [.c (.int .i64 n)] h P:=by
 refine ci rfl ?_
 simp only [KK,↓reduceIte,reduceLT,reduceEqDiff,reduceCtorEq,h0.1,h0.2,hP]
def PtI (base w:Nat) (h0:Hp) (n:Nat) (F:List Nat) (m:Nat) (s:St):Prop:=∃ (D:List Nat) (l:List (Nat × TV)) (lc:List (List CV)) (h':Hp),s=ST 85 l lc h'∧m≤8∧F=D++be m n∧Wr base h' w D∧Fm (fun j=>base≤j) h0 h'∧
 lk l 0 = .v (.c (.ptr w 0 0 0))∧lk l 1 = .v (.c (.int .u64 (n:Nat)))∧lk l 6 = .v (.c (.int .i64 (8 * m:Nat)))
theorem wput_ok {base w n m:Nat} {L:List Nat} (hw:Wr base h w L) (hm:m≤8) (hn:n<2 ^ 64) (hl:L.length≤1000000)
 (hP:∀ h',Wr base h' w (L++be m n)→Fm (fun j=>base≤j) h h'→P (.tup []) h'):callW N (k+2) 290 [.c (.ptr w 0 0 0),.c (.int .u64 (n:Nat)),.c (.int .i64 (8 * m:Nat))] h P:=by
 refine ci rfl ?_
 simp only [KK,↓reduceIte,reduceLT,reduceEqDiff,reduceAdd,reduceCtorEq]
 refine good_ok (k:=k) (by omega) ?_
 simp only [KK,↓reduceIte,reduceLT,reduceEqDiff,reduceCtorEq]
 refine loop_rd (callW_mono N _) (PtI base w h n (L++be m n)) (n:=m) ⟨L,_,_,_,rfl,hm,rfl,hw,Fm.refl _ _,rfl,rfl,rfl⟩ ?_
 rintro m' s ⟨D,l,lc,h1,rfl,hm8,hF,hw1,f1,e0,e1,e6⟩
 have hlen:D.length+m'=L.length+m:=by
  have:=congrArg List.length hF
  simp only [List.length_append,be_len] at this
  omega
 cases m' with
 | zero=>
  have c1:¬(0:Int)<((8 * 0:Nat):Int):=by omega
  simp only [KK,↓reduceIte,reduceLT,reduceEqDiff,reduceMul,reduceCtorEq,e0,e1,e6,c1]
  refine hP _ ?_ f1
  rw [hF]
  simpa [be] using hw1
 | succ m'=>
  have c1:(0:Int)<((8 * (m'+1):Nat):Int):=by omega
  obtain ⟨hb,u,g1,g2,g3⟩:=hw1
  have c2:(((8 * D.length:Nat):Int).tmod 8=0):=by
   rw [show (8:Int)=((8:Nat):Int) from rfl]
   show Int.tmod (((8 * D.length:Nat):Int)) ((8:Nat):Int)=0
   rw [Int.tmod_eq_emod_of_nonneg (by omega)]
   omega
  have z8:¬((8:Int)=0):=by decide
  obtain ⟨u1,h2,k1,k2,k3,k4⟩:=g2.app (lc:=[[.int .u8 0]]) (x:=.lsl 0 1) (xs:=[[.int .u8 0]]) rfl (by simp) (bytes:=1) (by simp only [room,List.length_map,List.length_cons,List.length_nil];omega)
  have hnw:∀ j,ownId u1 j→base≤j∧j≠w:=by
   intro j hj
   rcases k4 j hj with h|h
   ·exact g3 j h
   ·have:=lt_of_g g1;omega
  obtain ⟨id,tok,lw,rs,hu1,gi2,hlw,hrl,hrs⟩:=k2.get (by simp)
  have hlen1:(D.map eB++[[CV.int .u8 0]]).length=D.length+1:=by simp
  rw [hlen1] at hu1 hrl hrs
  subst hu1
  have gw2:h2.g w=some (.rows true 2 0 0 [[u,.int .i64 (8 * D.length:Nat)]]):=k3.some g1 (fun hj=>(g3 w hj).2 rfl)
  obtain ⟨h3,hh3⟩:∃ g,g=h2.put w (.rows true 2 0 0 [[.sl id tok 0 (D.length+1) none,.int .i64 (8 * D.length:Nat)]]):=⟨_,rfl⟩
  have gw3:h3.g w=some (.rows true 2 0 0 [[.sl id tok 0 (D.length+1) none,.int .i64 (8 * D.length:Nat)]]):=by rw [hh3,g_put_eq,gw2];rfl
  have hidw:id≠w:=(hnw id rfl).2
  have hidb:base≤id:=(hnw id rfl).1
  have gi3:h3.g id=some (.rows true 1 tok lw rs):=by rw [hh3,g_put_ne _ _ (fun e=>hidw e.symm)];exact gi2
  have hr0:rs[D.length]? = some [.int .u8 0]:=by
   have h9:(rs.take (D.length+1))[D.length]? = some [.int .u8 0]:=by rw [←hrs];simp
   rw [List.getElem?_take,if_pos (by omega)] at h9
   exact h9
  have hx:n / 2 ^ (8 * m') % 256<256:=by omega
  have ia:=iaS (n:=D.length+1) (i:=(D.length:Int)) gi3 hlw (by omega) none
  rw [Int.toNat_natCast] at ia
  obtain ⟨h4,hh4⟩:∃ g,g=h3.put id (.rows true 1 tok tok (rs.set D.length [.int .u8 ((n / 2 ^ (8 * m') % 256:Nat):Int)])):=⟨_,rfl⟩
  have gi4:h4.g id=some (.rows true 1 tok tok (rs.set D.length [.int .u8 ((n / 2 ^ (8 * m') % 256:Nat):Int)])):=by rw [hh4,g_put_eq,gi3];rfl
  have gw4:h4.g w=some (.rows true 2 0 0 [[.sl id tok 0 (D.length+1) none,.int .i64 (8 * D.length:Nat)]]):=by rw [hh4,g_put_ne _ _ hidw];exact gw3
  have w40:IntKind.wrap .i64 (8-0)=8:=by decide
  have c3:¬((8 * (m'+1):Nat):Int)<8:=by omega
  have m43:min (8:Int) ((8 * (m'+1):Nat):Int)=8:=by omega
  have w47:IntKind.wrap .i64 (((8 * (m'+1):Nat):Int)-8)=((8 * m':Nat):Int):=by rw [wrap_i64 (by omega)];omega
  have r48:=shr_n .num .u64 .i64 n (8 * m') (by show 8 * m'≤64;omega)
  have w49:=u8_mod (n / 2 ^ (8 * m'))
  have s51:binC .shl .num (.int .u8 1) (.int .i64 8)=some (.int .u8 0):=rfl
  have w52:IntKind.wrap .u8 (0-1)=255:=by decide
  have a53:=and_u8 hx
  have hl1:∀ h',lenT h' .sl (.v (.c (.sl id tok 0 (D.length+1) none)))=some ((D.length+1:Nat):Int):=fun _=>rfl
  have w63:IntKind.wrap .i64 (((D.length+1:Nat):Int)-1)=(D.length:Int):=by rw [wrap_i64 (by omega)];omega
  have w69:IntKind.wrap .i64 (8-8)=0:=by decide
  have s70:=shl0_u8 hx
  have o71:=or_u8 hx
  have w79:IntKind.wrap .i64 (((8 * D.length:Nat):Int)+8)=((8 * (D.length+1):Nat):Int):=by rw [wrap_i64 (by omega)];omega
  simp only [KK,↓reduceIte,reduceLT,reduceEqDiff,reduceAdd,reduceLeDiff,reduceCtorEq,e0,e1,e6,c1,g1,c2,z8,k1,gw2,hh3.symm,gw3,w40,w47,r48,w49,s51,w52,a53,m43]
  simp only [KK,↓reduceIte,reduceLT,reduceEqDiff,reduceAdd,reduceCtorEq,hl1,w63,ia,gi3,hlw,hr0,w69,s70,o71,hh4.symm,gw4,w79,w47,rd_n]
  have hset:(rs.set D.length [CV.int .u8 ((n / 2 ^ (8 * m') % 256:Nat):Int)]).take (D.length+1)=(D++[n / 2 ^ (8 * m') % 256]).map eB:=by
   have hT:rs.take D.length=D.map eB:=by
    have h9:=congrArg (List.take D.length) hrs
    rw [List.take_take,Nat.min_eq_left (by omega),List.take_append_of_le_length (by simp),List.take_of_length_le (by simp)] at h9
    exact h9.symm
   rw [List.take_set,take_snoc (x:=[CV.int .u8 0]) hr0,hT]
   have:D.length=(D.map eB).length:=by simp
   rw [this,List.set_append_right _ _ (Nat.le_refl _),Nat.sub_self]
   simp [eB]
  refine ⟨m',by omega,D++[n / 2 ^ (8 * m') % 256],_,_,_,rfl,by omega,by rw [hF];simp [be],?_,?_,rfl,rfl,rfl⟩
  ·refine ⟨hb,.sl id tok 0 (D.length+1) none,?_,?_,hnw⟩
   ·rw [g_put_eq,gw4,List.length_append,List.length_singleton];rfl
   ·refine ⟨rfl,rfl,tok,rs.set D.length [.int .u8 ((n / 2 ^ (8 * m') % 256:Nat):Int)],?_,Nat.le_refl _,by rw [List.length_set];omega,hset.symm⟩
    rw [g_put_ne _ _ (fun e=>hidw e.symm)];exact gi4
  ·refine f1.trans ?_
   refine (k3.mono fun j _ hj=>(g3 j hj).1).trans ?_
   refine (?_:Fm (fun j=>base≤j) h2 h3).trans ((?_:Fm (fun j=>base≤j) h3 h4).trans (Fm.put _ _ hb))
   ·rw [hh3];exact Fm.put _ _ hb
   ·rw [hh4];exact Fm.put _ _ hidb
end
end
section
set_option maxHeartbeats 4000000
section
variable {k:Nat} {h:Hp} {P:AV→Hp→Prop}
theorem be_one {n:Nat} (h:n<256):be 1 n=[n]:=by
 simp [be,Nat.mod_eq_of_lt h]
def TxI (base w:Nat) (h0:Hp) (v:CV) (L B:List Nat) (n:Nat) (s:St):Prop:=∃ (i:Nat) (l:List (Nat × TV)) (lc:List (List CV)) (h':Hp),s=ST 17 l lc h'∧i≤B.length∧n=B.length-i∧Wr base h' w (L++B.take i)∧Fm (fun j=>base≤j) h0 h'∧
 lk l 0 = .v (.c (.ptr w 0 0 0))∧lk l 6 = .v (.c v)∧lk l 7 = .v (.c (.int .i64 B.length))∧lk l 8 = .v (.c (.int .i64 i))
theorem wtext_ok {base w:Nat} {L B:List Nat} {v:CV} (hw:Wr base h w L) (hv:SL h 1 v (B.map eB)) (hb:Bf base v) (hB:∀ c∈B,c<256) (hl:L.length+B.length≤1000000)
 (hP:∀ h',Wr base h' w (L++B)→Fm (fun j=>base≤j) h h'→P (.tup []) h'):callW N (k+3) 291 [.c (.ptr w 0 0 0),.c v] h P:=by
 have hlen:=hv.lm
 refine ci rfl ?_
 simp only [KK,↓reduceIte,reduceLT,reduceEqDiff,reduceAdd,reduceCtorEq,hlen]
 refine loop_rd (callW_mono N _) (TxI base w h v L B) (n:=B.length) ⟨0,_,_,_,rfl,by omega,by omega,by simpa using hw,Fm.refl _ _,rfl,rfl,rfl,rfl⟩ ?_
 rintro n s ⟨i,l,lc,h1,rfl,hi,hn,w1,f1,e0,e6,e7,e8⟩
 by_cases hlt:i<B.length
 ·have c1:((i:Int)<(B.length:Int)):=by omega
  obtain ⟨id,tok,j,k1,k2⟩:=bytes_at (hv.bf hb f1) hlt
  have hc:=hB _ (List.getElem_mem hlt)
  have w2:IntKind.wrap .u64 ((B[i]:Nat):Int)=((B[i]:Nat):Int):=wrap_u64 (by omega)
  have w3:=wi1 i (by omega)
  simp only [KK,↓reduceIte,reduceLT,reduceEqDiff,reduceCtorEq,e0,e6,e7,e8,c1,k1,k2,w2]
  refine wput_ok (k:=k) (m:=1) w1 (by omega) (by omega) (by rw [List.length_append,List.length_take];omega) fun h2 w4 f2=>?_
  simp only [KK,↓reduceIte,reduceLT,reduceEqDiff,reduceCtorEq,w3,rd_n]
  refine ⟨n-1,by omega,i+1,_,_,_,rfl,by omega,by omega,?_,f1.trans f2,rfl,rfl,rfl,rfl⟩
  rw [be_one hc,List.append_assoc] at w4
  rw [List.take_add_one,List.getElem?_eq_getElem hlt,Option.toList_some]
  exact w4
 ·have c1:¬((i:Int)<(B.length:Int)):=by omega
  simp only [KK,↓reduceIte,reduceLT,reduceEqDiff,reduceCtorEq,e0,e6,e7,e8,c1]
  refine hP _ ?_ f1
  rwa [List.take_of_length_le (by omega)] at w1
theorem wbytes_ok {base w:Nat} {L:List Nat} (hw:Wr base h w L) (h0:L≠[]) (hl:L.length≤1000000)
 (hP:∀ h' u,SL h' 1 u (L.map eB)→(∀ j,ownId u j→h.n≤j)→Fn h h'→P (.c u) h'):callW N (k+1) 292 [.c (.ptr w 0 0 0)] h P:=by
 obtain ⟨hb,u,g1,g2,g3⟩:=hw
 have hne:L.map eB≠[]:=fun e=>h0 (List.map_eq_nil_iff.mp e)
 have on:Ow h 1 .nils ([]:List (List CV)):=rfl
 obtain ⟨u',h2,k1,k2,k3,k4⟩:=on.app (lc:=[]) (x:=.v (.c u)) (xs:=L.map eB) g2.sl.read hne (bytes:=1) (by simp only [room,List.length_map,List.length_nil];omega)
 refine ci rfl ?_
 simp only [KK,↓reduceIte,reduceLT,reduceCtorEq,g1,k1]
 exact hP _ _ (by simpa using k2.sl) (fun j hj=>(k4 j hj).elim (fun e=>e.elim) id) (k3.mono (fun _ _ e=>e.elim))
theorem of_sync {a r t:Int} {v:CV} (hP:P (.c (.iface 218 true [.int .i64 a,.int .i64 r])) h):callW N (k+1) 320 [.agg [.int .i64 1,.int .i64 a,.int .i64 r,.int .i64 t,v]] h P:=by
 refine ci rfl ?_
 simp only [KK,↓reduceIte,reduceLT,reduceEqDiff,reduceAdd,reduceLeDiff,hP]
theorem maysync_ok {a r:Int} (ha:0≤a∧a<1099511627776) (hr:0≤r∧r≤255) (hP:P (.c (.bool true)) h):callW N (k+1) 331 [.agg [.int .i64 a,.int .i64 r]] h P:=by
 refine ci rfl ?_
 simp only [KK,↓reduceIte,reduceLT,reduceEqDiff,reduceAdd,ha.1,ha.2,hr.1,hr.2,hP]
theorem wide_ok {x:Int} (hx:0≤x∧x≤255) (hP:P (.c (.bool false)) h):callW N (k+1) 339 [.c (.int .i64 x)] h P:=by
 refine ci rfl ?_
 have c1:¬x<0:=by omega
 have c2:¬255<x:=by omega
 simp only [KK,↓reduceIte,reduceLT,reduceEqDiff,reduceCtorEq,c1,c2,hP]
def IxI (h:Hp) (v:CV) (L:List Int) (n:Nat) (s:St):Prop:=∃ (i:Nat) (l:List (Nat × TV)) (lc:List (List CV)),s=ST 19 l lc h∧i≤L.length∧n=L.length-i∧
 lk l 0 = .v (.c v)∧lk l 1 = .v (.c (.fn 339 []))∧lk l 7 = .v (.c (.int .i64 L.length))∧lk l 8 = .v (.c (.int .i64 i))
theorem nowide_ok {v:CV} {L:List Int} (hv:SL h 1 v (L.map encI)) (hL:∀ x∈L,0≤x∧x≤255) (hl:L.length≤1000000) (hP:P (.c (.int .i64 (-1))) h):callW N (k+2) 328 [.c v,.c (.fn 339 [])] h P:=by
 have hlen:=hv.lm
 refine ci rfl ?_
 simp only [KK,↓reduceIte,reduceLT,reduceEqDiff,reduceAdd,reduceCtorEq,hlen]
 refine loop_rd (callW_mono N _) (IxI h v L) (n:=L.length) ⟨0,_,_,rfl,by omega,by omega,rfl,rfl,rfl,rfl⟩ ?_
 rintro n s ⟨i,l,lc,rfl,hi,hn,e0,e1,e7,e8⟩
 by_cases hlt:(i:Int)<L.length
 ·obtain ⟨y,hy⟩:∃ y,L[i]? = some y:=⟨_,List.getElem?_eq_getElem (by omega)⟩
  obtain ⟨pid,ptok,pj,a1,a2⟩:=hv.at (i:=(i:Int)) (r:=[.int .i64 y]) (by omega) (by simp [encI,hy])
  have w3:=wi1 i (by omega)
  simp only [KK,↓reduceIte,reduceLT,reduceEqDiff,reduceCtorEq,e0,e1,e7,e8,hlt,a1,a2]
  refine wide_ok (k:=k) (hL y (List.mem_of_getElem? hy)) ?_
  simp only [KK,↓reduceIte,reduceLT,reduceEqDiff,reduceCtorEq,w3,rd_n]
  exact ⟨n-1,by omega,i+1,_,_,rfl,by omega,by omega,rfl,rfl,rfl,rfl⟩
 ·simp only [KK,↓reduceIte,reduceLT,reduceEqDiff,reduceCtorEq,e0,e1,e7,e8,hlt]
  exact hP
theorem maylists_ok {v:CV} {L:List Int} (hv:SL h 1 v (L.map encI)) (hL:∀ x∈L,0≤x∧x≤255) (hl:L.length≤16) (hP:P (.c (.bool true)) h):callW N (k+4) 333 [.agg [v]] h P:=by
 have hlen:=hv.lm
 have c1:(L.length:Int)≤16:=by omega
 refine ci rfl ?_
 simp only [KK,↓reduceIte,reduceLT,reduceEqDiff,hlen,c1]
 have z1:¬((0:Int)≤-1):=by decide
 refine ci rfl ?_
 simp only [KK,↓reduceIte,reduceLT,reduceEqDiff,reduceAdd,reduceCtorEq]
 refine nowide_ok (k:=k) hv hL (by omega) ?_
 simp only [KK,↓reduceIte,reduceLT,reduceEqDiff,z1,hP]
theorem plain_sync {a r:Int} (hP:∀ h',Fn h h'→P (.agg [.int .i64 1,.int .i64 a,.int .i64 r,.int .i64 0,.nils]) h'):callW N (k+1) 334 [.c (.int .i64 1),.c (.iface 218 true [.int .i64 a,.int .i64 r])] h P:=by
 refine ci rfl ?_
 rw [a_fin]
 unfold n334b
 obtain ⟨h1,hh1⟩:=nm (h.push (.rows true 5 0 0 [[.int .i64 0,.int .i64 0,.int .i64 0,.int .i64 0,.nils]]))
 have g1:h1.g h.n=some (.rows true 5 0 0 [[.int .i64 0,.int .i64 0,.int .i64 0,.int .i64 0,.nils]]):=by rw [hh1,g_push_eq]
 have f1:=pf hh1
 have z1:¬(218=220):=by decide
 have z2:¬(218=222):=by decide
 simp only [KK,↓reduceIte,reduceLT,reduceEqDiff,reduceAdd,reduceLeDiff,reduceCtorEq,hh1.symm,g1,z1,z2,fz_r]
 exact hP _ (f1.fresh (Fm.put (S:=fun j=>j=h.n) _ _ rfl) (fun j e=>by omega))
end
end
section
set_option maxHeartbeats 4000000
section
variable {k:Nat} {h:Hp} {P:AV→Hp→Prop}
def EqI (h:Hp) (v w:CV) (n:Nat) (pre:Nat→Prop) (m:Nat) (s:St):Prop:=
 ∃ (i:Nat) (l:List (Nat × TV)) (lc:List (List CV)),s=ST 26 l lc h∧i≤n∧m=n-i∧pre i∧
  lk l 0 = .v (.c v)∧lk l 1 = .v (.c w)∧lk l 12 = .v (.c (.int .i64 n))∧lk l 13 = .v (.c (.int .i64 i))
theorem eqL_ok {f:Nat} (hf:N f=some n337) {α:Type} {kd:IntKind} {g:α→Int} (hg:∀ x y,g x=g y→x=y) {v w:CV} {a b:List α} (hv:SL h 1 v (a.map fun x=>[.int kd (g x)])) (hw:SL h 1 w (b.map fun x=>[.int kd (g x)]))
 (ha:a.length≤4000000) (hb:b.length≤4000000) (hP:∀ r:Bool,(r=true↔a=b)→P (.c (.bool r)) h):callW N (k+1) f [.c v,.c w] h P:=by
 have hlen:=hv.lm
 have hlen2:=hw.lm
 refine call_intro hf (by simp only [List.length_cons,List.length_nil];omega) ?_
 by_cases hl:a.length=b.length
 ·have hd:decide ((a.length:Int)=b.length)=true:=by simp [hl]
  have hd':(a.length:Int)=b.length:=by omega
  simp only [KK,↓reduceIte,reduceLT,reduceEqDiff,reduceAdd,reduceCtorEq,hlen,hlen2,hd']
  refine loop_rd (callW_mono N _) (EqI h v w b.length fun i=>a.take i=b.take i) (n:=b.length) ⟨0,_,_,rfl,by omega,by omega,by simp,rfl,rfl,by first|rfl|rw [←hl];rfl,rfl⟩ ?_
  rintro n s ⟨i,l,lc,rfl,hi,hn,hpre,e0,e1,e12,e13⟩
  by_cases hlt:(i:Int)<b.length
  ·obtain ⟨y,hy⟩:∃ y,a[i]? = some y:=⟨_,List.getElem?_eq_getElem (by omega)⟩
   obtain ⟨z,hz⟩:∃ z,b[i]? = some z:=⟨_,List.getElem?_eq_getElem (by omega)⟩
   obtain ⟨pid,ptok,pj,a1,a2⟩:=hv.at (i:=(i:Int)) (r:=[.int kd (g y)]) (by omega) (by simp [hy])
   obtain ⟨pid',ptok',pj',b1,b2⟩:=hw.at (i:=(i:Int)) (r:=[.int kd (g z)]) (by omega) (by simp [hz])
   have hww:=wrap_i64 (n:=(i:Int)+1) (by omega)
   by_cases hyz:g y=g z
   ·have hd2:decide (g y=g z)=true:=by simp [hyz]
    have hy2:=hg _ _ hyz
    subst hy2
    simp only [KK,↓reduceIte,reduceLT,reduceEqDiff,reduceCtorEq,e0,e1,e12,e13,hlt,a1,a2,b1,b2,hww,rd_n]
    exact ⟨n-1,by omega,i+1,_,_,rfl,by omega,by omega,by show a.take (i+1)=b.take (i+1);rw [take_snoc hy,take_snoc hz,hpre],rfl,rfl,rfl,rfl⟩
   ·simp only [KK,↓reduceIte,reduceLT,reduceEqDiff,reduceCtorEq,e0,e1,e12,e13,hlt,a1,a2,b1,b2,hyz]
    refine hP false ⟨(fun e=>by cases e),fun e=>?_⟩
    subst e
    rw [hy] at hz
    injection hz with hz
    subst hz
    exact absurd rfl hyz
  ·simp only [KK,↓reduceIte,reduceLT,reduceEqDiff,reduceCtorEq,e0,e1,e12,e13,hlt]
   refine hP true ⟨fun _=>?_,fun _=>rfl⟩
   rwa [List.take_of_length_le (by omega),List.take_of_length_le (by omega)] at hpre
 ·have hd:¬(a.length:Int)=b.length:=by omega
  simp only [KK,↓reduceIte,reduceLT,reduceEqDiff,reduceAdd,reduceCtorEq,hlen,hlen2,hd]
  exact hP false ⟨(fun e=>by cases e),fun e=>absurd (congrArg List.length e) hl⟩
theorem iesame_ok {d a r t:Int} {v:CV} {L:List Int} (hv:SL h 1 v (L.map encI)) (hl:L.length≤1000000) (hP:P (.c (.bool true)) h) :
 callW N (k+2) 335 [.agg [.int .i64 d,.int .i64 a,.int .i64 r,.int .i64 t,v],.agg [.int .i64 d,.int .i64 a,.int .i64 r,.int .i64 t,v]] h P:=by
 refine ci rfl ?_
 have z:∀ x:Int,decide (x=x)=true:=fun x=>by simp
 simp only [KK,↓reduceIte,reduceLT,reduceEqDiff,reduceAdd,reduceCtorEq]
 refine eqL_ok (f:=337) rfl (g:=fun x:Int=>x) (fun _ _ e=>e) hv hv (by omega) (by omega) fun r1 hr1=>?_
 have:r1=true:=hr1.mpr rfl
 subst this
 simp only [KK,↓reduceIte,reduceLT,reduceEqDiff,hP]
theorem iemay_sync {a r:Int} (ha:0≤a∧a<1099511627776) (hr:0≤r∧r≤255) (hP:∀ h',Fn h h'→P (.c (.bool true)) h'):callW N (k+3) 330 [.agg [.int .i64 1,.int .i64 a,.int .i64 r,.int .i64 0,.nils]] h P:=by
 refine ci rfl ?_
 simp only [KK,↓reduceIte,reduceLT,reduceAdd]
 refine of_sync (k:=k+1) ?_
 simp only [KK,↓reduceIte,reduceLT,reduceEqDiff]
 refine maysync_ok (k:=k+1) ha hr ?_
 simp only [KK,↓reduceIte,reduceLT,reduceEqDiff,reduceAdd]
 refine plain_sync (k:=k+1) fun h1 f1=>?_
 simp only [KK,↓reduceIte,reduceLT,reduceEqDiff,reduceAdd]
 refine iesame_ok (k:=k) (L:=[]) rfl (by simp) ?_
 simp only [KK,↓reduceIte,reduceLT,reduceEqDiff]
 exact hP _ f1
end
end
end Camp
