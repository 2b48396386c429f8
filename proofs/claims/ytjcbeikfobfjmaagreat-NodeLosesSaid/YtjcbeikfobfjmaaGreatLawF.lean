/- Packets: what may be, as bytes. Packets: as bytes. The queue: what waits. The queue: what is taken. A node in time: what it has; whom it hears. A node in time hears something that is not for it alone. A node in time: Hear of what is not for it alone. -/
import Derived.Test.YtjcbeikfobfjmaaGreatLawE
set_option linter.unnecessarySimpa false
set_option linter.unusedVariables false
set_option linter.unusedSimpArgs false
set_option linter.unusedSectionVars false
namespace Camp
open Go
open Nat (reduceLT reduceEqDiff reduceAdd reduceLeDiff reduceSub reduceMul)
section
set_option maxHeartbeats 8000000
structure Pk where
 fr:Nat
 to:Nat
 n:Nat
 li:Nat
 path:List Nat
 data:List Nat
def pathB (L:List Nat):Prop:=(∀ x∈L,x<16)∧L.Nodup∧L.length≤16
instance (L:List Nat):Decidable (pathB L):=inferInstanceAs (Decidable (_∧_∧_))
def Pk.ok (p:Pk):Prop:=p.fr<16∧p.to<16∧p.fr≠p.to∧p.n≤70368744177663∧p.li≤15∧pathB p.path∧1≤p.data.length∧p.data.length≤24
instance (p:Pk):Decidable p.ok:=inferInstanceAs (Decidable (_∧_∧_∧_∧_∧_∧_∧_))
def Pk.row (p:Pk) (a d:CV):List CV:=[.int .i64 (p.fr:Int),.int .i64 (p.to:Int),.int .i64 (p.n:Int),.int .i64 (p.li:Int),a,d]
structure PkM (h:Hp) (p:Pk) (a d:CV):Prop where
 path:SL h 1 a (p.path.map eN)
 cap:CapL a
 data:SL h 1 d (p.data.map eB)
 bytes:∀ c∈p.data,c<256
theorem PkM.new {h h':Hp} {p:Pk} {a d:CV} (k:PkM h p a d) (f:Fn h h'):PkM h' p a d:=⟨k.path.new f,k.cap,k.data.new f,k.bytes⟩
def rB (p:Pk):List Nat:=[p.fr,p.to]++be 6 p.n++[p.li,p.path.length]++p.path++[p.data.length]++p.data
section
variable {k:Nat} {h:Hp} {P:AV→Hp→Prop} {v:CV} {L:List Nat}
theorem rin_ok {a lo hi:Int} (hP:P (.c (.bool (decide (lo≤a∧a≤hi)))) h):callW N (k+1) 307 [.c (.int .i64 a),.c (.int .i64 lo),.c (.int .i64 hi)] h P:=by
 refine ci rfl ?_
 by_cases c1:lo≤a
 ·have e:decide (lo≤a∧a≤hi)=decide (a≤hi):=by simp [c1]
  rw [e] at hP
  simp only [KK,↓reduceIte,reduceLT,reduceEqDiff,reduceAdd,reduceCtorEq,c1]
  exact hP
 ·have e:decide (lo≤a∧a≤hi)=false:=by simp [c1]
  rw [e] at hP
  simp only [KK,↓reduceIte,reduceLT,reduceEqDiff,reduceAdd,reduceCtorEq,c1]
  exact hP
theorem rnod_ok {n:Nat} (hP:P (.c (.bool (decide (n<16)))) h):callW N (k+2) 306 [.c (.int .i64 (n:Int))] h P:=by
 refine ci rfl ?_
 simp only [KK,↓reduceIte,reduceLT,reduceCtorEq]
 refine rin_ok (k:=k) ?_
 have e:decide ((0:Int)≤(n:Int)∧(n:Int)≤15)=decide (n<16):=by rw [Bool.eq_iff_iff];simp;omega
 simp only [KK,↓reduceIte,reduceLT,e]
 exact hP
def XxI (h:Hp) (v:CV) (x:Nat) (L:List Nat) (n:Nat) (s:St):Prop:=∃ (i:Nat) (l:List (Nat × TV)) (lc:List (List CV)),s=ST 19 l lc h∧i≤L.length∧n=L.length-i∧x∉L.take i∧
 lk l 0 = .v (.c v)∧lk l 1 = .v (.c (.int .i64 (x:Int)))∧lk l 7 = .v (.c (.int .i64 L.length))∧lk l 8 = .v (.c (.int .i64 i))
theorem index_ok {x:Nat} (hv:SL h 1 v (L.map eN)) (hl:L.length≤1000000) (h0:x∉L→P (.c (.int .i64 (-1))) h) (h1:∀ i:Nat,L[i]? = some x→x∉L.take i→P (.c (.int .i64 (i:Int))) h) :
 callW N (k+1) 327 [.c v,.c (.int .i64 (x:Int))] h P:=by
 have hlen:=hv.lm
 refine ci rfl ?_
 simp only [KK,↓reduceIte,reduceLT,reduceEqDiff,reduceAdd,reduceCtorEq,hlen]
 refine loop_rd (callW_mono N _) (XxI h v x L) (n:=L.length) ⟨0,_,_,rfl,by omega,by omega,by simp,rfl,rfl,rfl,rfl⟩ ?_
 rintro n s ⟨i,l,lc,rfl,hi,hn,hx,e0,e1,e7,e8⟩
 by_cases hlt:(i:Int)<L.length
 ·obtain ⟨y,hy⟩:∃ y,L[i]? = some y:=⟨_,List.getElem?_eq_getElem (by omega)⟩
  obtain ⟨pid,ptok,pj,a1,a2⟩:=hv.at (i:=(i:Int)) (r:=eN y) (by omega) (by simp [hy])
  simp only [eN] at a2
  have w3:=wi1 i (by omega)
  by_cases hxy:x=y
  ·subst hxy
   have hd:decide ((x:Int)=(x:Int))=true:=by simp
   simp only [KK,↓reduceIte,reduceLT,reduceEqDiff,reduceCtorEq,e0,e1,e7,e8,hlt,a1,a2]
   exact h1 i hy hx
  ·have hd:¬(x:Int)=(y:Int):=by omega
   simp only [KK,↓reduceIte,reduceLT,reduceEqDiff,reduceCtorEq,e0,e1,e7,e8,hlt,a1,a2,hd,w3,rd_n]
   refine ⟨n-1,by omega,i+1,_,_,rfl,by omega,by omega,?_,rfl,rfl,rfl,rfl⟩
   rw [take_snoc hy]
   intro hm
   rcases List.mem_append.mp hm with hm|hm
   ·exact hx hm
   ·simp at hm;exact hxy hm
 ·simp only [KK,↓reduceIte,reduceLT,reduceEqDiff,reduceCtorEq,e0,e1,e7,e8,hlt]
  rw [List.take_of_length_le (by omega)] at hx
  exact h0 hx
theorem cont_ok {x:Nat} (hv:SL h 1 v (L.map eN)) (hl:L.length≤1000000) (hP:P (.c (.bool (decide (x∈L)))) h):callW N (k+2) 305 [.c v,.c (.int .i64 (x:Int))] h P:=by
 have z1:¬((0:Int)≤-1):=by decide
 refine ci rfl ?_
 simp only [KK,↓reduceIte,reduceLT,reduceEqDiff,reduceAdd,reduceCtorEq]
 refine index_ok (k:=k) hv hl (fun hx=>?_) (fun i hi _=>?_)
 ·have e:decide (x∈L)=false:=by simp [hx]
  rw [e] at hP
  simp only [KK,↓reduceIte,reduceLT,z1]
  exact hP
 ·have e:decide (x∈L)=true:=by simp [List.mem_of_getElem? hi]
  have z0:(0:Int)≤(i:Int):=by omega
  rw [e] at hP
  simp only [KK,↓reduceIte,reduceLT,z0]
  exact hP
def PaI (h:Hp) (v:CV) (L:List Nat) (n:Nat) (s:St):Prop:=∃ (i:Nat) (l:List (Nat × TV)) (lc:List (List CV)),s=ST 26 l lc h∧i≤L.length∧n=L.length-i∧(∀ x∈L.take i,x<16)∧(L.take i).Nodup∧
 lk l 0 = .v (.c v)∧lk l 5 = .v (.c v)∧lk l 6 = .v (.c (.int .i64 L.length))∧lk l 7 = .v (.c (.int .i64 i))
theorem path_ok (hv:SL h 1 v (L.map eN)) (hc:CapL v) (hl:L.length≤1000000) (hP:P (.c (.bool (decide (pathB L)))) h):callW N (k+3) 308 [.c v] h P:=by
 have hlen:=hv.lm
 refine ci rfl ?_
 simp only [KK,↓reduceIte,reduceLT,reduceEqDiff,reduceCtorEq,hlen]
 refine loop_rd (callW_mono N _) (PaI h v L) (n:=L.length) ⟨0,_,_,rfl,by omega,by omega,by simp,by simp,rfl,rfl,rfl,rfl⟩ ?_
 rintro n s ⟨i,l,lc,rfl,hi,hn,h16,hnd,e0,e5,e6,e7⟩
 by_cases hlt:(i:Int)<L.length
 ·obtain ⟨y,hy⟩:∃ y,L[i]? = some y:=⟨_,List.getElem?_eq_getElem (by omega)⟩
  obtain ⟨pid,ptok,pj,a1,a2⟩:=hv.at (i:=(i:Int)) (r:=eN y) (by omega) (by simp [hy])
  simp only [eN] at a2
  have hym:=List.mem_of_getElem? hy
  obtain ⟨v1,s1,s2,s3,s4⟩:=hv.firstB hc (by decide) (m:=(i:Int)) (by rw [List.length_map];omega)
  rw [Int.toNat_natCast,←List.map_take] at s2
  have w3:=wi1 i (by omega)
  simp only [KK,↓reduceIte,reduceLT,reduceEqDiff,reduceCtorEq,e0,e5,e6,e7,hlt,a1,a2]
  refine rnod_ok (k:=k) ?_
  by_cases hy16:y<16
  case neg=>
   have e:decide (y<16)=false:=by simp;omega
   have ep:decide (pathB L)=false:=by simp only [decide_eq_false_iff_not];exact fun h=>hy16 (h.1 y hym)
   simp only [KK,↓reduceIte,reduceLT,reduceEqDiff,reduceCtorEq,e]
   rw [ep] at hP
   exact hP
  have e:decide (y<16)=true:=by simp [hy16]
  simp only [KK,↓reduceIte,reduceLT,reduceEqDiff,reduceCtorEq,e,s1]
  refine cont_ok (k:=k) s2 (by rw [List.length_take];omega) ?_
  by_cases hm:y∈L.take i
  ·have em:decide (y∈L.take i)=true:=by simp [hm]
   have ep:decide (pathB L)=false:=by
    simp only [decide_eq_false_iff_not]
    intro h
    obtain ⟨j,hj⟩:=List.getElem?_of_mem hm
    rw [List.getElem?_take] at hj
    split at hj
    ·rename_i hji
     have h1:=(List.getElem?_eq_some_iff.mp hj).1
     have h2:j=i:=(List.getElem?_inj h1 h.2.1).mp (hj.trans hy.symm)
     omega
    ·cases hj
   simp only [KK,↓reduceIte,reduceLT,reduceEqDiff,reduceCtorEq,em]
   rw [ep] at hP
   exact hP
  ·have em:decide (y∈L.take i)=false:=by simp only [hm,decide_false]
   simp only [KK,↓reduceIte,reduceLT,reduceEqDiff,reduceCtorEq,em,w3,rd_n]
   refine ⟨n-1,by omega,i+1,_,_,rfl,by omega,by omega,?_,?_,rfl,rfl,rfl,rfl⟩
   ·rw [take_snoc hy]
    intro x hx
    rcases List.mem_append.mp hx with hx|hx
    ·exact h16 x hx
    ·simp at hx;omega
   ·rw [take_snoc hy,List.nodup_append]
    refine ⟨hnd,by simp,?_⟩
    intro a ha b hb e
    rw [List.mem_singleton] at hb
    rw [e,hb] at ha
    exact hm ha
 ·rw [List.take_of_length_le (by omega)] at h16 hnd
  simp only [KK,↓reduceIte,reduceLT,reduceEqDiff,reduceCtorEq,e0,e5,e6,e7,hlt,hlen]
  have ep:decide (pathB L)=decide ((L.length:Int)≤16):=by
   rw [Bool.eq_iff_iff]
   simp only [decide_eq_true_eq]
   exact ⟨fun h=>by have:=h.2.2;omega,fun h=>⟨h16,hnd,by omega⟩⟩
  rw [ep] at hP
  exact hP
theorem rmayP_ok {p:Pk} {a d:CV} (hm:PkM h p a d) (hl:p.path.length≤1000000∧p.data.length≤1000000) (hP:P (.c (.bool (decide p.ok))) h):callW N (k+4) 289 [.agg (p.row a d)] h P:=by
 have hlen:∀ h':Hp,lenT h' .sl (.v (.c d))=some (p.data.length:Int):=fun h'=>by rw [hm.data.len h',List.length_map]
 unfold Pk.row
 have no:¬p.ok→P (.c (.bool false)) h:=fun hn=>by
  have:decide p.ok=false:=by simp only [hn,decide_false]
  rw [this] at hP
  exact hP
 refine ci rfl ?_
 simp only [KK,↓reduceIte,reduceLT,reduceAdd]
 refine rnod_ok (k:=k+1) ?_
 by_cases h1:p.fr<16
 case neg=>
  have e:decide (p.fr<16)=false:=by simp only [h1,decide_false]
  simp only [KK,↓reduceIte,reduceLT,reduceEqDiff,e]
  exact no fun h=>h1 h.1
 have e1:decide (p.fr<16)=true:=by simp only [h1,decide_true]
 simp only [KK,↓reduceIte,reduceLT,reduceEqDiff,e1]
 refine rnod_ok (k:=k+1) ?_
 by_cases h2:p.to<16
 case neg=>
  have e:decide (p.to<16)=false:=by simp only [h2,decide_false]
  simp only [KK,↓reduceIte,reduceLT,reduceEqDiff,e]
  exact no fun h=>h2 h.2.1
 have e2:decide (p.to<16)=true:=by simp only [h2,decide_true]
 by_cases h3:p.fr=p.to
 ·have e:decide ((p.fr:Int)=(p.to:Int))=true:=by simp [h3]
  simp only [KK,↓reduceIte,reduceLT,reduceEqDiff,e2,e]
  exact no fun h=>h.2.2.1 h3
 have e3:¬(p.fr:Int)=(p.to:Int):=by omega
 simp only [KK,↓reduceIte,reduceLT,reduceEqDiff,e2,e3]
 refine rin_ok (k:=k+2) ?_
 by_cases h4:p.n≤70368744177663
 case neg=>
  have e:decide ((0:Int)≤(p.n:Int)∧(p.n:Int)≤70368744177663)=false:=by simp;omega
  simp only [KK,↓reduceIte,reduceLT,reduceEqDiff,e]
  exact no fun h=>h4 h.2.2.2.1
 have e4:decide ((0:Int)≤(p.n:Int)∧(p.n:Int)≤70368744177663)=true:=by simp;omega
 simp only [KK,↓reduceIte,reduceLT,reduceEqDiff,e4]
 refine rin_ok (k:=k+2) ?_
 by_cases h5:p.li≤15
 case neg=>
  have e:decide ((0:Int)≤(p.li:Int)∧(p.li:Int)≤15)=false:=by simp;omega
  simp only [KK,↓reduceIte,reduceLT,reduceEqDiff,e]
  exact no fun h=>h5 h.2.2.2.2.1
 have e5:decide ((0:Int)≤(p.li:Int)∧(p.li:Int)≤15)=true:=by simp;omega
 simp only [KK,↓reduceIte,reduceLT,reduceEqDiff,e5]
 refine path_ok (k:=k) hm.path hm.cap hl.1 ?_
 by_cases h6:pathB p.path
 case neg=>
  have e:decide (pathB p.path)=false:=by simp only [h6,decide_false]
  simp only [KK,↓reduceIte,reduceLT,reduceEqDiff,e]
  exact no fun h=>h6 h.2.2.2.2.2.1
 have e6:decide (pathB p.path)=true:=by simp only [h6,decide_true]
 simp only [KK,↓reduceIte,reduceLT,reduceEqDiff,e6,hlen]
 refine rin_ok (k:=k+2) ?_
 simp only [KK,↓reduceIte,reduceLT,reduceEqDiff]
 have ep:decide p.ok=decide ((1:Int)≤(p.data.length:Int)∧(p.data.length:Int)≤24):=by
  rw [Bool.eq_iff_iff]
  simp only [decide_eq_true_eq]
  exact ⟨fun h=>by have:=h.2.2.2.2.2.2;omega,fun h=>⟨h1,h2,h3,h4,h5,h6,by omega,by omega⟩⟩
 rw [ep] at hP
 exact hP
end
end
section
set_option maxHeartbeats 8000000
theorem rB_lt {p:Pk} (hk:p.ok) (hb:∀ c∈p.data,c<256):∀ c∈rB p,c<256:=by
 intro c hc
 obtain ⟨h1,h2,h3,h4,h5,⟨h6,h7,h8⟩,h9,h10⟩:=hk
 simp only [rB,List.mem_append,List.mem_cons,List.not_mem_nil,or_false] at hc
 rcases hc with (((((rfl|rfl)|hc)|(rfl|rfl))|hc)|rfl)|hc
 ·omega
 ·omega
 ·exact be_lt p.n 6 c hc
 ·omega
 ·omega
 ·have:=h6 c hc;omega
 ·omega
 ·exact hb c hc
theorem rB_len (p:Pk):(rB p).length=11+p.path.length+p.data.length:=by
 simp only [rB,List.length_append,List.length_cons,List.length_nil,be_len]
 omega
section
variable {k:Nat} {h:Hp} {P:AV→Hp→Prop}
def PwI (base w:Nat) (h0:Hp) (p:Pk) (a d:CV) (L:List Nat) (n:Nat) (s:St):Prop:=∃ (i:Nat) (l:List (Nat × TV)) (h':Hp),s=ST 62 l [p.row a d] h'∧i≤p.path.length∧n=p.path.length-i∧Wr base h' w (L++p.path.take i)∧Fm (fun j=>base≤j) h0 h'∧
 lk l 1 = .lp 0 0∧lk l 4 = .v (.c (.ptr w 0 0 0))∧lk l 39 = .v (.c a)∧lk l 40 = .v (.c (.int .i64 p.path.length))∧lk l 41 = .v (.c (.int .i64 i))
theorem rencP_ok {p:Pk} {a d:CV} (hm:PkM h p a d) (hl:p.path.length≤1000000∧p.data.length≤1000000)
 (h1:∀ h' u,p.ok→SL h' 1 u ((rB p).map eB)→(∀ j,ownId u j→h.n≤j)→Fn h h'→P (.tup [.c u,.c (.int .i64 0)]) h')
 (h0:¬p.ok→P (.tup [.c .nils,.c (.int .i64 1)]) h):callW N (k+5) 275 [.agg (p.row a d)] h P:=by
 have hla:∀ h':Hp,lenT h' .sl (.v (.c a))=some (p.path.length:Int):=fun h'=>by rw [hm.path.len h',List.length_map]
 have hld:∀ h':Hp,lenT h' .sl (.v (.c d))=some (p.data.length:Int):=fun h'=>by rw [hm.data.len h',List.length_map]
 refine ci rfl ?_
 simp only [KK,↓reduceIte,reduceLT,reduceEqDiff,reduceAdd,Pk.row]
 refine rmayP_ok (k:=k) hm hl ?_
 by_cases hok:p.ok
 case neg=>
  have e:decide p.ok=false:=by simp only [hok,decide_false]
  simp only [KK,↓reduceIte,reduceLT,reduceEqDiff,e]
  exact h0 hok
 have e:decide p.ok=true:=by simp only [hok,decide_true]
 have hok':=hok
 obtain ⟨o1,o2,o3,o4,o5,⟨o6,o7,o8⟩,o9,o10⟩:=hok'
 obtain ⟨g1,hh1⟩:=nm (h.push (.rows true 2 0 0 [[.nils,.int .i64 0]]))
 have f1:=pf hh1
 have k1:Wr h.n g1 h.n []:=⟨Nat.le_refl _,.nils,by rw [hh1,g_push_eq];rfl,rfl,fun j hj=>hj.elim⟩
 have ba:Bf h.n a:=hm.path.lt
 have bd:Bf h.n d:=hm.data.lt
 have w1:IntKind.wrap .u64 (p.fr:Int)=(p.fr:Int):=wrap_u64 (by omega)
 have w2:IntKind.wrap .u64 (p.to:Int)=(p.to:Int):=wrap_u64 (by omega)
 have w3:IntKind.wrap .u64 (p.n:Int)=(p.n:Int):=wrap_u64 (by omega)
 have w4:IntKind.wrap .u64 (p.li:Int)=(p.li:Int):=wrap_u64 (by omega)
 have w5:IntKind.wrap .u64 (p.path.length:Int)=(p.path.length:Int):=wrap_u64 (by omega)
 have w6:IntKind.wrap .u64 (p.data.length:Int)=(p.data.length:Int):=wrap_u64 (by omega)
 simp only [KK,↓reduceIte,reduceLT,reduceEqDiff,reduceAdd,e,hh1.symm,w1]
 refine wput_ok (k:=k+2) (m:=1) k1 (by omega) (by omega) (by simp) fun g2 k2 f2=>?_
 rw [be_one (by omega),List.nil_append] at k2
 simp only [KK,↓reduceIte,reduceLT,reduceEqDiff,w2]
 refine wput_ok (k:=k+2) (m:=1) k2 (by omega) (by omega) (by simp) fun g3 k3 f3=>?_
 rw [be_one (by omega)] at k3
 simp only [KK,↓reduceIte,reduceLT,reduceEqDiff,w3]
 refine wput_ok (k:=k+2) (m:=6) k3 (by omega) (by omega) (by simp) fun g4 k4 f4=>?_
 simp only [KK,↓reduceIte,reduceLT,reduceEqDiff,w4]
 refine wput_ok (k:=k+2) (m:=1) k4 (by omega) (by omega) (by simp [be_len]) fun g5 k5 f5=>?_
 rw [be_one (by omega)] at k5
 simp only [KK,↓reduceIte,reduceLT,reduceEqDiff,hla,w5]
 refine wput_ok (k:=k+2) (m:=1) k5 (by omega) (by omega) (by simp [be_len]) fun g6 k6 f6=>?_
 rw [be_one (by omega)] at k6
 have F6:Fm (fun j=>h.n≤j) g1 g6:=f2.trans (f3.trans (f4.trans (f5.trans f6)))
 have hL:([p.fr]++[p.to]++be 6 p.n++[p.li]++[p.path.length]:List Nat)=[p.fr,p.to]++be 6 p.n++[p.li,p.path.length]:=by simp
 rw [hL] at k6
 have hLl:([p.fr,p.to]++be 6 p.n++[p.li,p.path.length]:List Nat).length=10:=by simp [be_len]
 generalize hLg:([p.fr,p.to]++be 6 p.n++[p.li,p.path.length]:List Nat)=LL at k6 hLl
 simp only [KK,↓reduceIte,reduceLT,reduceEqDiff,hla]
 refine loop_rd (callW_mono N _) (PwI h.n h.n g1 p a d LL) (n:=p.path.length) ⟨0,_,g6,rfl,by omega,by omega,by simpa using k6,F6,rfl,rfl,rfl,rfl,rfl⟩ ?_
 rintro n s ⟨i,l,g7,rfl,hi,hn,k7,f7,e1,e4,e39,e40,e41⟩
 by_cases hlt:(i:Int)<p.path.length
 ·obtain ⟨y,hy⟩:∃ y,p.path[i]? = some y:=⟨_,List.getElem?_eq_getElem (by omega)⟩
  obtain ⟨pid,ptok,pj,a1,a2⟩:=((hm.path.new f1).bf ba f7).at (i:=(i:Int)) (r:=eN y) (by omega) (by simp [hy])
  simp only [eN] at a2
  have hy2:=o6 y (List.mem_of_getElem? hy)
  have w7:IntKind.wrap .u64 (y:Int)=(y:Int):=wrap_u64 (by omega)
  have w8:=wi1 i (by omega)
  simp only [KK,↓reduceIte,reduceLT,reduceEqDiff,e1,e4,e39,e40,e41,hlt,a1,a2,w7]
  refine wput_ok (k:=k+2) (m:=1) k7 (by omega) (by omega) (by rw [List.length_append,List.length_take];omega) fun g8 k8 f8=>?_
  rw [be_one (by omega)] at k8
  simp only [KK,↓reduceIte,reduceLT,reduceEqDiff,w8,rd_n]
  refine ⟨n-1,by omega,i+1,_,g8,rfl,by omega,by omega,?_,f7.trans f8,rfl,rfl,rfl,rfl,rfl⟩
  rw [take_snoc hy,←List.append_assoc]
  exact k8
 ·rw [List.take_of_length_le (by omega)] at k7
  have hl7:(LL++p.path).length=10+p.path.length:=by rw [List.length_append,hLl]
  simp only [KK,↓reduceIte,reduceLT,reduceEqDiff,e1,e4,e39,e40,e41,hlt,Pk.row,hld,w6]
  refine wput_ok (k:=k+2) (m:=1) k7 (by omega) (by omega) (by omega) fun g8 k8 f8=>?_
  rw [be_one (by omega)] at k8
  simp only [KK,↓reduceIte,reduceLT,reduceEqDiff]
  refine wtext_ok (k:=k+1) k8 ((hm.data.new f1).bf bd (f7.trans f8)) bd hm.bytes (by rw [List.length_append,hl7,List.length_singleton];omega) fun g9 k9 f9=>?_
  simp only [KK,↓reduceIte,reduceLT,reduceEqDiff]
  refine wbytes_ok (k:=k+3) k9 (by simp) (by rw [List.length_append,List.length_append,hl7,List.length_singleton];omega) fun g10 u k10 p10 f10=>?_
  simp only [KK,↓reduceIte,reduceLT]
  have hfin:LL++p.path++[p.data.length]++p.data=rB p:=by rw [←hLg];rfl
  rw [hfin] at k10
  have F9:Fn h g9:=f1.fresh (f7.trans (f8.trans f9)) (fun j e=>e)
  exact h1 g10 u hok k10 (fun j hj=>by have:=p10 j hj;have:=F9.n;omega) (F9.trans f10)
end
end
section
set_option maxHeartbeats 8000000
def QM (S:Nat→Prop) (h:Hp) (q:Nat) (most:Int) (Q:List (Int × List Nat)):Prop:=
 ∃ (lost:Int) (v:CV) (vs:List ((Int × List Nat) × CV)),h.g q=some (.rows true 3 0 0 [[.int .i64 most,v,.int .i64 lost]])∧(0≤lost∧lost≤1000000)∧vs.map (·.1)=Q∧
  Ow h 2 v (vs.map fun x=>[.int .i64 x.1.1,x.2])∧(∀ x∈vs,SL h 1 x.2 (x.1.2.map eB))∧S q∧(∀ j,ownId v j→S j)∧∀ x∈vs,∀ j,ownId x.2 j→S j
theorem QM.keep {S T:Nat→Prop} {h h':Hp} {q:Nat} {most:Int} {Q:List (Int × List Nat)} (k:QM S h q most Q) (f:Fm T h h') (hT:∀ j,S j→j<h.n→¬T j):QM S h' q most Q:=by
 obtain ⟨lost,v,vs,g1,g2,g3,g4,g5,g6,g7,g8⟩:=k
 have lt:∀ {sz:Nat} {v:CV} {rows:List (List CV)},SL h sz v rows→∀ j,ownId v j→j<h.n:=by
  intro sz v rows k j hj
  cases v <;> simp only [ownId] at hj
  subst hj
  exact k.lt _ _ _ _ _ rfl
 exact ⟨lost,v,vs,f.some g1 (hT q g6 (lt_of_g g1)),g2,g3,g4.mono f (fun j hj=>hT j (g7 j hj) (lt g4.sl j hj)),fun x hx=>(g5 x hx).off f (fun j hj=>hT j (g8 x hx j hj) (lt (g5 x hx) j hj)),g6,g7,g8⟩
theorem QM.new {S:Nat→Prop} {h h':Hp} {q:Nat} {most:Int} {Q:List (Int × List Nat)} (k:QM S h q most Q) (f:Fn h h'):QM S h' q most Q:=k.keep f (fun _ _ _ e=>e)
theorem QM.sub {S T:Nat→Prop} {h:Hp} {q:Nat} {most:Int} {Q:List (Int × List Nat)} (k:QM S h q most Q) (hT:∀ j,S j→T j):QM T h q most Q:=by
 obtain ⟨lost,v,vs,g1,g2,g3,g4,g5,g6,g7,g8⟩:=k
 exact ⟨lost,v,vs,g1,g2,g3,g4,g5,hT q g6,fun j hj=>hT j (g7 j hj),fun x hx j hj=>hT j (g8 x hx j hj)⟩
theorem Ow.qne {h:Hp} {sz q:Nat} {v:CV} {rows:List (List CV)} {o:AO} (w:Ow h sz v rows) (g:h.g q=some o) (hn:∀ wr cur lw rs,o≠.rows wr sz cur lw rs):¬ownId v q:=by
 intro hj
 cases v <;> simp only [ownId] at hj
 subst hj
 obtain ⟨_,_,lw2,rs2,e2,_⟩:=w
 rw [g] at e2
 injection e2 with e2
 exact hn _ _ _ _ e2
section
variable {k:Nat} {h:Hp} {P:AV→Hp→Prop} {S:Nat→Prop} {q:Nat} {most:Int} {Q:List (Int × List Nat)}
theorem qlen_ok (hq:QM S h q most Q) (hP:P (.c (.int .i64 (Q.length:Int))) h):callW N (k+1) 281 [.c (.ptr q 0 0 0)] h P:=by
 obtain ⟨lost,v,vs,g1,g2,g3,g4,g5,g6,g7,g8⟩:=hq
 have hlen:∀ h':Hp,lenT h' .sl (.v (.c v))=some (Q.length:Int):=fun h'=>by rw [g4.sl.len h',←g3,List.length_map,List.length_map]
 refine ci rfl ?_
 simp only [KK,↓reduceIte,reduceLT,reduceCtorEq,g1,hlen]
 exact hP
theorem qput_ok {to:Int} {b:CV} {B:List Nat} (hq:QM S h q most Q) (hb:SL h 1 b (B.map eB)) (hB:B≠[]) (hl:B.length≤1000) (hQ:Q.length≤1000)
 (hP:∀ h',QM (fun j=>S j∨h.n≤j) h' q most (if (Q.length:Int)<most then Q++[(to,B)] else Q)→Fm S h h'→P (.c (.bool (decide ((Q.length:Int)<most)))) h') :
 callW N (k+2) 276 [.c (.ptr q 0 0 0),.c (.int .i64 to),.c b] h P:=by
 obtain ⟨lost,v,vs,g1,g2,g3,g4,g5,g6,g7,g8⟩:=hq
 have hvl:vs.length=Q.length:=by rw [←g3,List.length_map]
 have hlen:∀ h':Hp,lenT h' .sl (.v (.c v))=some (Q.length:Int):=fun h'=>by rw [g4.sl.len h',List.length_map,hvl]
 have hqv:=g4.qne g1 (by intro _ _ _ _ e;simp at e)
 refine ci rfl ?_
 by_cases hm:most≤(Q.length:Int)
 ·have w1:IntKind.wrap .i64 (lost+1)=lost+1:=wrap_i64 (by omega)
  obtain ⟨h1,hh1⟩:=nm (h.put q (.rows true 3 0 0 [[.int .i64 most,v,.int .i64 (min (lost+1) 1000000)]]))
  have f1:Fm (fun j=>j=q) h h1:=by rw [hh1];exact Fm.put (S:=fun j=>j=q) _ _ rfl
  simp only [KK,↓reduceIte,reduceLT,reduceEqDiff,reduceAdd,reduceCtorEq,g1,hlen,hm,w1,hh1.symm]
  have hd:decide ((Q.length:Int)<most)=false:=by simp;omega
  have:=hP h1
  rw [hd,if_neg (by omega)] at this
  refine this ⟨min (lost+1) 1000000,v,vs,by rw [hh1,g_put_eq,g1];rfl,by omega,g3,g4.mono f1 (fun j hj e=>hqv (by rw [←e];exact hj)),fun x hx=>(g5 x hx).off f1 (fun j hj e=>?_),.inl g6,fun j hj=>.inl (g7 j hj),fun x hx j hj=>.inl (g8 x hx j hj)⟩ (f1.mono fun j _ e=>by rw [e];exact g6)
  subst e
  have k5:=g5 x hx
  cases hx2:x.2 <;> rw [hx2] at hj k5 <;> simp only [ownId] at hj
  subst hj
  obtain ⟨_,_,_,_,e2,_⟩:=k5
  rw [g1] at e2
  simp at e2
 ·obtain ⟨h1,hh1⟩:=nm (h.reserve 1)
  have f1:Fn h h1:=by rw [hh1];exact Fm.reserve _ _ _
  have d1:h1.g h.n=some .dead:=by rw [hh1,g_reserve,if_pos (by omega)]
  have n1:h1.n=h.n+1:=by rw [hh1];exact n_reserve _ _
  have q1:=f1.some g1 (fun e=>e)
  simp only [KK,↓reduceIte,reduceLT,reduceEqDiff,reduceAdd,reduceCtorEq,g1,hlen,hm,hh1.symm,q1]
  refine cloneb_ok (k:=k) (hb.new f1) hB (by omega) fun h2 u k2 p2 f2=>?_
  have d2:=f2.some d1 (fun e=>e)
  have q2:=f2.some q1 (fun e=>e)
  obtain ⟨h3,hh3⟩:=nm (h2.put h.n (.rows true 2 0 0 [[.int .i64 to,u]]))
  have f3:Fm (fun j=>j=h.n) h2 h3:=by rw [hh3];exact Fm.put (S:=fun j=>j=h.n) _ _ rfl
  have e3:h3.g h.n=some (.rows true 2 0 0 [[.int .i64 to,u]]):=by rw [hh3,g_put_eq,d2];rfl
  have hql:=lt_of_g g1
  have q3:=f3.some q2 (by omega)
  have F3:Fn h h3:=(f1.trans f2).fresh f3 (fun j e=>by omega)
  have s3:SL h3 2 (.sl h.n 0 0 1 (some 1)) [[.int .i64 to,u]]:=⟨true,0,0,_,e3,Nat.le_refl _,Nat.le_refl 1,rfl⟩
  have v3:=g4.new F3
  obtain ⟨v',h4,a1,a2,a3,a4⟩:=v3.app (lc:=[]) (x:=.v (.c (.sl h.n 0 0 1 (some 1)))) (xs:=[[.int .i64 to,u]]) s3.read (by simp) (bytes:=32) (by simp only [room,List.length_map,List.length_cons,List.length_nil];omega)
  have q4:=a3.some q3 hqv
  obtain ⟨h5,hh5⟩:=nm (h4.put q (.rows true 3 0 0 [[.int .i64 most,v',.int .i64 lost]]))
  have f5:Fm (fun j=>j=q) h4 h5:=by rw [hh5];exact Fm.put (S:=fun j=>j=q) _ _ rfl
  simp only [KK,↓reduceIte,reduceLT,reduceEqDiff,reduceAdd,reduceLeDiff,q2,d2,hh3.symm,a1,q4,hh5.symm]
  have hd:decide ((Q.length:Int)<most)=true:=by simp;omega
  have:=hP h5
  rw [hd,if_pos (by omega)] at this
  have n2:=f2.n
  have n3:=F3.n
  have n3':h3.n=h2.n:=by rw [hh3,n_put]
  have hv'q:¬ownId v' q:=fun e=>(a4 q e).elim hqv (fun e=>by omega)
  have ku:SL h3 1 u (B.map eB):=k2.sl.off f3 (fun j hj e=>by have:=p2 j hj;omega)
  have keep:∀ {x:CV} {L:List (List CV)},SL h3 1 x L→SL h5 1 x L:=by
   intro x L kx
   refine (kx.off a3 (sl_ne kx v3 (by decide))).off f5 (fun j hj e=>?_)
   subst e
   cases x <;> simp only [ownId] at hj
   subst hj
   obtain ⟨_,_,_,_,e2,_⟩:=kx
   rw [q3] at e2
   simp at e2
  refine this ⟨lost,v',vs++[((to,B),u)],by rw [hh5,g_put_eq,q4];rfl,g2,by rw [List.map_append,g3];rfl,?_,?_,.inl g6,?_,?_⟩ ?_
  ·rw [List.map_append]
   exact a2.mono f5 (fun j hj e=>hv'q (by rw [←e];exact hj))
  ·intro x hx
   rcases List.mem_append.mp hx with hx|hx
   ·exact keep ((g5 x hx).new F3)
   ·rw [List.mem_singleton] at hx
    subst hx
    exact keep ku
  ·intro j hj
   rcases a4 j hj with e|e
   ·exact .inl (g7 j e)
   ·exact .inr (by omega)
  ·intro x hx j hj
   rcases List.mem_append.mp hx with hx|hx
   ·exact .inl (g8 x hx j hj)
   ·rw [List.mem_singleton] at hx
    subst hx
    exact .inr (by have:=p2 j hj;omega)
  ·exact (F3.mono (fun _ _ e=>e.elim)).trans ((a3.mono fun j _ e=>g7 j e).trans (f5.mono fun j _ e=>by rw [e];exact g6))
end
end
section
set_option maxHeartbeats 8000000
section
variable {k:Nat} {h:Hp} {P:AV→Hp→Prop} {S:Nat→Prop} {q:Nat} {most:Int} {Q:List (Int × List Nat)}
theorem qdel_ok {v:CV} {x y:CV} {R:List (List CV)} (hv:Ow h 2 v ([x,y]::R)) (hl:R.length≤1000)
 (hP:∀ h' v',Ow h' 2 v' R→(∀ j,ownId v' j→ownId v j)→Fm (ownId v) h h'→P (.c v') h'):callW N (k+1) 412 [.c v,.c (.int .i64 0),.c (.int .i64 1)] h P:=by
 have hlen:∀ h':Hp,lenT h' .sl (.v (.c v))=some ((R.length+1:Nat):Int):=fun h'=>by rw [hv.sl.len h',List.length_cons]
 obtain ⟨id,tok,lw,rs,rfl,g1,g2,g3,g4⟩:=hv.get (by simp)
 simp only [List.length_cons] at g3 g4
 rw [List.length_cons] at hlen hv ⊢
 have s1:sliceT h 2 (.v (.c (.sl id tok 0 (R.length+1) none))) (some 0) (some 1) (some ((R.length+1:Nat):Int))=some (.sl id tok 0 1 (some (R.length+1))):=by
  simp only [sliceT,sliceV,g_def,g1]
  rw [if_pos ⟨by decide,trivial,g2⟩]
  unfold sliceB
  rw [if_pos (by simp;omega),Option.some_or]
  simp
 have s2:sliceT h 2 (.v (.c (.sl id tok 0 (R.length+1) none))) none (some 0) none=some (.sl id tok 0 0 none):=by
  simp only [sliceT,sliceV,g_def,g1]
  rw [if_pos ⟨by decide,trivial,g2⟩]
  unfold sliceB
  rw [if_pos (by simp;omega),Option.some_or]
  simp
 have s3:sliceT h 2 (.v (.c (.sl id tok 0 (R.length+1) none))) (some 1) none none=some (.sl id tok 1 R.length none):=by
  simp only [sliceT,sliceV,g_def,g1]
  rw [if_pos ⟨by decide,trivial,g2⟩]
  unfold sliceB
  rw [if_pos (by simp;omega),Option.some_or]
  simp
 have hR:R=(rs.drop 1).take R.length:=by
  have:=congrArg (List.drop 1) g4
  rw [List.drop_take] at this
  simpa using this
 have k3:SL h 2 (.sl id tok 1 R.length none) R:=⟨true,tok,lw,rs,g1,g2,by omega,hR⟩
 have z01:¬((0:Int)=1):=by decide
 refine ci rfl ?_
 obtain ⟨h1,hh1⟩:=nm ((if R=[] then h else h.put id (.rows true 2 tok tok (spliceRows rs 0 R))))
 have happ:appT h [] 2 32 (.v (.c (.sl id tok 0 0 none))) (.v (.c (.sl id tok 1 R.length none)))=some (.sl id tok 0 R.length none,h1):=by
  simp only [appT,asC_c,Option.bind_some,k3.read]
  cases hRc:R with
  | nil=>
   rw [hRc,if_pos rfl] at hh1
   simp only [appRows,hh1,List.length_nil]
  | cons z zs=>
   rw [hRc,if_neg (by simp)] at hh1
   simp only [appRows,g_def,g1]
   rw [if_pos ⟨trivial,g2,by rw [hRc] at hl;simp only [room];omega⟩,if_pos trivial,if_neg (fun e=>Nat.lt_irrefl _ e.1),if_pos ⟨trivial,by rw [hRc] at g3;simp only [List.length_cons] at g3 ⊢;omega⟩,←hh1,Nat.zero_add]
 obtain ⟨rs1,lw1,u1,l1,t1,w1⟩:∃ rs1 lw1,h1.g id=some (.rows true 2 tok lw1 rs1)∧lw1≤tok∧rs1.take R.length=R∧R.length+1≤rs1.length:=by
  by_cases hRe:R=[]
  ·rw [if_pos hRe] at hh1
   subst hh1
   exact ⟨rs,lw,g1,g2,by rw [hRe];rfl,by rw [hRe] at g3 ⊢;exact g3⟩
  ·rw [if_neg hRe] at hh1
   refine ⟨spliceRows rs 0 R,tok,by rw [hh1,g_put_eq,g1];rfl,Nat.le_refl _,?_,?_⟩
   ·unfold spliceRows
    simp
   ·unfold spliceRows
    simp only [List.take_zero,List.nil_append,List.length_append,List.length_drop,Nat.zero_add]
    omega
 have f1:Fm (fun j=>j=id) h h1:=by
  rw [hh1]
  split
  ·exact Fm.refl _ _
  ·exact Fm.put (S:=fun j=>j=id) _ _ rfl
 have hlen1:∀ h':Hp,lenT h' .sl (.v (.c (.sl id tok 0 R.length none)))=some (R.length:Int):=fun h'=>by simp [lenT,lenV]
 have s4:sliceT h1 2 (.v (.c (.sl id tok 0 R.length none))) (some (R.length:Int)) (some ((R.length+1:Nat):Int)) none=some (.sl id tok R.length 1 none):=by
  simp only [sliceT,sliceV,g_def,u1]
  rw [if_pos ⟨by decide,trivial,l1⟩]
  have e1:sliceB R.length none (some (R.length:Int)) (some ((R.length+1:Nat):Int)) none=none:=by
   unfold sliceB
   rw [if_neg (by simp;omega)]
  have e2:sliceM R.length none (some (R.length:Int)) (some ((R.length+1:Nat):Int)) none (if True then rs1.length-0 else 0)=some (R.length,R.length+1,none):=by
   unfold sliceM
   rw [if_pos trivial,if_pos (by simp;omega)]
   simp
  rw [e1,Option.none_or,e2]
  simp
 have c1:=clear_ok (h:=h1) (sz:=2) (zero:=[.int .i64 0,.nils]) (lc:=[]) (off:=R.length) (n:=1) u1 (by decide)
 obtain ⟨h2,hh2⟩:=nm (h1.put id (.rows true 2 tok tok (spliceRows rs1 R.length (List.replicate 1 [.int .i64 0,.nils]))))
 rw [←hh2] at c1
 have f2:Fm (fun j=>j=id) h1 h2:=by rw [hh2];exact Fm.put (S:=fun j=>j=id) _ _ rfl
 simp only [KK,↓reduceIte,reduceLT,reduceEqDiff,reduceAdd,reduceCtorEq,hlen,s1,z01,s2,s3,happ,hlen1,s4,c1]
 refine hP h2 _ ⟨rfl,rfl,tok,_,by rw [hh2,g_put_eq,u1];rfl,Nat.le_refl _,?_,?_⟩ (fun j hj=>hj) (f1.trans f2)
 ·unfold spliceRows
  simp
  omega
 ·unfold spliceRows
  have hl1:(rs1.take R.length).length=R.length:=by rw [t1]
  rw [t1,List.append_assoc,List.take_append_of_le_length (Nat.le_refl _),List.take_of_length_le (Nat.le_refl _)]
theorem qat_ok {x:Int × List Nat} (hq:QM S h q most (x::Q)) (hx:x.2≠[]∧x.2.length≤1000) (hQ:Q.length≤1000)
 (hP:∀ h' u,SL h' 1 u (x.2.map eB)→(∀ j,ownId u j→h.n≤j)→CapL u→Fn h h'→P (.tup [.c u,.c (.bool true)]) h'):callW N (k+2) 313 [.c (.ptr q 0 0 0),.c (.int .i64 0)] h P:=by
 obtain ⟨lost,v,vs,g1,g2,g3,g4,g5,g6,g7,g8⟩:=hq
 rcases vs with _|⟨⟨x',s⟩,vs⟩
 ·simp at g3
 simp only [List.map_cons,List.cons.injEq] at g3
 obtain ⟨rfl,g3⟩:=g3
 have hlen:∀ h':Hp,lenT h' .sl (.v (.c v))=some ((vs.length+1:Nat):Int):=fun h'=>by rw [g4.sl.len h',List.length_map,List.length_cons]
 obtain ⟨pid,ptok,pj,a1,a2⟩:=g4.sl.at (i:=0) (r:=[.int .i64 x'.1,s]) (by omega) rfl
 have c0:¬((vs.length+1:Nat):Int)≤0:=by omega
 have z0:¬((0:Int)<0):=by decide
 refine ci rfl ?_
 simp only [KK,↓reduceIte,reduceLT,reduceEqDiff,reduceAdd,reduceCtorEq,g1,hlen,c0,z0,a1,a2]
 refine cloneb_ok (k:=k) (L:=x'.2) (g5 _ (List.mem_cons_self ..)) hx.1 (by omega) fun h1 u k1 p1 f1=>?_
 simp only [KK,↓reduceIte,reduceLT]
 refine hP h1 u k1.sl p1 ?_ f1
 intro id tok off len c e
 have:=k1.cap _ _ _ _ _ e
 cases this
theorem qtake_ok {x:Int × List Nat} (hq:QM S h q most (x::Q)) (hx:x.2≠[]∧x.2.length≤1000) (hQ:Q.length≤1000)
 (hP:∀ h' u,QM S h' q most Q→SL h' 1 u (x.2.map eB)→(∀ j,ownId u j→h.n≤j)→CapL u→Fm S h h'→P (.tup [.c u,.c (.bool true)]) h'):callW N (k+3) 400 [.c (.ptr q 0 0 0),.c (.int .i64 0)] h P:=by
 refine ci rfl ?_
 simp only [KK,↓reduceIte,reduceLT,reduceEqDiff,reduceAdd,reduceCtorEq]
 refine qat_ok (k:=k) hq hx hQ fun h1 u k1 p1 c1 f1=>?_
 obtain ⟨lost,v,vs,g1,g2,g3,g4,g5,g6,g7,g8⟩:=hq.new f1
 have lq:∀ j,ownId v j→j<h.n:=by
  obtain ⟨lost',v',vs',g1',g2',g3',g4',g5',g6',g7',g8'⟩:=hq
  have:=f1.some g1' (fun e=>e)
  rw [g1] at this
  simp at this
  rw [this.1]
  exact fun j hj=>g4'.lt hj
 have lqq:q<h.n:=by
  obtain ⟨lost',v',vs',g1',_⟩:=hq
  exact lt_of_g g1'
 rcases vs with _|⟨⟨x',s⟩,vs⟩
 ·simp at g3
 simp only [List.map_cons,List.cons.injEq] at g3
 obtain ⟨rfl,g3⟩:=g3
 have hqv:=g4.qne g1 (by intro _ _ _ _ e;simp at e)
 have w1:IntKind.wrap .i64 (0+1)=1:=by decide
 simp only [KK,↓reduceIte,reduceLT,reduceEqDiff,reduceCtorEq,g1,w1]
 rw [List.map_cons] at g4
 refine qdel_ok (k:=k+1) g4 (by rw [List.length_map,←List.length_map (f:=(·.1)),g3];omega) fun h2 v2 k2 p2 f2=>?_
 have q2:=f2.some g1 hqv
 obtain ⟨h3,hh3⟩:=nm (h2.put q (.rows true 3 0 0 [[.int .i64 most,v2,.int .i64 lost]]))
 have f3:Fm (fun j=>j=q) h2 h3:=by rw [hh3];exact Fm.put (S:=fun j=>j=q) _ _ rfl
 simp only [KK,↓reduceIte,reduceLT,reduceEqDiff,reduceAdd,reduceLeDiff,reduceCtorEq,q2,hh3.symm]
 have keep:∀ {x:CV} {L:List (List CV)},SL h1 1 x L→SL h3 1 x L:=by
  intro x L kx
  refine (kx.off f2 (sl_ne kx g4 (by decide))).off f3 (fun j hj e=>?_)
  subst e
  cases x <;> simp only [ownId] at hj
  subst hj
  obtain ⟨_,_,_,_,e2,_⟩:=kx
  rw [g1] at e2
  simp at e2
 refine hP h3 u ⟨lost,v2,vs,by rw [hh3,g_put_eq,q2];rfl,g2,g3,k2.mono f3 (fun j hj e=>hqv (by rw [←e];exact p2 j hj)),fun x hx=>keep (g5 x (List.mem_cons_of_mem _ hx)),g6,fun j hj=>g7 j (p2 j hj),fun x hx=>g8 x (List.mem_cons_of_mem _ hx)⟩ (keep k1) p1 c1 ?_
 exact (f1.mono (fun _ _ e=>e.elim)).trans ((f2.mono fun j _ e=>g7 j e).trans (f3.mono fun j _ e=>by rw [e];exact g6))
end
end
section
set_option maxHeartbeats 8000000
structure NodeAt (B C:Nat→Prop) (h:Hp) (p:Nat) (x:NodeX) (y:ClkX) (Q:List (Int × List Nat)) (E:List (List CV)):Prop where
 node:NdR h p x
 clk:ClkAt h x.ck y
 ok:y.Ok
 que:QM C h x.qp x.qu Q
 ev:Ow h 10 x.ev E
 bl:∀ j,B j→j<h.n
 cl:∀ j,C j→j<h.n
 bc:∀ j,B j→¬C j
 pb:¬B p
 pc:¬C p
 cb:¬B x.ck
 cc:¬C x.ck
 eb:∀ j,ownId x.ev j→¬B j∧¬C j
structure ParAt (B:Nat→Prop) (h:Hp) (x:NodeX) (rank:Int) (L:List Pr) (ke since:Int):Prop where
 ex:∃ s kc v,x.pp = .ptr s 0 0 0∧x.kp = .ptr kc 0 0 0∧PS h s x.id rank v L∧KepAt h kc ke since∧B s∧B kc∧(∀ j,ownId v j→B j)
 iv:Ivt x.id rank L
 rk:0≤rank∧rank≤255
 si:0≤since∧since≤1000000
def Bx (B:Nat→Prop) (h h':Hp) (j:Nat):Prop:=B j∨(h.n≤j∧j<h'.n)
theorem ow_lt {h:Hp} {sz:Nat} {v:CV} {rows:List (List CV)} (k:Ow h sz v rows):∀ j,ownId v j→j<h.n:=fun j hj=>k.lt hj
theorem NodeAt.pe {B C:Nat→Prop} {h:Hp} {p:Nat} {x:NodeX} {y:ClkX} {Q:List (Int × List Nat)} {E:List (List CV)} (k:NodeAt B C h p x y Q E):¬ownId x.ev p:=k.node.own k.ev (by decide)
theorem NodeAt.ce {B C:Nat→Prop} {h:Hp} {p:Nat} {x:NodeX} {y:ClkX} {Q:List (Int × List Nat)} {E:List (List CV)} (k:NodeAt B C h p x y Q E):¬ownId x.ev x.ck:=k.ev.qne k.clk (by intro _ _ _ _ e;simp at e)
theorem NodeAt.ne {B C:Nat→Prop} {h:Hp} {p:Nat} {x:NodeX} {y:ClkX} {Q:List (Int × List Nat)} {E:List (List CV)} (k:NodeAt B C h p x y Q E):p≠x.ck:=ne_of_g k.node k.clk (by unfold NodeX.row;simp)
theorem NodeAt.new {B C:Nat→Prop} {h h':Hp} {p:Nat} {x:NodeX} {y:ClkX} {Q:List (Int × List Nat)} {E:List (List CV)} (k:NodeAt B C h p x y Q E) (f:Fn h h'):NodeAt B C h' p x y Q E:=
 ⟨k.node.keep f (fun e=>e),f.some k.clk (fun e=>e),k.ok,k.que.new f,k.ev.new f,fun j hj=>Nat.lt_of_lt_of_le (k.bl j hj) f.n,fun j hj=>Nat.lt_of_lt_of_le (k.cl j hj) f.n,k.bc,k.pb,k.pc,k.cb,k.cc,k.eb⟩
theorem NodeAt.par {B C T:Nat→Prop} {h h':Hp} {p:Nat} {x:NodeX} {y:ClkX} {Q:List (Int × List Nat)} {E:List (List CV)} (k:NodeAt B C h p x y Q E) (f:Fm T h h') (hT:∀ j,T j→B j):NodeAt (Bx B h h') C h' p x y Q E:=by
 have hpl:=k.node.lt
 have hcl:=lt_of_g k.clk
 have hn:=f.n
 refine ⟨k.node.keep f (fun e=>k.pb (hT _ e)),f.some k.clk (fun e=>k.cb (hT _ e)),k.ok,k.que.keep f (fun j hj _ e=>k.bc j (hT j e) hj),k.ev.mono f (fun j hj e=>(k.eb j hj).1 (hT j e)),?_,fun j hj=>Nat.lt_of_lt_of_le (k.cl j hj) f.n,?_,?_,k.pc,?_,k.cc,?_⟩
 ·rintro j (hj|hj)
  ·have:=k.bl j hj;omega
  ·exact hj.2
 ·rintro j (hj|hj) hc
  ·exact k.bc j hj hc
  ·have:=k.cl j hc;omega
 ·rintro (e|e)
  ·exact k.pb e
  ·omega
 ·rintro (e|e)
  ·exact k.cb e
  ·omega
 ·intro j hj
  refine ⟨?_,(k.eb j hj).2⟩
  rintro (e|e)
  ·exact (k.eb j hj).1 e
  ·have:=ow_lt k.ev j hj;omega
theorem ParAt.keep {B T:Nat→Prop} {h h':Hp} {x x':NodeX} {rank:Int} {L:List Pr} {ke since:Int} (k:ParAt B h x rank L ke since) (f:Fm T h h') (hT:∀ j,B j→¬T j) (e1:x'.pp=x.pp) (e2:x'.kp=x.kp) (e3:x'.id=x.id):ParAt B h' x' rank L ke since:=by
 obtain ⟨⟨s,kc,v,a1,a2,a3,a4,a5,a6,a7⟩,iv,rk,si⟩:=k
 exact ⟨⟨s,kc,v,e1.trans a1,e2.trans a2,by rw [e3];exact a3.mono f (hT s a5) (fun j hj=>hT j (a7 j hj)),f.some a4 (hT kc a6),a5,a6,a7⟩,by rw [e3];exact iv,rk,si⟩
section
variable {k:Nat} {h:Hp} {P:AV→Hp→Prop} {B C:Nat→Prop} {p:Nat} {x:NodeX} {y:ClkX} {Q:List (Int × List Nat)} {E:List (List CV)}
theorem nevent_ok {kd src:Int} (hx:NodeAt B C h p x y Q E) (hE:E.length≤100000)
 (hP:∀ h' w,NodeAt B C h' p {x with ev:=w} y Q (E++[evR kd x.id src])→Fm (fun j=>j=p∨ownId x.ev j) h h'→(∀ j,ownId w j→ownId x.ev j∨h.n≤j)→P (.tup []) h') :
 callW N (k+1) 384 [.c (.ptr p 0 0 0),.c (.int .i64 kd),.c (.int .i64 src)] h P:=by
 refine event_ok hx.node hx.ev hE fun h1 w x1 w1 f1 p1=>?_
 have hpl:=hx.node.lt
 refine hP h1 w ⟨x1,f1.some hx.clk ?_,hx.ok,hx.que.keep f1 ?_,w1,fun j hj=>Nat.lt_of_lt_of_le (hx.bl j hj) f1.n,fun j hj=>Nat.lt_of_lt_of_le (hx.cl j hj) f1.n,hx.bc,hx.pb,hx.pc,hx.cb,hx.cc,?_⟩ f1 p1
 ·rintro (e|e)
  ·exact hx.ne e.symm
  ·exact hx.ce e
 ·rintro j hj _ (e|e)
  ·subst e;exact hx.pc hj
  ·exact (hx.eb j e).2 hj
 ·intro j hj
  rcases p1 j hj with e|e
  ·exact hx.eb j e
  ·exact ⟨fun e2=>by have:=hx.bl j e2;omega,fun e2=>by have:=hx.cl j e2;omega⟩
theorem nmoves_ok {rank ke since src t:Int} {L:List Pr} (hx:NodeAt B C h p x y Q E) (hp:ParAt B h x rank L ke since) (hE:E.length≤100000)
 (hP:∀ h' w,NodeAt B C h' p {x with ev:=w} (y.move t) Q (E++[evR 7 x.id src])→ParAt B h' {x with ev:=w} rank L ke 0→Fm (fun j=>j=p∨j=x.ck∨B j∨ownId x.ev j) h h'→(∀ j,ownId w j→ownId x.ev j∨h.n≤j)→P (.tup []) h') :
 callW N (k+3) 404 [.c (.ptr p 0 0 0),.c (.int .i64 src),.c (.int .i64 t)] h P:=by
 obtain ⟨⟨s,kc,v,a1,a2,a3,a4,a5,a6,a7⟩,iv,rk,si⟩:=hp
 refine moves_ok hx.node hx.clk hx.ok a2 a4 hx.ev hE fun h1 w x1 c1 k1 w1 f1 p1=>?_
 have f1':Fm (fun j=>j=p∨j=x.ck∨j=kc∨ownId x.ev j) h h1:=f1
 refine hP h1 w ⟨x1,c1,hx.ok.move t,hx.que.keep f1 ?_,w1,fun j hj=>Nat.lt_of_lt_of_le (hx.bl j hj) f1.n,fun j hj=>Nat.lt_of_lt_of_le (hx.cl j hj) f1.n,hx.bc,hx.pb,hx.pc,hx.cb,hx.cc,?_⟩ ⟨⟨s,kc,v,a1,a2,a3.mono f1 ?_ ?_,k1,a5,a6,a7⟩,iv,rk,by omega⟩ (f1.mono fun j _ e=>?_) p1
 ·rintro j hj _ (e|e|e|e)
  ·subst e;exact hx.pc hj
  ·subst e;exact hx.cc hj
  ·subst e;exact hx.bc _ a6 hj
  ·exact (hx.eb j e).2 hj
 ·intro j hj
  rcases p1 j hj with e|e
  ·exact hx.eb j e
  ·exact ⟨fun e2=>by have:=hx.bl j e2;omega,fun e2=>by have:=hx.cl j e2;omega⟩
 ·rintro (e|e|e|e)
  ·subst e;exact hx.pb a5
  ·subst e;exact hx.cb a5
  ·exact (ne_of_g a3.1 a4 (by simp)) e
  ·exact (hx.eb s e).1 a5
 ·rintro j hj (e|e|e|e)
  ·subst e;exact hx.pb (a7 _ hj)
  ·subst e;exact hx.cb (a7 _ hj)
  ·subst e;exact (a3.2.1.qne a4 (by intro _ _ _ _ e;simp at e)) hj
  ·exact (hx.eb j e).1 (a7 j hj)
 ·rcases e with e|e|e|e
  ·exact .inl e
  ·exact .inr (.inl e)
  ·subst e;exact .inr (.inr (.inl a6))
  ·exact .inr (.inr (.inr e))
theorem pfirst_ok {rank ke since:Int} {L:List Pr} (hx:NodeAt B C h p x y Q E) (hp:ParAt B h x rank L ke since) (hP:P (.c (.int .i64 (firstL L))) h):callW N (k+2) 274 [.c (.ptr p 0 0 0)] h P:=by
 obtain ⟨⟨s,kc,v,a1,a2,a3,a4,a5,a6,a7⟩,iv,rk,si⟩:=hp
 exact nfirst_ok hx.node a1 a3 hP
def folE (id was now:Int):List (List CV):=if now=was∨now=64 then [] else [evR 6 id now]
theorem nfollows_ok {rank ke since was:Int} {L:List Pr} (hx:NodeAt B C h p x y Q E) (hp:ParAt B h x rank L ke since) (hE:E.length≤100000)
 (hP:∀ h' w,NodeAt B C h' p {x with ev:=w} y Q (E++folE x.id was (firstL L))→ParAt B h' {x with ev:=w} rank L ke since→Fm (fun j=>j=p∨ownId x.ev j) h h'→(∀ j,ownId w j→ownId x.ev j∨h.n≤j)→P (.tup []) h') :
 callW N (k+3) 383 [.c (.ptr p 0 0 0),.c (.int .i64 was)] h P:=by
 refine ci rfl ?_
 simp only [KK,↓reduceIte,reduceLT,reduceAdd]
 refine pfirst_ok (k:=k) hx hp ?_
 have same:firstL L=was∨firstL L=64→P (.tup []) h:=fun e=>by
  have:=hP h x.ev
  unfold folE at this
  rw [if_pos e,List.append_nil] at this
  exact this hx hp (Fm.refl _ _) (fun j hj=>.inl hj)
 by_cases c1:firstL L=was
 ·simp only [KK,↓reduceIte,reduceLT,reduceEqDiff,reduceCtorEq,c1]
  exact same (.inl c1)
 ·by_cases c2:firstL L=64
  ·have c3:¬(64:Int)=was:=by rw [←c2];exact c1
   simp only [KK,↓reduceIte,reduceLT,reduceEqDiff,reduceCtorEq,c2,c3]
   exact same (.inr c2)
  ·simp only [KK,↓reduceIte,reduceLT,reduceEqDiff,reduceCtorEq,c1,c2]
   refine nevent_ok (k:=k+1) hx hE fun h1 w x1 f1 p1=>?_
   simp only [KK]
   have:=hP h1 w
   unfold folE at this
   rw [if_neg (by simp [c1,c2])] at this
   refine this x1 (hp.keep f1 ?_ rfl rfl rfl) f1 p1
   rintro j hj (e|e)
   ·subst e;exact hx.pb hj
   ·exact (hx.eb j e).1 hj
end
end
section
set_option maxHeartbeats 8000000
def heardY (y:ClkX) (src t f:Int):ClkX:=if f=src then y.move t else y
def heardE (id src was f:Int):List (List CV):=(if f=src then [evR 7 id src] else [])++folE id was f
def heardS (since src f:Int):Int:=if f=src then 0 else since
section
variable {k:Nat} {h:Hp} {P:AV→Hp→Prop} {B C:Nat→Prop} {p:Nat} {x:NodeX} {y:ClkX} {Q:List (Int × List Nat)} {E:List (List CV)}
theorem nhears_ok {rank ke since src r now t:Int} {L:List Pr} (hx:NodeAt B C h p x y Q E) (hp:ParAt B h x rank L ke since) (hE:E.length≤10000) (hsrc:src≤15)
 (hP:∀ h' w B',NodeAt B' C h' p {x with ev:=w} (heardY y src t (firstL (hearS x.id rank L src r now).2.1)) Q (E++heardE x.id src (firstL L) (firstL (hearS x.id rank L src r now).2.1))→
  ParAt B' h' {x with ev:=w} (hearS x.id rank L src r now).1 (hearS x.id rank L src r now).2.1 ke (heardS since src (firstL (hearS x.id rank L src r now).2.1))→
  (∀ j,B' j→B j∨h.n≤j)→Fm (fun j=>j=p∨j=x.ck∨B j∨ownId x.ev j) h h'→(∀ j,ownId w j→ownId x.ev j∨h.n≤j)→P (.tup []) h') :
 callW N (k+8) 391 [.c (.ptr p 0 0 0),.c (.int .i64 src),.c (.int .i64 r),.c (.int .i64 now),.c (.int .i64 t)] h P:=by
 obtain ⟨hs1,hs2⟩:=Ivt.hear hp.iv hp.rk src r now
 have hrk:=hp.rk
 have hp0:=hp
 obtain ⟨⟨s,kc,v,a1,a2,a3,a4,a5,a6,a7⟩,iv,rk,si⟩:=hp
 refine ci rfl ?_
 simp only [KK,↓reduceIte,reduceLT,reduceAdd]
 refine pfirst_ok (k:=k+5) hx hp0 ?_
 have x1:=hx.node
 unfold NdR NodeX.row at x1
 rw [a1] at x1
 simp only [KK,↓reduceIte,reduceLT,reduceEqDiff,reduceCtorEq,x1]
 refine hear_ok (k:=k) a3 iv rk fun h1 v1 s1 f1 p1=>?_
 have hx1:=hx.par f1 (by rintro j (e|e);· subst e;exact a5
                         ·exact a7 j e)
 have hn1:=f1.n
 have hp1:ParAt (Bx B h h1) h1 x (hearS x.id rank L src r now).1 (hearS x.id rank L src r now).2.1 ke since:=by
  refine ⟨⟨s,kc,v1,a1,a2,s1,f1.some a4 ?_,.inl a5,.inl a6,?_⟩,hs1,by omega,si⟩
  ·rintro (e|e)
   ·exact (ne_of_g a3.1 a4 (by simp)) e.symm
   ·exact (a3.2.1.qne a4 (by intro _ _ _ _ e;simp at e)) e
  ·intro j hj
   rcases p1 j hj with e|e
   ·exact .inl (a7 j e)
   ·exact .inr ⟨e,s1.2.1.lt hj⟩
 have f1':Fm (fun j=>j=p∨j=x.ck∨B j∨ownId x.ev j) h h1:=f1.mono fun j _ e=>.inr (.inr (.inl (e.elim (fun e=>by subst e;exact a5) (a7 j))))
 generalize hh:hearS x.id rank L src r now=H at *
 obtain ⟨rank',L',ok⟩:=H
 simp only at *
 simp only [KK,↓reduceIte,reduceLT,reduceEqDiff,reduceCtorEq]
 refine pfirst_ok (k:=k+5) hx1 hp1 ?_
 by_cases hc:firstL L'=src
 ·have d1:decide (firstL L'=src)=true:=by simp [hc]
  simp only [KK,↓reduceIte,reduceLT,reduceEqDiff,reduceCtorEq,d1]
  refine nmoves_ok (k:=k+4) (src:=src) (t:=t) hx1 hp1 (by omega) fun h2 w2 x2 p2 f2 q2=>?_
  simp only [KK,↓reduceIte,reduceLT,reduceEqDiff,reduceCtorEq]
  refine nfollows_ok (k:=k+4) (was:=firstL L) x2 p2 (by rw [List.length_append,List.length_singleton];omega) fun h3 w3 x3 p3 f3 q3=>?_
  simp only [KK]
  have:=hP h3 w3 (Bx B h h1)
  unfold heardY heardE heardS at this
  rw [if_pos hc,if_pos hc,if_pos hc,←List.append_assoc] at this
  have ow2:∀ j,ownId w2 j→ownId x.ev j∨h.n≤j:=fun j hj=>(q2 j hj).elim .inl (fun e=>.inr (by omega))
  refine this x3 p3 (fun j hj=>hj.elim .inl (fun e=>.inr e.1)) ?_ (fun j hj=>(q3 j hj).elim (ow2 j) (fun e=>.inr (by have:=f2.n;omega)))
  refine (f1'.comp f2 (fun j hj e=>?_)).comp f3 (fun j hj e=>?_)
  ·rcases e with e|e|(e|e)|e
   ·exact .inl e
   ·exact .inr (.inl e)
   ·exact .inr (.inr (.inl e))
   ·omega
   ·exact .inr (.inr (.inr e))
  ·rcases e with e|e
   ·exact .inl e
   ·rcases ow2 j e with e|e
    ·exact .inr (.inr (.inr e))
    ·omega
 ·simp only [KK,↓reduceIte,reduceLT,reduceEqDiff,reduceCtorEq,hc]
  refine nfollows_ok (k:=k+4) (was:=firstL L) hx1 hp1 (by omega) fun h3 w3 x3 p3 f3 q3=>?_
  simp only [KK]
  have:=hP h3 w3 (Bx B h h1)
  unfold heardY heardE heardS at this
  rw [if_neg hc,if_neg hc,if_neg hc,List.nil_append] at this
  refine this x3 p3 (fun j hj=>hj.elim .inl (fun e=>.inr e.1)) ?_ (fun j hj=>(q3 j hj).elim .inl (fun e=>.inr (by omega)))
  exact f1'.trans (f3.mono fun j _ e=>e.elim .inl (fun e=>.inr (.inr (.inr e))))
end
end
section
set_option maxHeartbeats 8000000
section
variable {k:Nat} {h:Hp} {P:AV→Hp→Prop} {B C:Nat→Prop} {p:Nat} {x:NodeX} {y:ClkX} {Q:List (Int × List Nat)} {E:List (List CV)}
theorem nback_no {F:Fv} {o dat:CV} {now m:Int} (hx:NdR h p x) (hd:¬(F.dst:Int)=x.id) (hP:P (.c .nils) h) :
 callW N (k+1) 392 [.c (.ptr p 0 0 0),.agg (F.row o dat),.c (.int .i64 now),.c (.int .i64 m)] h P:=by
 unfold NdR NodeX.row at hx
 unfold Fv.row
 refine ci rfl ?_
 simp only [KK,↓reduceIte,reduceLT,reduceEqDiff,reduceAdd,reduceCtorEq,hx,hd]
 exact hP
theorem ntells_ok (hx:NodeAt B C h p x y Q E) (hP:∀ h',NodeAt B C h' p {x with ev:=.nils} y Q []→Ow h' 10 x.ev E→Fm (fun j=>j=p) h h'→P (.c x.ev) h'):callW N (k+1) 380 [.c (.ptr p 0 0 0)] h P:=by
 refine tells_ok hx.node fun h1 x1 f1=>?_
 refine hP h1 ⟨x1,f1.some hx.clk (fun e=>hx.ne e.symm),hx.ok,hx.que.keep f1 (fun j hj _ e=>hx.pc (by rw [←e];exact hj)),rfl,fun j hj=>Nat.lt_of_lt_of_le (hx.bl j hj) f1.n,fun j hj=>Nat.lt_of_lt_of_le (hx.cl j hj) f1.n,hx.bc,hx.pb,hx.pc,hx.cb,hx.cc,fun j hj=>hj.elim⟩
  (hx.ev.mono f1 (fun j hj e=>hx.pe (by rw [←e];exact hj))) f1
theorem nhear_sy {rank ke since now m:Int} {L:List Pr} {u:CV} {W:List Nat} (ha:0≤now∧now<1099511627776) (hx:NodeAt B C h p x y Q []) (hp:ParAt B h x rank L ke since) (hsy:x.sy=true) (hev:x.ev = .nils)
 (hn:0≤x.n∧x.n≤16) (hid:x.id≠0) (hu:SL h 1 u (W.map eB)) (hcu:CapL u) (hL:∀ c∈W,c<256) (hl:W.length≤100000)
 (hdst:∀ F,hearC x W now=some F→¬(F.dst:Int)=x.id)
 (hA:∀ h',hearC x W now=none→NodeAt B C h' p x y Q []→ParAt B h' x rank L ke since→Fn h h'→P (.tup [.c .nils,.c .nils]) h')
 (hB:∀ F h' w B',hearC x W now=some F→
  NodeAt B' C h' p x (heardY y F.src (clampM m) (firstL (hearS x.id rank L F.src (rankD F.ies now).1 now).2.1)) Q []→
  ParAt B' h' x (hearS x.id rank L F.src (rankD F.ies now).1 now).1 (hearS x.id rank L F.src (rankD F.ies now).1 now).2.1 ke (heardS since F.src (firstL (hearS x.id rank L F.src (rankD F.ies now).1 now).2.1))→
  Ow h' 10 w (evR 1 x.id F.src::heardE x.id F.src (firstL L) (firstL (hearS x.id rank L F.src (rankD F.ies now).1 now).2.1))→(∀ j,ownId w j→h.n≤j)→
  (∀ j,B' j→B j∨h.n≤j)→Fm (fun j=>j=p∨j=x.ck∨B j) h h'→P (.tup [.c .nils,.c w]) h') :
 callW N (k+11) 343 [.c (.ptr p 0 0 0),.c (.int .i64 now),.c u,.c (.int .i64 m)] h P:=by
 have e1:decide (0≤now∧now<1099511627776)=true:=by simp;omega
 have hx':=hx.node
 unfold NdR NodeX.row at hx'
 rw [hsy] at hx'
 refine ci rfl ?_
 simp only [KK,↓reduceIte,reduceLT,reduceEqDiff,reduceAdd,reduceCtorEq]
 refine nasn_ok (k:=k+9) ?_
 simp only [KK,↓reduceIte,reduceLT,reduceEqDiff,reduceCtorEq,e1]
 refine decode_ok (k:=k) hu hcu hL hl (fun F h1 o dat hd hio hdat hdo f1=>?_) (fun h1 e hd he f1=>?_)
 case refine_2=>
  have he2:¬e=0:=he
  simp only [z6]
  simp only [KK,↓reduceIte,reduceLT,reduceEqDiff,reduceAdd,reduceCtorEq,he2]
  exact hA h1 (by unfold hearC;rw [hd];rfl) (hx.new f1) (hp.keep f1 (fun _ _ e=>e) rfl rfl rfl) f1
 obtain ⟨hg,hl4,hsq⟩:=decF_good hL hd
 have x1:=hx.new f1
 have p1:=hp.keep (x':=x) f1 (fun _ _ e=>e) rfl rfl rfl
 have x1':=f1.some hx' (fun e=>e)
 simp only [Fv.row]
 simp only [KK,↓reduceIte,reduceLT,reduceEqDiff,reduceAdd,reduceCtorEq]
 refine nhas_ok (k:=k+8) x1.node (by omega) ?_
 by_cases hhas:0≤(F.src:Int)∧(F.src:Int)≤x.n-1
 case neg=>
  have e2:decide (0≤(F.src:Int)∧(F.src:Int)≤x.n-1)=false:=by simp only [hhas,decide_false]
  simp only [KK,↓reduceIte,reduceLT,reduceEqDiff,reduceCtorEq,e2]
  refine hA h1 ?_ x1 p1 f1
  unfold hearC
  rw [hd,Option.bind_some,if_neg (fun e=>hhas e.1)]
 have e2:decide (0≤(F.src:Int)∧(F.src:Int)≤x.n-1)=true:=by simp only [hhas,decide_true,and_self]
 by_cases hown:(F.src:Int)=x.id
 ·have e3:decide ((F.src:Int)=x.id)=true:=by simp [hown]
  simp only [KK,↓reduceIte,reduceLT,reduceEqDiff,reduceCtorEq,e2,x1',e3]
  refine hA h1 ?_ x1 p1 f1
  unfold hearC
  rw [hd,Option.bind_some,if_neg (fun e=>e.2.1 hown)]
 simp only [KK,↓reduceIte,reduceLT,reduceEqDiff,reduceAdd,reduceCtorEq,e2,x1',hown]
 refine frank_ok (k:=k+7) (F:=F) hio hg hl4 fun h2 f2=>?_
 have x2:=x1.new f2
 have p2:=p1.keep (x':=x) f2 (fun _ _ e=>e) rfl rfl rfl
 have x2':=f2.some x1' (fun e=>e)
 by_cases hok:(rankD F.ies now).2=true
 case neg=>
  have hok':(rankD F.ies now).2=false:=by simpa using hok
  simp only [KK,↓reduceIte,reduceLT,reduceEqDiff,reduceCtorEq,hok']
  refine hA h2 ?_ x2 p2 (f1.trans f2)
  unfold hearC
  rw [hd,Option.bind_some,if_neg (fun e=>hok e.2.2)]
 have hC:hearC x W now=some F:=by
  unfold hearC
  rw [hd,Option.bind_some,if_pos ⟨hhas,hown,hok⟩]
 have hdd:=hdst F hC
 simp only [KK,↓reduceIte,reduceLT,reduceEqDiff,reduceCtorEq,hok,x2']
 have hmm:max (-30000) (min m 30000)=clampM m:=rfl
 rw [hmm]
 have n12:=(f1.trans f2).n
 refine nevent_ok (k:=k+9) x2 (by simp) fun h3 w3 x3 f3 q3=>?_
 have own0:∀ j,¬ownId x.ev j:=by intro j;rw [hev];exact id
 have p3:ParAt B h3 {x with ev:=w3} rank L ke since:=p2.keep f3 (by
  rintro j hj (e|e)
  ·subst e;exact hx.pb hj
  ·exact own0 j e) rfl rfl rfl
 have x3':=x3.node
 unfold NdR NodeX.row at x3'
 simp only [KK,↓reduceIte,reduceLT,reduceEqDiff,reduceCtorEq,x3',hid]
 refine nhears_ok (k:=k+2) (r:=(rankD F.ies now).1) x3 p3 (by simp) (by omega) fun h4 w4 B4 x4 p4 b4 f4 q4=>?_
 rw [List.nil_append] at x4
 have own4:∀ j,ownId w4 j→h.n≤j:=by
  intro j hj
  have n3:=f3.n
  rcases q4 j hj with e|e
  ·rcases q3 j e with e|e
   ·exact absurd e (own0 j)
   ·omega
  ·omega
 have F4:Fm (fun j=>j=p∨j=x.ck∨B j) h h4:=by
  refine (((f1.trans f2).mono fun _ _ e=>e.elim).trans (f3.mono fun j _ e=>?_)).comp f4 (fun j hj e=>?_)
  ·rcases e with e|e
   ·exact .inl e
   ·exact absurd e (own0 j)
  ·rcases e with e|e|e|e
   ·exact .inl e
   ·exact .inr (.inl e)
   ·exact .inr (.inr e)
   ·rcases q3 j e with e|e
    ·exact absurd e (own0 j)
    ·omega
 generalize hH:hearS x.id rank L F.src (rankD F.ies now).1 now=H at *
 obtain ⟨rank',L',ok'⟩:=H
 simp only at *
 have nb:∀ j,B4 j→B j∨h.n≤j:=fun j hj=>(b4 j hj).elim .inl (fun e=>.inr (by have:=f3.n;omega))
 have fin:∀ h5,NodeAt B4 C h5 p x (heardY y F.src (clampM m) (firstL L')) Q []→Ow h5 10 w4 ([evR 1 x.id F.src]++heardE x.id F.src (firstL L) (firstL L'))→Fm (fun j=>j=p) h4 h5→P (.tup [.c .nils,.c w4]) h5:=by
  intro h5 x5 w5 f5
  have hB:=hB F h5 w4 B4 hC
  rw [hH] at hB
  refine hB x5 (p4.keep f5 (fun j hj e=>x4.pb (by rw [←e];exact hj)) ?_ ?_ ?_) w5 own4 nb (F4.trans (f5.mono fun j _ e=>.inl e))
  ·rfl
  ·rfl
  ·rfl
 have xe:({({x with ev:=w4}:NodeX) with ev:=.nils}:NodeX)=x:=by rw [←hev]
 simp only [KK,↓reduceIte,reduceLT,reduceEqDiff,reduceCtorEq]
 refine pfirst_ok (k:=k+8) x4 p4 ?_
 by_cases hf:firstL L'=64
 ·have d1:decide (firstL L'=64)=true:=by simp [hf]
  simp only [KK,↓reduceIte,reduceLT,reduceEqDiff,reduceCtorEq,d1]
  refine ntells_ok (k:=k+9) x4 fun h5 x5 w5 f5=>?_
  simp only [KK,↓reduceIte,reduceLT,reduceEqDiff]
  exact fin h5 (by rw [xe] at x5;exact x5) w5 f5
 ·simp only [KK,↓reduceIte,reduceLT,reduceEqDiff,reduceAdd,reduceCtorEq,hf]
  refine nback_no (k:=k+9) (F:=F) x4.node hdd ?_
  simp only [KK,↓reduceIte,reduceLT,reduceCtorEq]
  refine ntells_ok (k:=k+9) x4 fun h5 x5 w5 f5=>?_
  simp only [KK,↓reduceIte,reduceLT,reduceEqDiff]
  exact fin h5 (by rw [xe] at x5;exact x5) w5 f5
end
end
end Camp
