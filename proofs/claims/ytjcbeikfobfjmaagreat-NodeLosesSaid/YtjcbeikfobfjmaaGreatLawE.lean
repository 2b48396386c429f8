/- The reference makes a frame of one element: what may be; bytes. The reference makes a frame of one element. The reference makes a frame of one element: its bytes. A frame of one element is read again. -/
import Derived.Test.YtjcbeikfobfjmaaGreatLawD
set_option linter.unnecessarySimpa false
set_option linter.unusedVariables false
set_option linter.unusedSimpArgs false
set_option linter.unusedSectionVars false
namespace Camp
open Go
open Nat (reduceLT reduceEqDiff reduceAdd reduceLeDiff reduceSub reduceMul)
section
set_option maxHeartbeats 4000000
theorem app_new {h:Hp} {lc:List (List CV)} {sz bytes id tok off len q cur lw:Nat} {wr:Bool} {rs xs:List (List CV)} {x:TV} (h1:h.g id=some (.rows wr sz cur lw rs)) (h2:lw≤tok) (hx:sliceRows h lc sz x=some xs) (hne:xs≠[])
 (hq:q<len+xs.length) (hb:(len+xs.length) * bytes≤room) :
 appT h lc sz bytes (.v (.c (.sl id tok off len (some q)))) x=some (.sl h.n 0 0 (len+xs.length) none,h.push (.rows true sz 0 0 ((rs.drop off).take len++xs))):=by
 cases xs with
 | nil=>exact absurd rfl hne
 | cons y ys=>
  simp only [appT,asC_c,Option.bind_some,hx,appRows,g_def,h1]
  rw [if_pos ⟨trivial,h2,hb⟩,if_neg (by omega)]
  rfl
theorem be_take (n:Nat):∀ (m t:Nat),t<m→(be m n).take (t+1)=(be m n).take t++[n / 2 ^ (8 * (m-1-t)) % 256]
 | 0,t,h=>by omega
 | m+1,0,h=>by simp [be]
 | m+1,t+1,h=>by
  have:=be_take n m t (by omega)
  simp only [be,List.take_succ_cons,List.cons_append,this]
  rw [show m+1-1-(t+1)=m-1-t by omega]
def yB (a r:Nat):List Nat:=1::1::6::(be 5 a++[r])
theorem yB_lt {a r:Nat} (hr:r≤255):∀ c∈yB a r,c<256:=by
 intro c hc
 simp only [yB,List.mem_cons,List.mem_append,List.not_mem_nil,or_false] at hc
 rcases hc with rfl|rfl|rfl|hc|rfl
 ·omega
 ·omega
 ·omega
 ·exact be_lt a 5 c hc
 ·omega
theorem yB_len (a r:Nat):(yB a r).length=9:=by simp [yB,be_len]
def yR (a r:Nat):List CV:=[.int .i64 1,.int .i64 (a:Int),.int .i64 (r:Int),.int .i64 0,.nils]
section
variable {k:Nat} {h:Hp} {P:AV→Hp→Prop}
theorem rasn_ok {a:Int} (ha:0≤a∧a<1099511627776) (hP:P (.c (.bool true)) h):callW N (k+1) 326 [.c (.int .i64 a)] h P:=by
 refine ci rfl ?_
 simp only [KK,↓reduceIte,reduceLT,reduceEqDiff,reduceCtorEq,ha.1,ha.2,hP]
theorem rnode_ok {x:Int} {r:Bool} (hr:r=decide (0≤x∧x<16)) (hP:P (.c (.bool r)) h):callW N (k+1) 44 [.c (.int .i64 x)] h P:=by
 refine ci rfl ?_
 by_cases c1:0≤x
 ·by_cases c2:x<16
  ·have:r=true:=by rw [hr];simp [c1,c2]
   subst this
   simp only [KK,↓reduceIte,reduceLT,reduceEqDiff,reduceCtorEq,c1,c2,hP]
  ·have:r=false:=by rw [hr];simp [c2]
   subst this
   simp only [KK,↓reduceIte,reduceLT,reduceEqDiff,reduceCtorEq,c1,c2,hP]
 ·have:r=false:=by rw [hr];simp [c1]
  subst this
  simp only [KK,↓reduceIte,reduceLT,reduceEqDiff,reduceCtorEq,c1,hP]
theorem rmayS_ok {a r:Nat} (ha:a<1099511627776) (hr:r≤255) (hP:P (.c (.bool true)) h):callW N (k+2) 303 [.agg (yR a r)] h P:=by
 have hl0:∀ h',lenT h' .sl (.v (.c .nils))=some 0:=fun _=>rfl
 have z1:(r:Int)≤255:=by omega
 have z2:(0:Int)≤(r:Int):=by omega
 unfold yR
 refine ci rfl ?_
 simp only [KK,↓reduceIte,reduceLT,reduceEqDiff,reduceAdd]
 refine rasn_ok (k:=k) (by omega) ?_
 simp only [KK,↓reduceIte,reduceLT,reduceEqDiff,hl0,z1,z2,hP]
def ByI (h0:Hp) (m n:Nat) (c:Nat) (s:St):Prop:=∃ (i:Nat) (l:List (Nat × TV)) (h':Hp) (w:CV),s=ST 23 l [] h'∧i≤m∧c=m-i∧Ow h' 1 w (((be m n).take i).map eB)∧(∀ j,ownId w j→h0.n≤j)∧Fn h0 h'∧
 lk l 0 = .v (.c (.int .u64 n))∧lk l 5 = .v (.c w)∧lk l 6 = .v (.c (.int .i64 ((m:Int)-1-i)))
theorem rbytes_ok {m n:Nat} (hm:m≤8) (hn:n<2 ^ 64) (hP:∀ h' u,Ow h' 1 u ((be m n).map eB)→(∀ j,ownId u j→h.n≤j)→Fn h h'→P (.c u) h'):callW N (k+1) 437 [.c (.int .u64 (n:Nat)),.c (.int .i64 (m:Nat))] h P:=by
 have w1:IntKind.wrap .i64 ((m:Int)-1)=(m:Int)-1-((0:Nat):Int):=by rw [wrap_i64 (by omega)];omega
 refine ci rfl ?_
 simp only [KK,↓reduceIte,reduceLT,reduceEqDiff,reduceAdd,reduceCtorEq,w1]
 refine loop_rd (callW_mono N _) (ByI h m n) (n:=m) ⟨0,_,h,.nils,rfl,by omega,by omega,rfl,(fun j e=>e.elim),Fm.refl _ _,rfl,rfl,rfl⟩ ?_
 rintro c s ⟨i,l,h1,w,rfl,hi,hc,w2,p2,f2,e0,e5,e6⟩
 by_cases hlt:i<m
 ·have c1:(0:Int)≤(m:Int)-1-i:=by omega
  have w3:IntKind.wrap .i64 (8 * ((m:Int)-1-i))=((8 * (m-1-i):Nat):Int):=by rw [wrap_i64 (by omega)];omega
  have w4:IntKind.wrap .u64 ((8 * (m-1-i):Nat):Int)=((8 * (m-1-i):Nat):Int):=wrap_u64 (by omega)
  have s1:=shr_n .num .u64 .u64 n (8 * (m-1-i)) (by show _≤64;omega)
  have w5:=u8_mod (n / 2 ^ (8 * (m-1-i)))
  have w6:IntKind.wrap .i64 ((m:Int)-1-i-1)=(m:Int)-1-((i+1:Nat):Int):=by rw [wrap_i64 (by omega)];omega
  obtain ⟨w',h4,a1,a2,a3,a4⟩:=w2.app (lc:=[[.int .u8 ((n / 2 ^ (8 * (m-1-i)) % 256:Nat):Int)]]) (x:=.lsl 0 1) (xs:=[[.int .u8 ((n / 2 ^ (8 * (m-1-i)) % 256:Nat):Int)]]) rfl (by simp) (bytes:=1)
   (by simp only [room,List.length_map,List.length_take,List.length_cons,List.length_nil];omega)
  simp only [KK,↓reduceIte,reduceLT,reduceEqDiff,reduceCtorEq,e0,e5,e6,c1,w3,w4,s1,w5,a1,w6,rd_n]
  refine ⟨c-1,by omega,i+1,_,h4,w',rfl,by omega,by omega,?_,?_,f2.fresh a3 p2,rfl,rfl,rfl⟩
  ·rw [be_take n m i hlt,List.map_append]
   exact a2
  ·intro j hj
   rcases a4 j hj with e|e
   ·exact p2 j e
   ·have:=f2.n;omega
 ·have c1:¬(0:Int)≤(m:Int)-1-i:=by omega
  rw [List.take_of_length_le (by rw [be_len];omega)] at w2
  simp only [KK,↓reduceIte,reduceLT,reduceEqDiff,reduceCtorEq,e0,e5,e6,c1]
  exact hP _ w w2 p2 f2
end
end
section
set_option maxHeartbeats 8000000
section
variable {k:Nat} {h:Hp} {P:AV→Hp→Prop} {a r:Nat} {o:CV}
def ReI (h0:Hp) (o:CV) (b a r:Nat) (n:Nat) (s:St):Prop:=∃ (i:Nat) (l:List (Nat × TV)) (h':Hp) (w:CV),s=ST 71 l [] h'∧i≤1∧n=1-i∧
 (if i=0 then w = .sl b 0 0 1 (some 1)∧h'=h0 else Ow h' 1 w ((yB a r).map eB)∧∀ j,ownId w j→h0.n≤j)∧Fn h0 h'∧
 lk l 4 = .v (.c w)∧lk l 17 = .v (.c o)∧lk l 18 = .v (.c (.int .i64 1))∧lk l 19 = .v (.c (.int .i64 (i:Int)))
theorem rencies1_ok (ha:a<1099511627776) (hr:r≤255) (ho:SL h 5 o [yR a r])
 (hP:∀ h' u,Ow h' 1 u ((yB a r).map eB)→(∀ j,ownId u j→h.n≤j)→Fn h h'→P (.tup [.c u,.c (.int .i64 0)]) h'):callW N (k+3) 436 [.c o] h P:=by
 have hlen:∀ h':Hp,lenT h' .sl (.v (.c o))=some (1:Int):=fun h'=>by rw [ho.len h'];rfl
 have w1:IntKind.wrap .u8 1=1:=by decide
 have z4:¬(4:Int)<1:=by decide
 obtain ⟨h1,hh1⟩:=nm (h.push (.rows true 1 0 0 [[.int .u8 1]]))
 have n1:h1.n=h.n+1:=by rw [hh1,n_push]
 have f1:=pf hh1
 have g1:h1.g h.n=some (.rows true 1 0 0 [[.int .u8 1]]):=by rw [hh1,g_push_eq]
 refine ci rfl ?_
 simp only [KK,↓reduceIte,reduceLT,reduceEqDiff,reduceCtorEq,hlen,z4,w1,chunks,hh1.symm]
 refine loop_rd (callW_mono N _) (ReI h1 o h.n a r) (n:=1) ⟨0,_,h1,_,rfl,by omega,rfl,⟨rfl,rfl⟩,Fm.refl _ _,rfl,rfl,rfl,rfl⟩ ?_
 rintro n s ⟨i,l,h2,w,rfl,hi,hn,hw,f2,e4,e17,e18,e19⟩
 rcases (by omega:i=0∨i=1) with rfl|rfl
 ·rw [if_pos rfl] at hw
  obtain ⟨rfl,rfl⟩:=hw
  have z0:((0:Nat):Int)<1:=by decide
  obtain ⟨id,tok,j,k1,k2⟩:=(ho.new f1).at (i:=((0:Nat):Int)) (r:=yR a r) (by omega) rfl
  have k2':=k2
  unfold yR at k2'
  have q1:((1:Int)=1):=rfl
  simp only [KK,↓reduceIte,reduceLT,reduceEqDiff,reduceAdd,e4,e17,e18,e19,z0,k1,k2']
  refine rmayS_ok (k:=k) ha hr ?_
  obtain ⟨h3,hh3⟩:=nm (h2.reserve 1)
  have f3:Fn h2 h3:=by rw [hh3];exact Fm.reserve _ _ _
  have n3:h3.n=h2.n+1:=by rw [hh3];exact n_reserve _ _
  have d3:h3.g h2.n=some .dead:=by rw [hh3,g_reserve,if_pos (by omega)]
  have w2:IntKind.wrap .u64 (a:Int)=(a:Int):=wrap_u64 (by omega)
  have w3:IntKind.wrap .u8 (r:Int)=(r:Int):=by rw [u8_mod];omega
  simp only [KK,↓reduceIte,reduceLT,reduceEqDiff,hh3.symm,w2]
  refine rbytes_ok (k:=k+1) (m:=5) (by omega) (by omega) fun h4 u4 k4 p4 f4=>?_
  have d4:=f4.some d3 (fun e=>e)
  obtain ⟨h5,hh5⟩:∃ g,g=h4.put h2.n (.rows true 1 0 0 [[.int .u8 (r:Int)]]):=⟨_,rfl⟩
  have f5:Fm (fun j=>j=h2.n) h4 h5:=by rw [hh5];exact Fm.put (S:=fun j=>j=h2.n) _ _ rfl
  have g5:h5.g h2.n=some (.rows true 1 0 0 [[.int .u8 (r:Int)]]):=by rw [hh5,g_put_eq,d4];rfl
  have s5:SL h5 1 (.sl h2.n 0 0 1 (some 1)) [[.int .u8 (r:Int)]]:=⟨true,0,0,_,g5,Nat.le_refl _,Nat.le_refl 1,rfl⟩
  have k5:Ow h5 1 u4 ((be 5 a).map eB):=k4.mono f5 (fun j hj e=>by have:=p4 j hj;omega)
  obtain ⟨u6,h6,a1,a2,a3,a4⟩:=k5.app (lc:=[yR a r]) (x:=.v (.c (.sl h2.n 0 0 1 (some 1)))) (xs:=[[.int .u8 (r:Int)]]) s5.read (by simp) (bytes:=1) (by simp only [room,List.length_map,be_len,List.length_cons,List.length_nil];omega)
  have a2':Ow h6 1 u6 ((be 5 a++[r]).map eB):=by rw [List.map_append];exact a2
  have hl6:∀ h':Hp,lenT h' .sl (.v (.c u6))=some (6:Int):=fun h'=>by rw [a2'.sl.len h',List.length_map,List.length_append,be_len];rfl
  have n4:=f4.n
  have n5:h5.n=h4.n:=by rw [hh5,n_put]
  have n6:=a3.n
  have p6:∀ j,ownId u6 j→h3.n≤j:=fun j hj=>(a4 j hj).elim (fun e=>p4 j e) (fun e=>by omega)
  have f36:Fm (fun j=>h2.n≤j) h3 h6:=(f4.mono (fun _ _ e=>e.elim)).trans ((f5.mono fun j _ e=>by omega).trans (a3.mono fun j _ e=>by have:=p4 j e;omega))
  have F6:Fn h2 h6:=f3.fresh f36 (fun j e=>e)
  have g6:=F6.some g1 (fun e=>e)
  have happ:appT h6 [yR a r,[.int .u8 1,.int .u8 6]] 1 1 (.v (.c (.sl h.n 0 0 1 (some 1)))) (.lsl 1 2)=some (.sl h6.n 0 0 3 none,h6.push (.rows true 1 0 0 [[.int .u8 1],[.int .u8 1],[.int .u8 6]])):=
   app_new (xs:=[[.int .u8 1],[.int .u8 6]]) g6 (Nat.le_refl _) rfl (by simp) (by decide) (by decide)
  unfold yR at a1 happ
  obtain ⟨h7,hh7⟩:=nm (h6.push (.rows true 1 0 0 [[.int .u8 1],[.int .u8 1],[.int .u8 6]]))
  rw [←hh7] at happ
  have f7:=pf hh7
  have n7:h7.n=h6.n+1:=by rw [hh7,n_push]
  have k7:Ow h7 1 (.sl h6.n 0 0 3 none) [[.int .u8 1],[.int .u8 1],[.int .u8 6]]:=⟨rfl,rfl,0,[[.int .u8 1],[.int .u8 1],[.int .u8 6]],by rw [hh7,g_push_eq],Nat.le_refl _,Nat.le_refl 3,rfl⟩
  obtain ⟨u8',h8,b1,b2,b3,b4⟩:=k7.app (lc:=[yR a r,[.int .u8 1,.int .u8 6]]) (x:=.v (.c u6)) (xs:=(be 5 a++[r]).map eB) (a2'.sl.new f7).read (by simp) (bytes:=1) (by simp only [room,List.length_map,List.length_append,be_len,List.length_cons,List.length_nil];omega)
  unfold yR at b1
  have w6:IntKind.wrap .u8 6=6:=by decide
  have w9:IntKind.wrap .i64 (((0:Nat):Int)+1)=((1:Nat):Int):=by decide
  simp only [KK,↓reduceIte,reduceLT,reduceEqDiff,reduceAdd,reduceLeDiff,d4,w3,hh5.symm,a1,hl6,w1,w6,happ,b1,w9,rd_n]
  refine ⟨0,by omega,1,_,h8,u8',rfl,by omega,rfl,?_,?_,rfl,rfl,rfl,rfl⟩
  ·rw [if_neg (by decide)]
   refine ⟨?_,?_⟩
   ·have:(yB a r).map eB=[[.int .u8 1],[.int .u8 1],[.int .u8 6]]++(be 5 a++[r]).map eB:=rfl
    rw [this]
    exact b2
   ·intro j hj
    rcases b4 j hj with e|e
    ·simp only [ownId] at e
     omega
    ·omega
  ·exact (F6.trans f7).fresh b3 (fun j e=>by simp only [ownId] at e;omega)
 ·rw [if_neg (by decide)] at hw
  have z1:¬((1:Nat):Int)<1:=by decide
  simp only [KK,↓reduceIte,reduceLT,reduceEqDiff,e4,e17,e18,e19,z1]
  exact hP _ w hw.1 (fun j hj=>by have:=hw.2 j hj;omega) (f1.trans f2)
end
end
section
set_option maxHeartbeats 8000000
def oneK (d s t:Nat):Prop:=s<16∧((d=3∧t=64)∨(d=2∧t<16∧t≠s))
def yF (d s t q a r:Nat):List Nat:=[197,d,s,t,q,9]++yB a r++[0]
theorem yF_lt {d s t q a r:Nat} (hk:oneK d s t) (hq:q<256) (hr:r≤255):∀ c∈yF d s t q a r,c<256:=by
 intro c hc
 obtain ⟨h1,h2⟩:=hk
 simp only [yF,List.mem_cons,List.mem_append,List.not_mem_nil,or_false] at hc
 rcases hc with (((rfl|rfl|rfl|rfl|rfl|rfl)|hc)|rfl)
 ·omega
 ·omega
 ·omega
 ·omega
 ·omega
 ·omega
 ·exact yB_lt hr c hc
 ·omega
theorem yF_len (d s t q a r:Nat):(yF d s t q a r).length=16:=by simp [yF,yB_len]
section
variable {k:Nat} {h:Hp} {P:AV→Hp→Prop} {a r d s t q:Nat} {o:CV}
def R1I (h:Hp) (d s t q:Nat) (o:CV) (n:Nat) (st:St):Prop:=∃ (i:Nat) (l:List (Nat × TV)),st=ST 115 l [[.int .i64 (d:Int),.int .i64 (s:Int),.int .i64 (t:Int),.int .i64 (q:Int),o,.nils]] h∧i≤1∧n=1-i∧
 lk l 1 = .lp 0 0∧lk l 62 = .v (.c o)∧lk l 63 = .v (.c (.int .i64 1))∧lk l 64 = .v (.c (.int .i64 (i:Int)))
theorem rfind1_ok (he:SL h 5 o [yR a r]) (hP:∀ h',Fn h h'→P (.tup [.agg (yR a r),.c (.bool true)]) h'):callW N (k+1) 304 [.c o,.c (.int .i64 1)] h P:=by
 refine ci rfl ?_
 rw [a_fin]
 unfold n304b
 obtain ⟨h1,hh1⟩:=nm (h.push (.rows true 5 0 0 [[.int .i64 0,.int .i64 0,.int .i64 0,.int .i64 0,.nils]]))
 have g1:h1.g h.n=some (.rows true 5 0 0 [[.int .i64 0,.int .i64 0,.int .i64 0,.int .i64 0,.nils]]):=by rw [hh1,g_push_eq]
 have f1:=pf hh1
 have hlen:∀ h':Hp,lenT h' .sl (.v (.c o))=some (1:Int):=fun h'=>by rw [he.len h'];rfl
 have he1:=he.new f1
 obtain ⟨id,tok,j,k1,k2⟩:=he1.at (i:=0) (r:=yR a r) (by omega) rfl
 have z1:(0:Int)<1:=by decide
 unfold yR at k2
 simp only [KK,↓reduceIte,reduceLT,reduceEqDiff,reduceAdd,reduceCtorEq,hh1.symm,hlen]
 refine loop_rd (callW_mono N _) (fun n s=>n=0∧∃ (l:List (Nat × TV)) (lc:List (List CV)),s=ST 21 l lc h1∧lk l 1 = .v (.c (.int .i64 1))∧lk l 4 = .v (.c (.ptr h.n 0 0 0))∧lk l 8 = .v (.c o)∧lk l 9 = .v (.c (.int .i64 1))∧lk l 10 = .v (.c (.int .i64 0))) (n:=0)
  ⟨rfl,_,_,rfl,rfl,rfl,rfl,rfl,rfl⟩ ?_
 rintro n s ⟨rfl,l,lc,rfl,e1,e4,e8,e9,e10⟩
 simp only [KK,↓reduceIte,reduceLT,reduceEqDiff,reduceAdd,e1,e4,e8,e9,e10,z1,k1,k2,g1,fz_r]
 exact hP _ (f1.fresh (Fm.put (S:=fun j=>j=h.n) _ _ rfl) (fun j e=>by omega))
theorem rmay1_ok (hk:oneK d s t) (hq:q<256) (ha:a<1099511627776) (hr:r≤255) (he:SL h 5 o [yR a r])
 (hP:∀ h',Fn h h'→P (.c (.bool true)) h'):callW N (k+3) 287 [.agg [.int .i64 (d:Int),.int .i64 (s:Int),.int .i64 (t:Int),.int .i64 (q:Int),o,.nils]] h P:=by
 obtain ⟨hs,hk⟩:=hk
 have z1:¬((d:Int)<1):=by omega
 have z2:¬((5:Int)<d):=by omega
 have z3:¬((t:Int)=s):=by omega
 have z4:¬(q:Int)<0:=by omega
 have z5:¬(255:Int)<(q:Int):=by omega
 have z6:¬((4:Int)<1):=by decide
 have z7:¬((64:Int)<0):=by decide
 have hl0:∀ h',lenT h' .sl (.v (.c .nils))=some 0:=fun _=>rfl
 have hlen:∀ h':Hp,lenT h' .sl (.v (.c o))=some (1:Int):=fun h'=>by rw [he.len h'];rfl
 refine ci rfl ?_
 simp only [KK,↓reduceIte,reduceLT,reduceEqDiff,reduceAdd,z1,z2]
 refine rnode_ok (k:=k+1) (r:=true) (by symm;simp;omega) ?_
 simp only [KK,↓reduceIte,reduceLT,reduceEqDiff]
 refine rnode_ok (k:=k+1) (r:=decide ((0:Int)≤(t:Int)∧(t:Int)<16)) rfl ?_
 have tail:∀ st,R1I h d s t q o 1 st→∃ (i:Nat) (l:List (Nat × TV)),st=ST 115 l [[.int .i64 (d:Int),.int .i64 (s:Int),.int .i64 (t:Int),.int .i64 (q:Int),o,.nils]] h:=fun st ⟨i,l,e,_⟩=>⟨i,l,e⟩
 rcases hk with ⟨rfl,rfl⟩|⟨rfl,ht,hts⟩
 ·have e1:decide ((0:Int)≤((64:Nat):Int)∧((64:Nat):Int)<16)=false:=by decide
  have e2:decide (((64:Nat):Int)=64)=true:=by decide
  have q3:((3:Nat):Int)=3:=rfl
  have n1:¬((3:Int)=2):=by decide
  have n2:¬((3:Int)=4):=by decide
  simp only [KK,↓reduceIte,reduceLT,reduceEqDiff,e1,e2,z3,z4,z5,hlen,z6,hl0,z7]
  refine loop_rd (callW_mono N _) (R1I h 3 s 64 q o) (n:=1) ⟨0,_,rfl,by omega,rfl,rfl,rfl,rfl,rfl⟩ ?_
  rintro n st ⟨i,l,rfl,hi,hn,y1,y62,y63,y64⟩
  rcases (by omega:i=0∨i=1) with rfl|rfl
  ·have hlt:((0:Nat):Int)<1:=by decide
   obtain ⟨id,tok,j,a1,a2⟩:=he.at (i:=((0:Nat):Int)) (r:=yR a r) (by omega) rfl
   have w3:IntKind.wrap .i64 (((0:Nat):Int)+1)=((1:Nat):Int):=by decide
   unfold yR at a2
   simp only [KK,↓reduceIte,reduceLT,reduceEqDiff,reduceAdd,y1,y62,y63,y64,hlt,a1,a2]
   refine rmayS_ok (k:=k) ha hr ?_
   simp only [KK,↓reduceIte,reduceLT,reduceEqDiff,reduceAdd,reduceLeDiff,w3,rd_n]
   exact ⟨0,by omega,1,_,rfl,by omega,by omega,rfl,rfl,rfl,rfl⟩
  ·have hlt:¬((1:Nat):Int)<1:=by decide
   simp only [KK,↓reduceIte,reduceLT,reduceEqDiff,y1,y62,y63,y64,hlt,q3,n1,n2]
   refine rfind1_ok (k:=k+1) he fun h1 f1=>?_
   unfold yR
   simp only [KK,↓reduceIte,reduceLT,reduceEqDiff,reduceAdd,reduceLeDiff,hl0,e2]
   exact hP _ f1
 ·have e1:decide ((0:Int)≤(t:Int)∧(t:Int)<16)=true:=by simp;omega
  have q2:((2:Nat):Int)=2:=rfl
  have n64:¬((t:Int)=64):=by omega
  simp only [KK,↓reduceIte,reduceLT,reduceEqDiff,e1,z3,z4,z5,hlen,z6,hl0,z7]
  refine loop_rd (callW_mono N _) (R1I h 2 s t q o) (n:=1) ⟨0,_,rfl,by omega,rfl,rfl,rfl,rfl,rfl⟩ ?_
  rintro n st ⟨i,l,rfl,hi,hn,y1,y62,y63,y64⟩
  rcases (by omega:i=0∨i=1) with rfl|rfl
  ·have hlt:((0:Nat):Int)<1:=by decide
   obtain ⟨id,tok,j,a1,a2⟩:=he.at (i:=((0:Nat):Int)) (r:=yR a r) (by omega) rfl
   have w3:IntKind.wrap .i64 (((0:Nat):Int)+1)=((1:Nat):Int):=by decide
   unfold yR at a2
   simp only [KK,↓reduceIte,reduceLT,reduceEqDiff,reduceAdd,y1,y62,y63,y64,hlt,a1,a2]
   refine rmayS_ok (k:=k) ha hr ?_
   simp only [KK,↓reduceIte,reduceLT,reduceEqDiff,reduceAdd,reduceLeDiff,w3,rd_n]
   exact ⟨0,by omega,1,_,rfl,by omega,by omega,rfl,rfl,rfl,rfl⟩
  ·have hlt:¬((1:Nat):Int)<1:=by decide
   simp only [KK,↓reduceIte,reduceLT,reduceEqDiff,y1,y62,y63,y64,hlt,q2,n64,hl0]
   exact hP _ (Fm.refl _ _)
theorem rencode1_ok (hk:oneK d s t) (hq:q<256) (ha:a<1099511627776) (hr:r≤255) (he:SL h 5 o [yR a r])
 (hP:∀ h' u,SL h' 1 u ((apx (yF d s t q a r)).map eB)→(∀ id tok off len cap,u = .sl id tok off len cap→cap=none)→Fn h h'→P (.tup [.c u,.c (.int .i64 0)]) h') :
 callW N (k+4) 435 [.agg [.int .i64 (d:Int),.int .i64 (s:Int),.int .i64 (t:Int),.int .i64 (q:Int),o,.nils]] h P:=by
 have hl0:∀ h',lenT h' .sl (.v (.c .nils))=some 0:=fun _=>rfl
 have b1:IntKind.wrap .u8 (d:Int)=(d:Int):=by rw [u8_mod];obtain ⟨h1,h2⟩:=hk;omega
 have b2:IntKind.wrap .u8 (s:Int)=(s:Int):=by rw [u8_mod];obtain ⟨h1,h2⟩:=hk;omega
 have b3:IntKind.wrap .u8 (t:Int)=(t:Int):=by rw [u8_mod];obtain ⟨h1,h2⟩:=hk;omega
 have b4:IntKind.wrap .u8 (q:Int)=(q:Int):=by rw [u8_mod];omega
 have b5:IntKind.wrap .u8 9=9:=by decide
 have b6:IntKind.wrap .u8 0=0:=by decide
 refine ci rfl ?_
 simp only [KK,↓reduceIte,reduceLT,reduceEqDiff,reduceAdd]
 refine rmay1_ok (k:=k) hk hq ha hr he fun h1 f1=>?_
 simp only [KK,↓reduceIte,reduceLT,reduceEqDiff]
 refine rencies1_ok (k:=k) ha hr (he.new f1) fun h2 u2 k2 p2 f2=>?_
 have hl2:∀ h':Hp,lenT h' .sl (.v (.c u2))=some (9:Int):=fun h'=>by rw [k2.sl.len h',List.length_map,yB_len];rfl
 obtain ⟨h3,hh3⟩:∃ g,g=h2.push (.rows true 1 0 0 [[.int .u8 197],[.int .u8 (d:Int)],[.int .u8 (s:Int)],[.int .u8 (t:Int)],[.int .u8 (q:Int)],[.int .u8 9]]):=⟨_,rfl⟩
 have f3:=pf hh3
 have n3:h3.n=h2.n+1:=by rw [hh3,n_push]
 have g3:h3.g h2.n=some (.rows true 1 0 0 [[.int .u8 197],[.int .u8 (d:Int)],[.int .u8 (s:Int)],[.int .u8 (t:Int)],[.int .u8 (q:Int)],[.int .u8 9]]):=by rw [hh3,g_push_eq]
 obtain ⟨h4,hh4⟩:=nm (h3.push (.rows true 1 0 0 (([197,d,s,t,q,9]++yB a r).map eB)))
 have f4:=pf hh4
 have n4:h4.n=h3.n+1:=by rw [hh4,n_push]
 have k4:Ow h4 1 (.sl h3.n 0 0 15 none) (([197,d,s,t,q,9]++yB a r).map eB):=⟨rfl,rfl,0,_,by rw [hh4,g_push_eq],Nat.le_refl _,by simp [yB_len],by rw [List.take_of_length_le (by simp [yB_len])]⟩
 have happ:∀ lc,appT h3 lc 1 1 (.v (.c (.sl h2.n 0 0 6 (some 6)))) (.v (.c u2))=some (.sl h3.n 0 0 15 none,h4):=fun lc=>by
  rw [hh4]
  have:=app_new (lc:=lc) (xs:=(yB a r).map eB) (bytes:=1) (len:=6) (q:=6) (off:=0) g3 (Nat.le_refl 0) (k2.sl.new f3).read (by simp [yB]) (by rw [List.length_map,yB_len];omega) (by rw [List.length_map,yB_len];decide)
  rw [this,List.length_map,yB_len]
  rfl
 obtain ⟨h5,hh5⟩:=nm (h4.reserve 1)
 have f5:Fn h4 h5:=by rw [hh5];exact Fm.reserve _ _ _
 have d5:h5.g h4.n=some .dead:=by rw [hh5,g_reserve,if_pos (by omega)]
 have n5:h5.n=h4.n+1:=by rw [hh5];exact n_reserve _ _
 obtain ⟨h6,hh6⟩:=nm (h5.put h4.n (.rows true 1 0 0 [[.int .u8 0]]))
 have g6:h6.g h4.n=some (.rows true 1 0 0 [[.int .u8 0]]):=by rw [hh6,g_put_eq,d5];rfl
 have f6:Fm (fun j=>j=h4.n) h5 h6:=by rw [hh6];exact Fm.put (S:=fun j=>j=h4.n) _ _ rfl
 have s6:SL h6 1 (.sl h4.n 0 0 1 (some 1)) [[.int .u8 0]]:=⟨true,0,0,_,g6,Nat.le_refl _,Nat.le_refl 1,rfl⟩
 have k6:Ow h6 1 (.sl h3.n 0 0 15 none) (([197,d,s,t,q,9]++yB a r).map eB):=(k4.new f5).mono f6 (fun j hj e=>by simp only [ownId] at hj;omega)
 obtain ⟨u7,h7,a1,a2,a3,a4⟩:=k6.app (lc:=[[.int .i64 (d:Int),.int .i64 (s:Int),.int .i64 (t:Int),.int .i64 (q:Int),o,.nils]]) (x:=.v (.c (.sl h4.n 0 0 1 (some 1)))) (xs:=[[.int .u8 0]]) s6.read (by simp) (bytes:=1) (by simp only [room,List.length_map,List.length_append,yB_len,List.length_cons,List.length_nil];omega)
 have a2':Ow h7 1 u7 ((yF d s t q a r).map eB):=by
  have e:(yF d s t q a r).map eB=([197,d,s,t,q,9]++yB a r).map eB++[[.int .u8 0]]:=by simp [yF,eB]
  rw [e];exact a2
 have hnil:∀ lc,appT h7 lc 1 1 (.v (.c u7)) (.v (.c .nils))=some (u7,h7):=fun lc=>by
  obtain ⟨id,tok,lw,rs,e1,e2,_⟩:=a2'.get (by simp [yF])
  rw [e1]
  rfl
 simp only [KK,↓reduceIte,reduceLT,reduceEqDiff,reduceAdd,reduceLeDiff,hl2,b1,b2,b3,b4,b5,chunks,hh3.symm,happ,hh5.symm,hl0,b6,d5,hh6.symm,a1,hnil]
 refine rappend_ok (k:=k+1) a2'.sl (by simp [yF]) (yF_lt hk hq hr) (by rw [yF_len];omega) fun h8 u8' k8 c8 f8=>?_
 simp only [KK,↓reduceIte,reduceLT]
 refine hP h8 u8' k8 c8 ?_
 have f36:Fm (fun j=>h3.n≤j) h3 h7:=((f4.trans f5).mono fun _ _ e=>e.elim).trans ((f6.mono fun j _ e=>by omega).trans (a3.mono fun j _ e=>by simp only [ownId] at e;omega))
 exact f1.trans (f2.trans (f3.trans (((Fm.refl _ h3).fresh f36 (fun j e=>e)).trans f8)))
end
end
section
set_option maxHeartbeats 8000000
theorem nf_be (n:Nat):∀ (m s:Nat),(be m n).foldl (fun s c=>s * 256+c) s=s * 2 ^ (8 * m)+n % 2 ^ (8 * m)
 | 0,s=>by simp [be,Nat.mod_one]
 | m+1,s=>by
  show (be m n).foldl (fun s c=>s * 256+c) (s * 256+n / 2 ^ (8 * m) % 256)=_
  rw [nf_be n m]
  have h1:2 ^ (8 * (m+1))=2 ^ (8 * m) * 256:=by rw [show 8 * (m+1)=8 * m+8 by omega,Nat.pow_add]
  rw [h1,Nat.mod_mul,Nat.add_mul,Nat.mul_assoc,Nat.mul_comm 256,Nat.mul_comm (n / 2 ^ (8 * m) % 256)]
  omega
theorem beN_be (m n:Nat):beN (be m n)=n % 2 ^ (8 * m):=by
 unfold beN
 rw [nf_be,Nat.zero_mul,Nat.zero_add]
theorem apx_len (L:List Nat):(apx L).length=L.length+2:=by simp [apx]
theorem apx_take (L:List Nat):(apx L).take ((apx L).length-2)=L:=by
 rw [apx_len,Nat.add_sub_cancel]
 simp [apx]
theorem goodF_apx (L:List Nat):goodF (apx L)=true:=by
 unfold goodF
 rw [apx_take]
 simp
theorem apx_lt {L:List Nat} (hL:∀ c∈L,c<256):∀ c∈apx L,c<256:=by
 intro c hc
 have h1:=crcS_lt (s:=0) (by omega) L hL
 rcases List.mem_append.mp hc with hc|hc
 ·exact hL c hc
 ·simp only [List.mem_cons,List.not_mem_nil,or_false] at hc
  omega
theorem oneD_y {a r:Nat} (ha:a<1099511627776):oneD (1::6::(be 5 a++[r]))=some (.sync a r,[]):=by
 have h6:(be 5 a++[r]).length=6:=by rw [List.length_append,be_len];rfl
 have t5:(be 5 a++[r]).take 5=be 5 a:=by rw [List.take_append_of_le_length (by rw [be_len];omega),List.take_of_length_le (by rw [be_len];omega)]
 have d5:(be 5 a++[r]).drop 5=[r]:=by rw [List.drop_append,be_len,List.drop_of_length_le (by rw [be_len];omega)];rfl
 have d6:(be 5 a++[r]).drop 6=[]:=List.drop_of_length_le (by omega)
 simp only [oneD,h6]
 rw [if_pos trivial,if_pos ⟨trivial,Nat.le_refl _⟩,t5,d5,d6,beN_be]
 simp only [List.take_succ_cons,List.take_zero,beN_one]
 rw [Nat.mod_eq_of_lt (by omega)]
theorem decI_y {a r:Nat} (ha:a<1099511627776):decI (yB a r)=some [.sync a r]:=by
 simp [decI,yB,iesD,oneD_y ha]
theorem decF_y {d s t q a r:Nat} (hk:oneK d s t) (ha:a<1099511627776):decF (apx (yF d s t q a r))=some ⟨d,s,t,q,[.sync a r],[]⟩:=by
 have hl:(apx (yF d s t q a r)).length=18:=by rw [apx_len,yF_len]
 have hc:¬((apx (yF d s t q a r)).length<9∨goodF (apx (yF d s t q a r))=false):=by rw [hl,goodF_apx];simp
 have hT:(apx (yF d s t q a r)).take ((apx (yF d s t q a r)).length-2)=197::d::s::t::q::9::(yB a r++[0]):=by
  rw [apx_take]
  simp [yF]
 rw [decF_some hc hT]
 have h10:(yB a r++[0]).length=10:=by rw [List.length_append,yB_len];rfl
 have t9:textN 9 (some (yB a r++[0]))=(yB a r,some [0]):=by
  unfold textN
  simp only [h10]
  rw [if_pos (by omega),List.take_append_of_le_length (by rw [yB_len];omega),List.take_of_length_le (by rw [yB_len];omega),List.drop_append,yB_len,List.drop_of_length_le (by rw [yB_len];omega)]
  rfl
 rw [t9]
 have t1:takeN 1 (some [0])=(0,some []):=by simp [takeN,beN]
 simp only [t1]
 have t0:textN 0 (some [])=([],some []):=by simp [textN]
 simp only [t0,decI_y ha,Option.bind_some]
 have hm:mayF d s t [.sync a r] [] = true:=by
  obtain ⟨h1,h2⟩:=hk
  unfold mayF
  rw [if_neg (by simp;omega)]
  unfold saysF findI
  rcases h2 with ⟨rfl,rfl⟩|⟨rfl,h2,h3⟩
  ·simp [Iv.kind]
  ·simp;omega
 rw [if_pos ⟨trivial,rfl⟩,hm,if_pos rfl]
theorem rankD_y {a r:Nat} {now:Int}:rankD [.sync a r] now=((r:Int),decide ((a:Int)=now)):=by
 simp [rankD,findI,Iv.kind]
section
variable {k:Nat} {h:Hp} {P:AV→Hp→Prop}
theorem beacon_ok {s r a:Nat} (hs:s<16) (hr:r≤255) (ha:a<1099511627776)
 (hP:∀ h' u,SL h' 1 u ((apx (yF 3 s 64 0 a r)).map eB)→CapL u→Fn h h'→P (.c u) h'):callW N (k+5) 434 [.c (.int .i64 (s:Int)),.c (.int .i64 (r:Int)),.c (.int .i64 (a:Int))] h P:=by
 obtain ⟨h1,hh1⟩:=nm (h.push (.rows true 5 0 0 [yR a r]))
 have f1:=pf hh1
 have g1:h1.g h.n=some (.rows true 5 0 0 [yR a r]):=by rw [hh1,g_push_eq]
 have s1:SL h1 5 (.sl h.n 0 0 1 (some 1)) [yR a r]:=⟨true,0,0,_,g1,Nat.le_refl _,Nat.le_refl 1,rfl⟩
 have fd:=hh1.symm
 unfold yR at fd
 refine ci rfl ?_
 simp only [KK,↓reduceIte,reduceLT,reduceEqDiff,reduceAdd,reduceLeDiff,reduceCtorEq,chunks,fd]
 refine rencode1_ok (k:=k) (d:=3) (s:=s) (t:=64) (q:=0) ⟨hs,.inl ⟨rfl,rfl⟩⟩ (by omega) ha hr s1 fun h2 u k2 c2 f2=>?_
 simp only [KK,↓reduceIte,reduceLT,reduceEqDiff]
 refine hP h2 u k2 ?_ (f1.trans f2)
 intro id tok off len c e
 have:=c2 _ _ _ _ _ e
 cases this
end
end
end Camp
