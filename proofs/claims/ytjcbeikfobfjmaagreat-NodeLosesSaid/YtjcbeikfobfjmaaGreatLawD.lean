/- A node's cells; its clock, its keeper; what is small. A node: what it tells, whom it follows, slots. A node that is out of time: what it hears. A node that is out of time hears something. Channels that may be; the law's config. The law's config may be; a node at first. A node at first. -/
import Derived.Test.YtjcbeikfobfjmaaGreatLawC
import Derived.Test.YtjcbeikfobfjmaaGreatUseB
set_option linter.unnecessarySimpa false
set_option linter.unusedVariables false
set_option linter.unusedSimpArgs false
set_option linter.unusedSectionVars false
namespace Camp
open Go
open Nat (reduceLT reduceEqDiff reduceAdd reduceLeDiff reduceSub reduceMul)
section
set_option maxHeartbeats 4000000
structure NodeX where
 n:Int
 nr:CV
 hp:CV
 gu:Int
 er:Int
 ke:Int
 lo:Int
 qu:Int
 li:Int
 id:Int
 ck:Nat
 qp:Nat
 up:Nat
 dn:Nat
 gt:Nat
 seq:Int
 last:Int
 tr:Int
 sy:Bool
 pp:CV
 kp:CV
 ls:Int
 pm:Nat
 sa:Int
 sk:Int
 ss:Int
 sd:Int
 sq:Int
 si:CV
 sx:CV
 so:Bool
 ev:CV
def NodeX.row (x:NodeX):List CV:=
 [.int .i64 x.n,x.nr,x.hp,.int .i64 x.gu,.int .i64 x.er,.int .i64 x.ke,.int .i64 x.lo,.int .i64 x.qu,.int .i64 x.li,.int .i64 x.id,.ptr x.ck 0 0 0,.ptr x.qp 0 0 0,.ptr x.up 0 0 0,.ptr x.dn 0 0 0,.ptr x.gt 0 0 0,
  .int .i64 x.seq,.int .i64 x.last,.int .i64 x.tr,.bool x.sy,x.pp,x.kp,.int .i64 x.ls,.map x.pm,.int .i64 x.sa,.int .i64 x.sk,.int .i64 x.ss,.int .i64 x.sd,.int .i64 x.sq,x.si,x.sx,.bool x.so,x.ev]
def NdR (h:Hp) (p:Nat) (x:NodeX):Prop:=h.g p=some (.rows true 32 0 0 [x.row])
theorem ne_of_g {h:Hp} {a b:Nat} {x y:AO} (h1:h.g a=some x) (h2:h.g b=some y) (hn:x≠y):a≠b:=by
 rintro rfl
 rw [h1] at h2
 injection h2 with h2
 exact hn h2
structure ClkX where
 b:Int
 s:Int
 n:Int
def ClkAt (h:Hp) (c:Nat) (x:ClkX):Prop:=h.g c=some (.rows true 3 0 0 [[.int .i64 x.b,.int .i64 x.s,.int .i64 x.n]])
structure ClkX.Ok (x:ClkX):Prop where
 n:0≤x.n∧x.n≤1099511627776
 s : -(x.n * 1000000)≤x.s∧x.s≤x.n * 1000000
 b : -1000000000000≤x.b∧x.b≤1000000000000
def cutI (n m:Int):Int:=max (-m) (min n m)
def ClkX.slot (x:ClkX) (ppm:Int):ClkX:=if 1099511627776≤x.n then x else ⟨x.b,x.s+cutI ppm 100 * 10000,x.n+1⟩
def ClkX.off (x:ClkX):Int:=x.b+x.s / 1000000
def ClkX.move (x:ClkX) (t:Int):ClkX:=⟨cutI (x.b+cutI t 1000000) 1000000000000,x.s,x.n⟩
theorem ClkX.Ok.slot {x:ClkX} (k:x.Ok) (ppm:Int):(x.slot ppm).Ok:=by
 unfold ClkX.slot
 split
 ·exact k
 ·obtain ⟨k1,k2,k3⟩:=k
  have : -100≤cutI ppm 100∧cutI ppm 100≤100:=by unfold cutI;omega
  exact ⟨by simp only;omega,by simp only;omega,k3⟩
theorem ClkX.Ok.move {x:ClkX} (k:x.Ok) (t:Int):(x.move t).Ok:=by
 obtain ⟨k1,k2,k3⟩:=k
 exact ⟨k1,k2,by unfold ClkX.move cutI;simp only;omega⟩
section
variable {k:Nat} {h:Hp} {P:AV→Hp→Prop} {p:Nat} {x:NodeX}
theorem cut_ok {n m:Int} (hm:0≤m∧m≤1000000000000) (hP:P (.c (.int .i64 (cutI n m))) h):callW N (k+1) 402 [.c (.int .i64 n),.c (.int .i64 m)] h P:=by
 have w1:IntKind.wrap .i64 (0-m) = -m:=by rw [wrap_i64 (by omega)];omega
 refine ci rfl ?_
 simp only [KK,↓reduceIte,reduceLT,reduceEqDiff,reduceAdd,reduceCtorEq,w1]
 exact hP
theorem cslot_ok {c:Nat} {y:ClkX} {ppm:Int} (hc:ClkAt h c y) (ho:y.Ok) (hP:∀ h',ClkAt h' c (y.slot ppm)→Fm (fun j=>j=c) h h'→P (.tup []) h'):callW N (k+2) 387 [.c (.ptr c 0 0 0),.c (.int .i64 ppm)] h P:=by
 unfold ClkAt at hc
 refine ci rfl ?_
 by_cases hm:1099511627776≤y.n
 ·simp only [KK,↓reduceIte,reduceLT,reduceEqDiff,reduceAdd,reduceCtorEq,hc,hm]
  have:=hP h
  unfold ClkX.slot at this
  rw [if_pos hm] at this
  exact this hc (Fm.refl _ _)
 ·obtain ⟨o1,o2,o3⟩:=ho
  have hcu : -100≤cutI ppm 100∧cutI ppm 100≤100:=by unfold cutI;omega
  have w1:IntKind.wrap .i64 (y.n+1)=y.n+1:=wrap_i64 (by omega)
  have w2:IntKind.wrap .i64 (cutI ppm 100 * 10000)=cutI ppm 100 * 10000:=wrap_i64 (by omega)
  have w3:IntKind.wrap .i64 (y.s+cutI ppm 100 * 10000)=y.s+cutI ppm 100 * 10000:=wrap_i64 (by omega)
  obtain ⟨h1,hh1⟩:=nm (h.put c (.rows true 3 0 0 [[.int .i64 y.b,.int .i64 y.s,.int .i64 (y.n+1)]]))
  have g1:h1.g c=some (.rows true 3 0 0 [[.int .i64 y.b,.int .i64 y.s,.int .i64 (y.n+1)]]):=by rw [hh1,g_put_eq,hc];rfl
  simp only [KK,↓reduceIte,reduceLT,reduceEqDiff,reduceAdd,reduceCtorEq,hc,hm,w1,hh1.symm,g1]
  refine cut_ok (k:=k) (by decide) ?_
  obtain ⟨h2,hh2⟩:=nm (h1.put c (.rows true 3 0 0 [[.int .i64 y.b,.int .i64 (y.s+cutI ppm 100 * 10000),.int .i64 (y.n+1)]]))
  have g2:h2.g c=some (.rows true 3 0 0 [[.int .i64 y.b,.int .i64 (y.s+cutI ppm 100 * 10000),.int .i64 (y.n+1)]]):=by rw [hh2,g_put_eq,g1];rfl
  simp only [KK,↓reduceIte,reduceLT,reduceEqDiff,reduceAdd,reduceLeDiff,g1,w2,w3,hh2.symm]
  have:=hP h2
  unfold ClkX.slot at this
  rw [if_neg hm] at this
  refine this g2 ?_
  rw [hh2,hh1]
  exact (Fm.put (S:=fun j=>j=c) _ _ rfl).trans (Fm.put (S:=fun j=>j=c) _ _ rfl)
theorem cmove_ok {c:Nat} {y:ClkX} {t:Int} (hc:ClkAt h c y) (ho:y.Ok) (hP:∀ h',ClkAt h' c (y.move t)→Fm (fun j=>j=c) h h'→P (.tup []) h'):callW N (k+2) 414 [.c (.ptr c 0 0 0),.c (.int .i64 t)] h P:=by
 unfold ClkAt at hc
 obtain ⟨o1,o2,o3⟩:=ho
 have hcu : -1000000≤cutI t 1000000∧cutI t 1000000≤1000000:=by unfold cutI;omega
 have w1:IntKind.wrap .i64 (y.b+cutI t 1000000)=y.b+cutI t 1000000:=wrap_i64 (by omega)
 obtain ⟨h1,hh1⟩:=nm (h.put c (.rows true 3 0 0 [[.int .i64 (cutI (y.b+cutI t 1000000) 1000000000000),.int .i64 y.s,.int .i64 y.n]]))
 have g1:h1.g c=some (.rows true 3 0 0 [[.int .i64 (cutI (y.b+cutI t 1000000) 1000000000000),.int .i64 y.s,.int .i64 y.n]]):=by rw [hh1,g_put_eq,hc];rfl
 refine ci rfl ?_
 simp only [KK,↓reduceIte,reduceLT,reduceEqDiff,reduceAdd,reduceCtorEq,hc]
 refine cut_ok (k:=k) (by decide) ?_
 simp only [KK,↓reduceIte,reduceLT,reduceEqDiff,hc,w1]
 refine cut_ok (k:=k) (by decide) ?_
 simp only [KK,↓reduceIte,reduceLT,reduceEqDiff,reduceAdd,reduceLeDiff,hc,hh1.symm]
 exact hP h1 g1 (by rw [hh1];exact Fm.put (S:=fun j=>j=c) _ _ rfl)
def KepAt (h:Hp) (c:Nat) (e s:Int):Prop:=h.g c=some (.rows true 2 0 0 [[.int .i64 e,.int .i64 s]])
theorem knew_ok {e:Int} (hP:∀ h',KepAt h' h.n (max 1 (min e 10000)) 0→Fn h h'→P (.c (.ptr h.n 0 0 0)) h'):callW N (k+1) 403 [.c (.int .i64 e)] h P:=by
 obtain ⟨h1,hh1⟩:=nm (h.push (.rows true 2 0 0 [[.int .i64 (max 1 (min e 10000)),.int .i64 0]]))
 refine ci rfl ?_
 simp only [KK,↓reduceIte,reduceLT,reduceAdd,reduceLeDiff,reduceCtorEq,hh1.symm]
 exact hP h1 (by unfold KepAt;rw [hh1,g_push_eq]) (by rw [hh1];exact Fm.push _ _ _)
theorem kheard_ok {c:Nat} {e s:Int} (hc:KepAt h c e s) (hP:∀ h',KepAt h' c e 0→Fm (fun j=>j=c) h h'→P (.tup []) h'):callW N (k+1) 415 [.c (.ptr c 0 0 0)] h P:=by
 unfold KepAt at hc
 obtain ⟨h1,hh1⟩:=nm (h.put c (.rows true 2 0 0 [[.int .i64 e,.int .i64 0]]))
 refine ci rfl ?_
 simp only [KK,↓reduceIte,reduceLT,reduceAdd,reduceCtorEq,hc,hh1.symm]
 exact hP h1 (by unfold KepAt;rw [hh1,g_put_eq,hc];rfl) (by rw [hh1];exact Fm.put (S:=fun j=>j=c) _ _ rfl)
theorem kslot_ok {c:Nat} {e s:Int} (hc:KepAt h c e s) (hs:0≤s∧s≤1000000) (hP:∀ h',KepAt h' c e (min (s+1) 1000000)→Fm (fun j=>j=c) h h'→P (.tup []) h'):callW N (k+1) 382 [.c (.ptr c 0 0 0)] h P:=by
 unfold KepAt at hc
 have w1:IntKind.wrap .i64 (s+1)=s+1:=wrap_i64 (by omega)
 obtain ⟨h1,hh1⟩:=nm (h.put c (.rows true 2 0 0 [[.int .i64 e,.int .i64 (min (s+1) 1000000)]]))
 refine ci rfl ?_
 simp only [KK,↓reduceIte,reduceLT,reduceEqDiff,reduceAdd,reduceCtorEq,hc,w1,hh1.symm]
 exact hP h1 (by unfold KepAt;rw [hh1,g_put_eq,hc];rfl) (by rw [hh1];exact Fm.put (S:=fun j=>j=c) _ _ rfl)
theorem nin_ok {a lo hi:Int} (hP:P (.c (.bool (decide (lo≤a∧a≤hi)))) h):callW N (k+1) 267 [.c (.int .i64 a),.c (.int .i64 lo),.c (.int .i64 hi)] h P:=by
 refine ci rfl ?_
 by_cases c1:lo≤a
 ·have e:decide (lo≤a∧a≤hi)=decide (a≤hi):=by simp [c1]
  rw [e] at hP
  simp only [KK,↓reduceIte,reduceLT,reduceEqDiff,reduceAdd,reduceCtorEq,c1]
  exact hP
 ·have e:decide (lo≤a∧a≤hi)=false:=by simp [c1]
  rw [e] at hP
  simp only [KK,↓reduceIte,reduceLT,reduceEqDiff,reduceAdd,reduceCtorEq,c1]
  exact hP
theorem nasn_ok {a:Int} (hP:P (.c (.bool (decide (0≤a∧a<1099511627776)))) h):callW N (k+1) 272 [.c (.int .i64 a)] h P:=by
 refine ci rfl ?_
 by_cases c1:0≤a
 ·have e:decide (0≤a∧a<1099511627776)=decide (a<1099511627776):=by simp [c1]
  rw [e] at hP
  simp only [KK,↓reduceIte,reduceLT,reduceEqDiff,reduceCtorEq,c1]
  exact hP
 ·have e:decide (0≤a∧a<1099511627776)=false:=by simp [c1]
  rw [e] at hP
  simp only [KK,↓reduceIte,reduceLT,reduceEqDiff,reduceCtorEq,c1]
  exact hP
theorem nhas_ok {a:Int} (hx:NdR h p x) (hn:0≤x.n∧x.n≤1000) (hP:P (.c (.bool (decide (0≤a∧a≤x.n-1)))) h):callW N (k+2) 273 [.c (.ptr p 0 0 0),.c (.int .i64 a)] h P:=by
 unfold NdR NodeX.row at hx
 have w1:IntKind.wrap .i64 (x.n-1)=x.n-1:=wrap_i64 (by omega)
 refine ci rfl ?_
 simp only [KK,↓reduceIte,reduceLT,reduceEqDiff,reduceAdd,reduceCtorEq,hx,w1]
 refine nin_ok (k:=k) ?_
 simp only [KK,↓reduceIte,reduceLT]
 exact hP
theorem nsynced_ok (hx:NdR h p x) (hP:P (.c (.bool x.sy)) h):callW N (k+1) 265 [.c (.ptr p 0 0 0)] h P:=by
 unfold NdR NodeX.row at hx
 refine ci rfl ?_
 simp only [KK,↓reduceIte,reduceLT,reduceEqDiff,reduceCtorEq,hx]
 exact hP
end
end
section
set_option maxHeartbeats 4000000
def evR (kd id src:Int):List CV:=[.int .i64 kd,.int .i64 id,.int .i64 src,.int .i64 0,.int .i64 0,.int .i64 0,.int .i64 0,.int .i64 0,.nils,.nils]
theorem NdR.keep {S:Nat→Prop} {h h':Hp} {p:Nat} {x:NodeX} (k:NdR h p x) (f:Fm S h h') (hS:¬S p):NdR h' p x:=f.some k hS
theorem NdR.lt {h:Hp} {p:Nat} {x:NodeX} (k:NdR h p x):p<h.n:=lt_of_g k
theorem NdR.own {h:Hp} {p sz:Nat} {x:NodeX} {v:CV} {rows:List (List CV)} (k:NdR h p x) (w:Ow h sz v rows) (hsz:sz≠32):¬ownId v p:=by
 intro hj
 cases v <;> simp only [ownId] at hj
 subst hj
 obtain ⟨_,_,lw2,rs2,e2,_⟩:=w
 unfold NdR at k
 rw [e2] at k
 injection k with k
 injection k with _ k
 exact hsz k
def firstL (L:List Pr):Int:=match L with | []=>64|y::_=>y.n
section
variable {k:Nat} {h:Hp} {P:AV→Hp→Prop} {p:Nat} {x:NodeX}
theorem event_ok {E:List (List CV)} {kd src:Int} (hx:NdR h p x) (hw:Ow h 10 x.ev E) (hE:E.length≤100000)
 (hP:∀ h' w,NdR h' p {x with ev:=w}→Ow h' 10 w (E++[evR kd x.id src])→Fm (fun j=>j=p∨ownId x.ev j) h h'→(∀ j,ownId w j→ownId x.ev j∨h.n≤j)→P (.tup []) h') :
 callW N (k+1) 384 [.c (.ptr p 0 0 0),.c (.int .i64 kd),.c (.int .i64 src)] h P:=by
 have hpw:=hx.own hw (by decide)
 have hx0:=hx
 unfold NdR NodeX.row at hx
 obtain ⟨h1,hh1⟩:=nm (h.reserve 1)
 have f1:Fn h h1:=by rw [hh1];exact Fm.reserve _ _ _
 have d1:h1.g h.n=some .dead:=by rw [hh1,g_reserve,if_pos (by omega)]
 have n1:h1.n=h.n+1:=by rw [hh1];exact n_reserve _ _
 have x1:=f1.some hx (fun e=>e)
 obtain ⟨h2,hh2⟩:=nm (h1.put h.n (.rows true 10 0 0 [[.int .i64 kd,.int .i64 x.id,.int .i64 src,.int .i64 0,.int .i64 0,.int .i64 0,.int .i64 0,.int .i64 0,.nils,.nils]]))
 have f2:Fm (fun j=>j=h.n) h1 h2:=by rw [hh2];exact Fm.put (S:=fun j=>j=h.n) _ _ rfl
 have e2:h2.g h.n=some (.rows true 10 0 0 [[.int .i64 kd,.int .i64 x.id,.int .i64 src,.int .i64 0,.int .i64 0,.int .i64 0,.int .i64 0,.int .i64 0,.nils,.nils]]):=by rw [hh2,g_put_eq,d1];rfl
 have hpl:=lt_of_g hx
 have x2:=f2.some x1 (by omega)
 have F2:Fn h h2:=f1.fresh f2 (fun j e=>by omega)
 have hs:SL h2 10 (.sl h.n 0 0 1 (some 1)) [evR kd x.id src]:=⟨true,0,0,_,e2,Nat.le_refl _,Nat.le_refl 1,rfl⟩
 obtain ⟨w,h3,a1,a2,a3,a4⟩:=(hw.new F2).app (lc:=[]) (x:=.v (.c (.sl h.n 0 0 1 (some 1)))) (xs:=[evR kd x.id src]) hs.read (by simp) (bytes:=112) (by simp only [room,List.length_cons,List.length_nil];omega)
 have x3:=a3.some x2 hpw
 obtain ⟨h4,hh4⟩:∃ g,g=h3.put p (.rows true 32 0 0 [NodeX.row {x with ev:=w}]):=⟨_,rfl⟩
 have hfold:=hh4.symm
 unfold NodeX.row at hfold
 refine ci rfl ?_
 simp only [KK,↓reduceIte,reduceLT,reduceEqDiff,reduceAdd,reduceLeDiff,reduceCtorEq,hh1.symm,x1,d1,hh2.symm,a1,x3,hfold]
 have f4:Fm (fun j=>j=p) h3 h4:=by rw [hh4];exact Fm.put (S:=fun j=>j=p) _ _ rfl
 refine hP h4 w ?_ (a2.mono f4 ?_) ?_ ?_
 ·unfold NdR
  rw [hh4,g_put_eq,x3]
  rfl
 ·rintro j hj rfl
  rcases a4 j hj with e|e
  ·exact hpw e
  ·have:=F2.n;omega
 ·exact (F2.mono (fun _ _ e=>e.elim)).trans ((a3.mono fun j _ e=>.inr e).trans (f4.mono fun j _ e=>.inl e))
 ·intro j hj
  rcases a4 j hj with e|e
  ·exact .inl e
  ·exact .inr (by have:=F2.n;omega)
theorem tells_ok (hx:NdR h p x) (hP:∀ h',NdR h' p {x with ev:=.nils}→Fm (fun j=>j=p) h h'→P (.c x.ev) h'):callW N (k+1) 380 [.c (.ptr p 0 0 0)] h P:=by
 have hx0:=hx
 unfold NdR NodeX.row at hx
 obtain ⟨h1,hh1⟩:∃ g,g=h.put p (.rows true 32 0 0 [NodeX.row {x with ev:=.nils}]):=⟨_,rfl⟩
 have hfold:=hh1.symm
 unfold NodeX.row at hfold
 refine ci rfl ?_
 simp only [KK,↓reduceIte,reduceLT,reduceEqDiff,reduceAdd,reduceCtorEq,hx,hfold]
 refine hP h1 ?_ (by rw [hh1];exact Fm.put (S:=fun j=>j=p) _ _ rfl)
 unfold NdR
 rw [hh1,g_put_eq,hx]
 rfl
theorem nfirst_ok {s:Nat} {me rank:Int} {v:CV} {L:List Pr} (hx:NdR h p x) (hpp:x.pp = .ptr s 0 0 0) (hs:PS h s me rank v L) (hP:P (.c (.int .i64 (firstL L))) h):callW N (k+2) 274 [.c (.ptr p 0 0 0)] h P:=by
 unfold NdR NodeX.row at hx
 rw [hpp] at hx
 refine ci rfl ?_
 simp only [KK,↓reduceIte,reduceLT,reduceCtorEq,hx]
 refine first_ok (k:=k) hs ?_
 cases L with
 | nil=>
  simp only [KK,↓reduceIte,reduceLT,reduceEqDiff,List.head?_nil,Option.isSome_none,Option.getD_none]
  exact hP
 | cons y ys=>
  simp only [KK,↓reduceIte,reduceLT,reduceEqDiff,List.head?_cons,Option.isSome_some,Option.getD_some]
  exact hP
theorem nslot_ok {y:ClkX} {a ppm:Int} (ha:0≤a∧a<1099511627776) (hx:NdR h p x) (hid:x.id≠0) (hl:0≤x.ls∧x.ls≤1000000000) (hc:ClkAt h x.ck y) (ho:y.Ok)
 (hP:∀ h',NdR h' p (if x.sy then x else {x with ls:=x.ls+1})→ClkAt h' x.ck (y.slot ppm)→Fm (fun j=>j=p∨j=x.ck) h h'→P (.tup []) h') :
 callW N (k+3) 341 [.c (.ptr p 0 0 0),.c (.int .i64 a),.c (.int .i64 ppm)] h P:=by
 have hne:p≠x.ck:=ne_of_g hx hc (by unfold NodeX.row;simp)
 have hx0:=hx
 unfold NdR NodeX.row at hx
 have e1:decide (0≤a∧a<1099511627776)=true:=by simp;omega
 have w1:IntKind.wrap .i64 (x.ls+1)=x.ls+1:=wrap_i64 (by omega)
 refine ci rfl ?_
 simp only [KK,↓reduceIte,reduceLT,reduceEqDiff,reduceAdd,reduceCtorEq]
 refine nasn_ok (k:=k+1) ?_
 simp only [KK,↓reduceIte,reduceLT,reduceEqDiff,reduceCtorEq,e1,hx,hid]
 refine cslot_ok (k:=k) hc ho fun h1 c1 f1=>?_
 have x1:=f1.some hx hne
 cases hsy:x.sy with
 | true=>
  rw [hsy] at x1
  simp only [KK,↓reduceIte,reduceLT,reduceCtorEq,x1]
  have:=hP h1
  rw [hsy,if_pos rfl] at this
  exact this (hx0.keep f1 hne) c1 (f1.mono fun j _ e=>.inr e)
 | false=>
  rw [hsy] at x1
  obtain ⟨h2,hh2⟩:∃ g,g=h1.put p (.rows true 32 0 0 [NodeX.row {x with sy:=false,ls:=x.ls+1}]):=⟨_,rfl⟩
  have hfold:=hh2.symm
  unfold NodeX.row at hfold
  simp only [KK,↓reduceIte,reduceLT,reduceEqDiff,reduceAdd,reduceLeDiff,reduceCtorEq,x1,w1,hfold]
  have f2:Fm (fun j=>j=p) h1 h2:=by rw [hh2];exact Fm.put (S:=fun j=>j=p) _ _ rfl
  have:=hP h2
  rw [hsy,if_neg (by simp)] at this
  refine this ?_ (f2.some c1 (fun e=>hne e.symm)) ((f1.mono fun j _ e=>.inr e).trans (f2.mono fun j _ e=>.inl e))
  unfold NdR
  rw [hh2,g_put_eq,x1]
  show some _=some _
  rw [←hsy]
theorem moves_ok {y:ClkX} {kc:Nat} {ke ks src t:Int} {E:List (List CV)} (hx:NdR h p x) (hc:ClkAt h x.ck y) (ho:y.Ok) (hkp:x.kp = .ptr kc 0 0 0) (hk:KepAt h kc ke ks) (hw:Ow h 10 x.ev E) (hE:E.length≤100000)
 (hP:∀ h' w,NdR h' p {x with ev:=w}→ClkAt h' x.ck (y.move t)→KepAt h' kc ke 0→Ow h' 10 w (E++[evR 7 x.id src])→Fm (fun j=>j=p∨j=x.ck∨j=kc∨ownId x.ev j) h h'→(∀ j,ownId w j→ownId x.ev j∨h.n≤j)→P (.tup []) h') :
 callW N (k+3) 404 [.c (.ptr p 0 0 0),.c (.int .i64 src),.c (.int .i64 t)] h P:=by
 have hne:p≠x.ck:=ne_of_g hx hc (by unfold NodeX.row;simp)
 have hne2:p≠kc:=ne_of_g hx hk (by unfold NodeX.row;simp)
 have hne3:kc≠x.ck:=ne_of_g hk hc (by simp)
 have hck:¬ownId x.ev x.ck:=by
  intro hj
  cases hv:x.ev <;> rw [hv] at hj hw <;> simp only [ownId] at hj
  subst hj
  obtain ⟨_,_,lw2,rs2,e2,_⟩:=hw
  rw [hc] at e2
  simp at e2
 have hkk:¬ownId x.ev kc:=by
  intro hj
  cases hv:x.ev <;> rw [hv] at hj hw <;> simp only [ownId] at hj
  subst hj
  obtain ⟨_,_,lw2,rs2,e2,_⟩:=hw
  rw [hk] at e2
  simp at e2
 have hx0:=hx
 unfold NdR NodeX.row at hx
 rw [hkp] at hx
 refine ci rfl ?_
 simp only [KK,↓reduceIte,reduceLT,reduceEqDiff,reduceAdd,reduceCtorEq,hx]
 refine cmove_ok (k:=k) hc ho fun h1 c1 f1=>?_
 have x1:=f1.some hx hne
 simp only [KK,↓reduceIte,reduceLT,reduceEqDiff,reduceCtorEq,x1]
 refine kheard_ok (k:=k+1) (f1.some hk hne3) fun h2 k2 f2=>?_
 have x2:NdR h2 p x:=(hx0.keep f1 hne).keep f2 hne2
 simp only [KK,↓reduceIte,reduceLT,reduceEqDiff,reduceCtorEq]
 refine event_ok (k:=k+1) x2 ((hw.mono f1 (fun j hj e=>hck (by rw [←e];exact hj))).mono f2 (fun j hj e=>hkk (by rw [←e];exact hj))) hE fun h3 w x3 w3 f3 p3=>?_
 simp only [KK]
 refine hP h3 w x3 (f3.some (f2.some c1 (fun e=>hne3 e.symm)) ?_) (f3.some k2 ?_) w3 ?_ ?_
 ·rintro (e|e)
  ·exact hne e.symm
  ·exact hck e
 ·rintro (e|e)
  ·exact hne2 e.symm
  ·exact hkk e
 ·exact (f1.mono fun j _ e=>.inr (.inl e)).trans ((f2.mono fun j _ e=>.inr (.inr (.inl e))).trans (f3.mono fun j _ e=>e.elim .inl (fun e=>.inr (.inr (.inr e)))))
 ·intro j hj
  rcases p3 j hj with e|e
  ·exact .inl e
  ·exact .inr (by have:=f1.n;have:=f2.n;omega)
end
end
section
set_option maxHeartbeats 8000000
def rankD (l:List Iv) (now:Int):Int × Bool:=
 match findI 1 l with
 | some (.sync a r)=>(r,decide ((a:Int)=now))
 | _=>(0,false)
theorem find_sync {l:List Iv} (hg:∀ v∈l,v.Good) {v:Iv} (hf:findI 1 l=some v):∃ a r,v = .sync a r∧a<1099511627776∧r≤255:=by
 unfold findI at hf
 have h1:=List.mem_of_find?_eq_some hf
 have h2:=List.find?_some (p:=fun v:Iv=>v.kind == 1) hf
 have h3:=hg v h1
 cases v with
 | sync a r=>exact ⟨a,r,rfl,h3.1,h3.2⟩
 | corr t=>simp [Iv.kind] at h2
 | lst d l=>have h3:=h3.1;simp [Iv.kind] at h2;omega
theorem rankD_le {l:List Iv} (hg:∀ v∈l,v.Good) (now:Int):0≤(rankD l now).1∧(rankD l now).1≤255:=by
 unfold rankD
 cases hf:findI 1 l with
 | none=>simp
 | some v=>
  obtain ⟨a,r,rfl,h1,h2⟩:=find_sync hg hf
  simp only
  omega
theorem hearS_new {me src r now:Int} (hm:mayP me src r now):hearS me (r+1) [] src r now=(r+1,[⟨r,src,now⟩],true):=by
 unfold hearS
 rw [if_pos hm,if_neg (by omega)]
 have:hearL (r+1) [] ⟨r,src,now⟩=[⟨r,src,now⟩]:=by
  unfold hearL insP keepN
  have:¬(min (r+1) (r+1)≤r):=by omega
  simp [List.filter_cons]
  rw [if_pos (by omega)]
  rfl
 rw [this]
 simp [rankOf,Int.min_self]
theorem Ivt.none (me rank:Int):Ivt me rank []:=⟨List.Pairwise.nil,by simp,by simp,by simp⟩
section
variable {k:Nat} {h:Hp} {P:AV→Hp→Prop} {p:Nat} {x:NodeX}
theorem frank_ok {base:Nat} {F:Fv} {o dat:CV} {now:Int} (ho:IesAt base h o F.ies) (hg:∀ v∈F.ies,v.Good) (hl:F.ies.length≤4)
 (hP:∀ h',Fn h h'→P (.tup [.c (.int .i64 (rankD F.ies now).1),.c (.bool (rankD F.ies now).2)]) h'):callW N (k+3) 376 [.agg (F.row o dat),.c (.int .i64 now)] h P:=by
 unfold Fv.row
 refine ci rfl ?_
 simp only [KK,↓reduceIte,reduceLT,reduceEqDiff,reduceAdd,reduceCtorEq]
 refine findi_ok (k:=k) (d:=1) ho hg (by omega) (fun h1 v s hf _ f1=>?_) (fun h1 hf f1=>?_)
 ·obtain ⟨a,r,rfl,b1,b2⟩:=find_sync hg hf
  have:=hP h1 f1
  unfold rankD at this
  rw [hf] at this
  simp only [Iv.row]
  simp only [KK,↓reduceIte,reduceLT,reduceEqDiff,reduceAdd]
  exact this
 ·have:=hP h1 f1
  unfold rankD at this
  rw [hf] at this
  simp only [z5]
  simp only [KK,↓reduceIte,reduceLT,reduceEqDiff,reduceAdd]
  exact this
def adoptC (x:NodeX) (F:Fv) (r:Int):Prop:=F.kind=3∧r≤253∧x.lo<x.ls
theorem adopt_no {F:Fv} {o dat:CV} {r now t:Int} (hx:NdR h p x) (hc:¬adoptC x F r) (hP:P (.tup []) h) :
 callW N (k+8) 390 [.c (.ptr p 0 0 0),.agg (F.row o dat),.c (.int .i64 r),.c (.int .i64 now),.c (.int .i64 t)] h P:=by
 unfold NdR NodeX.row at hx
 unfold Fv.row
 refine ci rfl ?_
 by_cases hk:(F.kind:Int)=3
 ·by_cases hr:(253:Int)<r
  ·simp only [KK,↓reduceIte,reduceLT,reduceEqDiff,reduceAdd,reduceCtorEq,hk,hr]
   exact hP
  ·have hls:x.ls≤x.lo:=by
    by_cases hls:x.ls≤x.lo
    ·exact hls
    ·exact absurd ⟨by omega,by omega,by omega⟩ hc
   simp only [KK,↓reduceIte,reduceLT,reduceEqDiff,reduceAdd,reduceCtorEq,hk,hr,hx,hls]
   exact hP
 ·simp only [KK,↓reduceIte,reduceLT,reduceEqDiff,reduceAdd,reduceCtorEq,hk]
  exact hP
theorem adopt_ok {y:ClkX} {F:Fv} {o dat:CV} {r now t:Int} (hx:NdR h p x) (hev:x.ev = .nils) (hc:ClkAt h x.ck y) (ho:y.Ok) (hcond:adoptC x F r) (hr:0≤r)
 (hid:0≤x.id∧x.id≤15) (hs:(F.src:Int)≤15∧(F.src:Int)≠x.id) (hnow:0≤now)
 (hP:∀ h' s kc v w,NdR h' p {x with sy:=true,pp:=.ptr s 0 0 0,kp:=.ptr kc 0 0 0,ev:=w}→ClkAt h' x.ck (y.move t)→KepAt h' kc (max 1 (min x.ke 10000)) 0→PS h' s x.id (r+1) v [⟨r,F.src,now⟩]→
  Ow h' 10 w [evR 1 x.id F.src,evR 7 x.id F.src,evR 2 x.id F.src,evR 6 x.id F.src]→h.n≤s→h.n≤kc→(∀ j,ownId v j→h.n≤j)→(∀ j,ownId w j→h.n≤j)→Fm (fun j=>j=p∨j=x.ck) h h'→P (.tup []) h') :
 callW N (k+8) 390 [.c (.ptr p 0 0 0),.agg (F.row o dat),.c (.int .i64 r),.c (.int .i64 now),.c (.int .i64 t)] h P:=by
 obtain ⟨c1,c2,c3⟩:=hcond
 have hk:(F.kind:Int)=3:=by omega
 have hr2:¬(253:Int)<r:=by omega
 have hls:¬x.ls≤x.lo:=by omega
 have hne:p≠x.ck:=ne_of_g hx hc (by unfold NodeX.row;simp)
 have w1:IntKind.wrap .i64 (r+1)=r+1:=wrap_i64 (by omega)
 have hx0:=hx
 have hpl:=hx.lt
 have hcl:=lt_of_g hc
 unfold NdR NodeX.row at hx
 obtain ⟨h1,hh1⟩:∃ g,g=h.put p (.rows true 32 0 0 [NodeX.row {x with sy:=true}]):=⟨_,rfl⟩
 have fd1:=hh1.symm
 have x1:h1.g p=some (.rows true 32 0 0 [NodeX.row {x with sy:=true}]):=by rw [hh1,g_put_eq,hx];rfl
 have f1:Fm (fun j=>j=p) h h1:=by rw [hh1];exact Fm.put (S:=fun j=>j=p) _ _ rfl
 unfold NodeX.row at fd1 x1
 unfold Fv.row
 refine ci rfl ?_
 simp only [KK,↓reduceIte,reduceLT,reduceEqDiff,reduceAdd,reduceLeDiff,reduceCtorEq,hk,hr2,hx,hls,fd1,x1,w1]
 refine pnew_ok (k:=k+5) (fun _ _ h2 s s2 f2 n2=>?_) (fun e=>by omega)
 have x2:=f2.some x1 (fun e=>e)
 simp only [KK,↓reduceIte,reduceLT,reduceEqDiff,x2]
 refine knew_ok (k:=k+6) fun h3 k3 f3=>?_
 have x3:=f3.some x2 (fun e=>e)
 have n1:h1.n=h.n:=by rw [hh1,n_put]
 have n3:=f3.n
 have n2':=f2.n
 have hsl:=lt_of_g s2.1
 obtain ⟨h4,hh4⟩:∃ g,g=h3.put p (.rows true 32 0 0 [NodeX.row {x with sy:=true,pp:=.ptr s 0 0 0}]):=⟨_,rfl⟩
 have fd4:=hh4.symm
 have x4:h4.g p=some (.rows true 32 0 0 [NodeX.row {x with sy:=true,pp:=.ptr s 0 0 0}]):=by rw [hh4,g_put_eq,x3];rfl
 unfold NodeX.row at fd4 x4
 obtain ⟨h5,hh5⟩:∃ g,g=h4.put p (.rows true 32 0 0 [NodeX.row {x with sy:=true,pp:=.ptr s 0 0 0,kp:=.ptr h2.n 0 0 0}]):=⟨_,rfl⟩
 have fd5:=hh5.symm
 have x5:NdR h5 p {x with sy:=true,pp:=.ptr s 0 0 0,kp:=.ptr h2.n 0 0 0}:=by unfold NdR;rw [hh5,g_put_eq,x4];rfl
 have x5':=x5
 unfold NdR NodeX.row at x5'
 unfold NodeX.row at fd5
 have f5:Fm (fun j=>j=p) h3 h5:=by rw [hh5,hh4];exact (Fm.put (S:=fun j=>j=p) _ _ rfl).trans (Fm.put (S:=fun j=>j=p) _ _ rfl)
 have n5:=f5.n
 simp only [KK,↓reduceIte,reduceLT,reduceEqDiff,reduceAdd,reduceLeDiff,reduceCtorEq,x3,fd4,x4,fd5,x5']
 have s5:PS h5 s x.id (r+1) .nils []:=(s2.new f3).mono f5 (by omega) (fun j e=>e.elim)
 have k5:=f5.some k3 (show ¬h2.n=p by omega)
 have hmay:mayP x.id F.src r now:=⟨by omega,hs.2,by omega,by omega⟩
 refine hear_ok (k:=k) s5 (Ivt.none _ _) (by omega) fun h6 v6 s6 f6 p6=>?_
 rw [hearS_new hmay] at s6
 have q6:∀ j,ownId v6 j→h5.n≤j:=fun j hj=>(p6 j hj).elim (fun e=>e.elim) id
 have f6':Fm (fun j=>j=s) h5 h6:=f6.mono fun j _ e=>e.elim id (fun e=>e.elim)
 have x6:=x5.keep f6' (show ¬p=s by omega)
 have k6:=f6'.some k5 (show ¬h2.n=s by omega)
 have n6:=f6.n
 have w6:Ow h6 10 ({x with sy:=true,pp:=.ptr s 0 0 0,kp:=.ptr h2.n 0 0 0}:NodeX).ev []:=by
  show Ow h6 10 x.ev []
  rw [hev]
  rfl
 simp only [KK,↓reduceIte,reduceLT,reduceEqDiff,reduceCtorEq]
 refine event_ok (k:=k+6) x6 w6 (by simp) fun h7 wa x7 w7 f7 p7=>?_
 have own0:∀ j,¬ownId ({x with sy:=true,pp:=.ptr s 0 0 0,kp:=.ptr h2.n 0 0 0}:NodeX).ev j:=by
  intro j
  show ¬ownId x.ev j
  rw [hev]
  exact id
 have q7:∀ j,ownId wa j→h6.n≤j:=fun j hj=>(p7 j hj).elim (fun e=>absurd e (own0 j)) id
 have f7':Fm (fun j=>j=p) h6 h7:=f7.mono fun j _ e=>e.elim id (fun e=>absurd e (own0 j))
 have c7:ClkAt h7 x.ck y:=f7'.some (f6'.some (f5.some (f3.some (f2.some (f1.some hc (fun e=>hne e.symm)) (fun e=>e)) (fun e=>e)) (fun e=>hne e.symm)) (show ¬x.ck=s by omega)) (fun e=>hne e.symm)
 have k7:=f7'.some k6 (show ¬h2.n=p by omega)
 have n7:=f7.n
 simp only [KK,↓reduceIte,reduceLT,reduceEqDiff,reduceCtorEq]
 refine moves_ok (k:=k+4) x7 c7 ho rfl k7 w7 (by simp) fun h8 wb x8 c8 k8 w8 f8 p8=>?_
 have n8:=f8.n
 have q8:∀ j,ownId wb j→h6.n≤j:=fun j hj=>(p8 j hj).elim (fun e=>q7 j e) (fun e=>by omega)
 simp only [KK,↓reduceIte,reduceLT,reduceEqDiff,reduceCtorEq]
 refine event_ok (k:=k+6) x8 w8 (by simp) fun h9 wc x9 w9 f9 p9=>?_
 have n9:=f9.n
 have q9:∀ j,ownId wc j→h6.n≤j:=fun j hj=>(p9 j hj).elim (fun e=>q8 j e) (fun e=>by omega)
 simp only [KK,↓reduceIte,reduceLT,reduceEqDiff,reduceCtorEq]
 refine event_ok (k:=k+6) x9 w9 (by simp) fun h10 wd x10 w10 f10 p10=>?_
 have q10:∀ j,ownId wd j→h6.n≤j:=fun j hj=>(p10 j hj).elim (fun e=>q9 j e) (fun e=>by omega)
 simp only [KK]
 have f810:Fm (fun j=>j=p∨j=x.ck∨j=h2.n∨h6.n≤j) h7 h10:=
  (f8.mono fun j _ e=>by rcases e with e|e|e|e;exact .inl e;exact .inr (.inl e);exact .inr (.inr (.inl e));exact .inr (.inr (.inr (q7 j e)))).trans
   ((f9.mono fun j _ e=>e.elim .inl (fun e=>.inr (.inr (.inr (q8 j e))))).trans (f10.mono fun j _ e=>e.elim .inl (fun e=>.inr (.inr (.inr (q9 j e))))))
 have f910:Fm (fun j=>j=p∨h6.n≤j) h8 h10:=(f9.mono fun j _ e=>e.elim .inl (fun e=>.inr (q8 j e))).trans (f10.mono fun j _ e=>e.elim .inl (fun e=>.inr (q9 j e)))
 have c10:ClkAt h10 x.ck (y.move t):=f910.some c8 (by omega)
 have k10:=f910.some k8 (show ¬(h2.n=p∨h6.n≤h2.n) by have:=lt_of_g k3;omega)
 have hs6l:=lt_of_g s6.1
 have s10:PS h10 s x.id (r+1) v6 [⟨r,F.src,now⟩]:=by
  refine (s6.mono f7' (by omega) (fun j hj=>by have:=q6 j hj;omega)).mono f810 (by have:=lt_of_g k3;omega) (fun j hj e=>?_)
  have h1:=q6 j hj
  have h2:j<h6.n:=s6.2.1.lt hj
  have:=lt_of_g k3
  omega
 refine hP h10 s h2.n v6 wd x10 c10 k10 s10 (by simpa using w10) (by omega) (by omega) (fun j hj=>by have:=q6 j hj;omega) (fun j hj=>by have:=q10 j hj;omega) ?_
 have g1:Fm (fun j=>j=p∨j=x.ck) h h5:=(f1.mono fun j _ e=>.inl e).trans (((f2.trans f3).mono fun j _ e=>e.elim).trans (f5.mono fun j _ e=>.inl e))
 have g2:Fm (fun j=>j=p∨j=x.ck∨h.n≤j) h5 h10:=(f6'.mono fun j _ e=>.inr (.inr (by omega))).trans ((f7'.mono fun j _ e=>.inl e).trans (f810.mono fun j _ e=>by omega))
 exact g1.comp g2 fun j hj e=>by omega
end
end
section
set_option maxHeartbeats 8000000
theorem decF_good {L:List Nat} {F:Fv} (hL:∀ c∈L,c<256) (h:decF L=some F):(∀ v∈F.ies,v.Good)∧F.ies.length≤4∧F.seq<256:=by
 unfold decF at h
 split at h
 ·cases h
 split at h
 ·rename_i b d s t q n B hT
  have hTb:∀ c∈b::d::s::t::q::n::B,c<256:=fun c hc=>hL c (by rw [←hT] at hc;exact List.mem_of_mem_take hc)
  have hB:∀ c∈B,c<256:=fun c hc=>hTb c (by simp [hc])
  have hE:∀ c∈(textN n (some B)).1,c<256:=fun c hc=>by
   obtain ⟨B',e,hc⟩:=textN_of.1 c hc
   injection e with e
   subst e
   exact hB c hc
  split at h
  ·cases hd:decI (textN n (some B)).1 with
   | none=>rw [hd] at h;cases h
   | some l=>
    rw [hd,Option.bind_some] at h
    obtain ⟨g1,g2⟩:=decI_good hE hd
    split at h
    ·injection h with h
     subst h
     exact ⟨g1,g2,hTb q (by simp)⟩
    ·cases h
  ·cases h
 ·cases h
def clampM (m:Int):Int:=max (-30000) (min m 30000)
def hearC (x:NodeX) (L:List Nat) (now:Int):Option Fv:=
 (decF L).bind fun F=>if (0≤(F.src:Int)∧(F.src:Int)≤x.n-1)∧(F.src:Int)≠x.id∧(rankD F.ies now).2=true then some F else none
section
variable {k:Nat} {h:Hp} {P:AV→Hp→Prop} {p:Nat} {x:NodeX}
theorem nhear_un {y:ClkX} {u:CV} {L:List Nat} {now m:Int} (ha:0≤now∧now<1099511627776) (hx:NdR h p x) (hsy:x.sy=false) (hev:x.ev = .nils) (hn:0≤x.n∧x.n≤16) (hid:0≤x.id∧x.id≤15)
 (hc:ClkAt h x.ck y) (ho:y.Ok) (hu:SL h 1 u (L.map eB)) (hcu:CapL u) (hL:∀ c∈L,c<256) (hl:L.length≤100000)
 (hA:∀ h',(∀ F,hearC x L now=some F→¬adoptC x F (rankD F.ies now).1)→NdR h' p x→Fm (fun j=>j=p) h h'→P (.tup [.c .nils,.c .nils]) h')
 (hB:∀ F h' s kc v w,hearC x L now=some F→adoptC x F (rankD F.ies now).1→NdR h' p {x with sy:=true,pp:=.ptr s 0 0 0,kp:=.ptr kc 0 0 0}→ClkAt h' x.ck (y.move (clampM m))→KepAt h' kc (max 1 (min x.ke 10000)) 0→
  PS h' s x.id ((rankD F.ies now).1+1) v [⟨(rankD F.ies now).1,F.src,now⟩]→Ow h' 10 w [evR 1 x.id F.src,evR 7 x.id F.src,evR 2 x.id F.src,evR 6 x.id F.src]→
  h.n≤s→h.n≤kc→(∀ j,ownId v j→h.n≤j)→(∀ j,ownId w j→h.n≤j)→Fm (fun j=>j=p∨j=x.ck) h h'→P (.tup [.c .nils,.c w]) h') :
 callW N (k+11) 343 [.c (.ptr p 0 0 0),.c (.int .i64 now),.c u,.c (.int .i64 m)] h P:=by
 have hne:p≠x.ck:=ne_of_g hx hc (by unfold NodeX.row;simp)
 have e1:decide (0≤now∧now<1099511627776)=true:=by simp;omega
 have hx':=hx
 unfold NdR NodeX.row at hx'
 rw [hsy] at hx'
 have hpl:=hx.lt
 refine ci rfl ?_
 simp only [KK,↓reduceIte,reduceLT,reduceEqDiff,reduceAdd,reduceCtorEq]
 refine nasn_ok (k:=k+9) ?_
 simp only [KK,↓reduceIte,reduceLT,reduceEqDiff,reduceCtorEq,e1]
 refine decode_ok (k:=k) hu hcu hL hl (fun F h1 o dat hd hio hdat hdo f1=>?_) (fun h1 e hd he f1=>?_)
 case refine_2=>
  have he2:¬e=0:=he
  simp only [z6]
  simp only [KK,↓reduceIte,reduceLT,reduceEqDiff,reduceAdd,reduceCtorEq,he2]
  exact hA h1 (fun F hF=>by unfold hearC at hF;rw [hd] at hF;cases hF) (hx.keep f1 (fun e=>e)) (f1.mono fun _ _ e=>e.elim)
 obtain ⟨hg,hl4,hsq⟩:=decF_good hL hd
 have x1:=hx.keep f1 (fun e=>e)
 have x1':=f1.some hx' (fun e=>e)
 simp only [Fv.row]
 simp only [KK,↓reduceIte,reduceLT,reduceEqDiff,reduceAdd,reduceCtorEq]
 refine nhas_ok (k:=k+8) x1 (by omega) ?_
 by_cases hhas:0≤(F.src:Int)∧(F.src:Int)≤x.n-1
 case neg=>
  have e2:decide (0≤(F.src:Int)∧(F.src:Int)≤x.n-1)=false:=by simp only [hhas,decide_false]
  simp only [KK,↓reduceIte,reduceLT,reduceEqDiff,reduceCtorEq,e2]
  refine hA h1 (fun F' hF=>?_) x1 (f1.mono fun _ _ e=>e.elim)
  unfold hearC at hF
  rw [hd,Option.bind_some,if_neg (fun e=>hhas e.1)] at hF
  cases hF
 have e2:decide (0≤(F.src:Int)∧(F.src:Int)≤x.n-1)=true:=by simp only [hhas,decide_true,and_self]
 by_cases hown:(F.src:Int)=x.id
 ·have e3:decide ((F.src:Int)=x.id)=true:=by simp [hown]
  simp only [KK,↓reduceIte,reduceLT,reduceEqDiff,reduceCtorEq,e2,x1',e3]
  refine hA h1 (fun F' hF=>?_) x1 (f1.mono fun _ _ e=>e.elim)
  unfold hearC at hF
  rw [hd,Option.bind_some,if_neg (fun e=>e.2.1 hown)] at hF
  cases hF
 simp only [KK,↓reduceIte,reduceLT,reduceEqDiff,reduceAdd,reduceCtorEq,e2,x1',hown]
 refine frank_ok (k:=k+7) (F:=F) hio hg hl4 fun h2 f2=>?_
 have x2:=x1.keep f2 (fun e=>e)
 have x2':=f2.some x1' (fun e=>e)
 by_cases hok:(rankD F.ies now).2=true
 case neg=>
  have hok':(rankD F.ies now).2=false:=by simpa using hok
  simp only [KK,↓reduceIte,reduceLT,reduceEqDiff,reduceCtorEq,hok']
  refine hA h2 (fun F' hF=>?_) x2 ((f1.trans f2).mono fun _ _ e=>e.elim)
  unfold hearC at hF
  rw [hd,Option.bind_some,if_neg (fun e=>hok e.2.2)] at hF
  cases hF
 have hC:hearC x L now=some F:=by
  unfold hearC
  rw [hd,Option.bind_some,if_pos ⟨hhas,hown,hok⟩]
 simp only [KK,↓reduceIte,reduceLT,reduceEqDiff,reduceAdd,reduceCtorEq,hok,x2']
 have hrl:=rankD_le hg now
 have c2:=(f1.trans f2).some hc (fun e=>e)
 have hmm:max (-30000) (min m 30000)=clampM m:=rfl
 rw [hmm]
 have n12:=(f1.trans f2).n
 by_cases hco:adoptC x F (rankD F.ies now).1
 ·refine adopt_ok (k:=k+2) (F:=F) x2 hev c2 ho hco hrl.1 hid ⟨by omega,hown⟩ ha.1 fun h3 s kc v w x3 c3 k3 s3 w3 b1 b2 b3 b4 f3=>?_
  simp only [KK,↓reduceIte,reduceLT,reduceCtorEq]
  refine tells_ok (k:=k+9) x3 fun h4 x4 f4=>?_
  simp only [KK,↓reduceIte,reduceLT,reduceEqDiff]
  have hs3l:=lt_of_g s3.1
  have hk3l:=lt_of_g k3
  refine hB F h4 s kc v w hC hco ?_ (f4.some c3 (fun e=>hne e.symm)) (f4.some k3 (by omega)) (s3.mono f4 (by omega) (fun j hj=>by have:=b3 j hj;omega)) (w3.mono f4 (fun j hj=>by have:=b4 j hj;omega)) (by omega) (by omega) (fun j hj=>by have:=b3 j hj;omega) (fun j hj=>by have:=b4 j hj;omega) ?_
  ·have:({x with sy:=true,pp:=.ptr s 0 0 0,kp:=.ptr kc 0 0 0}:NodeX)={({x with sy:=true,pp:=.ptr s 0 0 0,kp:=.ptr kc 0 0 0,ev:=w}:NodeX) with ev:=.nils}:=by rw [←hev]
   rw [this]
   exact x4
  ·exact ((f1.trans f2).mono fun _ _ e=>e.elim).trans (f3.trans (f4.mono fun j _ e=>.inl e))
 ·refine adopt_no (k:=k+2) (F:=F) x2 hco ?_
  simp only [KK,↓reduceIte,reduceLT,reduceCtorEq]
  refine tells_ok (k:=k+9) x2 fun h4 x4 f4=>?_
  rw [hev]
  simp only [KK,↓reduceIte,reduceLT,reduceEqDiff]
  refine hA h4 (fun F' hF=>by rw [hC] at hF;injection hF with hF;subst hF;exact hco) ?_ (((f1.trans f2).mono fun _ _ e=>e.elim).trans f4)
  have:x={x with ev:=.nils}:=by rw [←hev]
  rw [this]
  exact x4
end
end
section
set_option maxHeartbeats 8000000
structure HpL (L:List Int):Prop where
 rng:∀ x∈L,0≤x∧x≤31
 nd:L.Nodup
 one:1≤L.length
 most:L.length≤16
section
variable {k:Nat} {h:Hp} {P:AV→Hp→Prop} {v:CV} {L:List Int}
def NxI (h:Hp) (v:CV) (x:Int) (L:List Int) (n:Nat) (s:St):Prop:=∃ (i:Nat) (l:List (Nat × TV)) (lc:List (List CV)),s=ST 19 l lc h∧i≤L.length∧n=L.length-i∧
 lk l 0 = .v (.c v)∧lk l 1 = .v (.c (.int .i64 x))∧lk l 7 = .v (.c (.int .i64 L.length))∧lk l 8 = .v (.c (.int .i64 i))
theorem idxnone_ok {x:Int} (hv:SL h 1 v (L.map encI)) (hx:x∉L) (hl:L.length≤1000000) (hP:P (.c (.int .i64 (-1))) h):callW N (k+1) 327 [.c v,.c (.int .i64 x)] h P:=by
 have hlen:=hv.lm
 refine ci rfl ?_
 simp only [KK,↓reduceIte,reduceLT,reduceEqDiff,reduceAdd,reduceCtorEq,hlen]
 refine loop_rd (callW_mono N _) (NxI h v x L) (n:=L.length) ⟨0,_,_,rfl,by omega,by omega,rfl,rfl,rfl,rfl⟩ ?_
 rintro n s ⟨i,l,lc,rfl,hi,hn,e0,e1,e7,e8⟩
 by_cases hlt:(i:Int)<L.length
 ·obtain ⟨y,hy⟩:∃ y,L[i]? = some y:=⟨_,List.getElem?_eq_getElem (by omega)⟩
  obtain ⟨pid,ptok,pj,a1,a2⟩:=hv.at (i:=(i:Int)) (r:=[.int .i64 y]) (by omega) (by simp [encI,hy])
  have hne:¬x=y:=fun e=>hx (by rw [e];exact List.mem_of_getElem? hy)
  have w3:=wi1 i (by omega)
  simp only [KK,↓reduceIte,reduceLT,reduceEqDiff,reduceCtorEq,e0,e1,e7,e8,hlt,a1,a2,hne,w3,rd_n]
  exact ⟨n-1,by omega,i+1,_,_,rfl,by omega,by omega,rfl,rfl,rfl,rfl⟩
 ·simp only [KK,↓reduceIte,reduceLT,reduceEqDiff,reduceCtorEq,e0,e1,e7,e8,hlt]
  exact hP
theorem contnone_ok {x:Int} (hv:SL h 1 v (L.map encI)) (hx:x∉L) (hl:L.length≤1000000) (hP:P (.c (.bool false)) h):callW N (k+2) 305 [.c v,.c (.int .i64 x)] h P:=by
 have z1:¬((0:Int)≤-1):=by decide
 refine ci rfl ?_
 simp only [KK,↓reduceIte,reduceLT,reduceEqDiff,reduceAdd,reduceCtorEq]
 refine idxnone_ok (k:=k) hv hx hl ?_
 simp only [KK,↓reduceIte,reduceLT,z1,hP]
def HmI (h:Hp) (v:CV) (L:List Int) (n:Nat) (s:St):Prop:=∃ (i:Nat) (l:List (Nat × TV)) (lc:List (List CV)),s=ST 34 l lc h∧i≤L.length∧n=L.length-i∧
 lk l 0 = .v (.c v)∧lk l 5 = .v (.c v)∧lk l 6 = .v (.c (.int .i64 L.length))∧lk l 7 = .v (.c (.int .i64 i))
theorem nodup_take {i:Nat} {y:Int} (hn:L.Nodup) (hy:L[i]? = some y):y∉L.take i:=by
 intro hm
 obtain ⟨j,hj⟩:=List.getElem?_of_mem hm
 rw [List.getElem?_take] at hj
 split at hj
 ·rename_i hji
  have h1:=(List.getElem?_eq_some_iff.mp hj).1
  have h2:j=i:=(List.getElem?_inj h1 hn).mp (hj.trans hy.symm)
  omega
 ·cases hj
theorem hmay_ok (hv:SL h 1 v (L.map encI)) (hc:CapL v) (hL:HpL L) (hP:P (.c (.bool true)) h):callW N (k+3) 288 [.c v] h P:=by
 have hlen:=hv.lm
 have hm:=hL.most
 have h1:(1:Int)≤L.length:=by have:=hL.one;omega
 have h16:(L.length:Int)≤16:=by omega
 refine ci rfl ?_
 simp only [KK,↓reduceIte,reduceLT,reduceEqDiff,reduceCtorEq,hlen]
 refine loop_rd (callW_mono N _) (HmI h v L) (n:=L.length) ⟨0,_,_,rfl,by omega,by omega,rfl,rfl,rfl,rfl⟩ ?_
 rintro n s ⟨i,l,lc,rfl,hi,hn,e0,e5,e6,e7⟩
 by_cases hlt:(i:Int)<L.length
 ·obtain ⟨y,hy⟩:∃ y,L[i]? = some y:=⟨_,List.getElem?_eq_getElem (by omega)⟩
  obtain ⟨pid,ptok,pj,a1,a2⟩:=hv.at (i:=(i:Int)) (r:=[.int .i64 y]) (by omega) (by simp [encI,hy])
  have hr:=hL.rng y (List.mem_of_getElem? hy)
  have c1:¬y<0:=by omega
  have c2:¬31<y:=by omega
  obtain ⟨v1,s1,s2,s3,s4⟩:=hv.firstB hc (by decide) (m:=(i:Int)) (by rw [List.length_map];omega)
  rw [Int.toNat_natCast,←List.map_take] at s2
  have w3:=wi1 i (by omega)
  simp only [KK,↓reduceIte,reduceLT,reduceEqDiff,reduceCtorEq,e0,e5,e6,e7,hlt,a1,a2,c1,c2,s1]
  refine contnone_ok (k:=k) s2 (nodup_take hL.nd hy) (by rw [List.length_take];omega) ?_
  simp only [KK,↓reduceIte,reduceLT,reduceEqDiff,reduceCtorEq,w3,rd_n]
  exact ⟨n-1,by omega,i+1,_,_,rfl,by omega,by omega,rfl,rfl,rfl,rfl⟩
 ·simp only [KK,↓reduceIte,reduceLT,reduceEqDiff,reduceCtorEq,e0,e5,e6,e7,hlt,hlen,h1,h16]
  exact hP
end
def u6 (x:Nat):List CV:=[.int .u64 (x:Int)]
def NearOk (n:Nat) (xs:List Nat):Prop:=xs.length=n∧∀ i x,xs[i]? = some x→x<2 ^ n∧x.testBit i=false
theorem NearOk.set {n a b:Nat} {xs:List Nat} {x:Nat} (k:NearOk n xs) (hx:xs[a]? = some x) (hb:b<n) (hab:a≠b):NearOk n (xs.set a (x ||| 2 ^ b)):=by
 refine ⟨by rw [List.length_set];exact k.1,fun i y hy=>?_⟩
 have hal:=lt_at hx
 by_cases hi:i=a
 ·subst hi
  rw [List.getElem?_set_self hal] at hy
  obtain ⟨h1,h2⟩:=k.2 _ _ hx
  cases hy
  refine ⟨Nat.or_lt_two_pow h1 (Nat.pow_lt_pow_right (by decide) hb),?_⟩
  rw [Nat.testBit_or,h2,Nat.testBit_two_pow,Bool.false_or,decide_eq_false (by omega)]
 ·rw [List.getElem?_set_ne (by omega)] at hy
  exact k.2 _ _ hy
theorem near_new (n:Nat):NearOk n (List.replicate n 0):=by
 refine ⟨List.length_replicate ..,fun i x hx=>?_⟩
 rw [List.getElem?_replicate] at hx
 split at hx
 ·cases hx;exact ⟨Nat.two_pow_pos n,Nat.zero_testBit i⟩
 ·cases hx
theorem shl_one {b:Nat} (hb:b<64):binC .shl .num (.int .u64 1) (.int .u64 (b:Int))=some (.int .u64 ((2 ^ b:Nat):Int)):=by
 have h0:¬((b:Int)<0):=by omega
 have h2:2 ^ b<2 ^ 64:=Nat.pow_lt_pow_right (by decide) hb
 show shiftBin .shl .u64 1 (b:Int)=_
 unfold shiftBin
 rw [if_neg h0]
 have:(1:Int) * 2 ^ (min (b:Int).toNat (IntKind.bits .u64))=((2 ^ b:Nat):Int):=by
  rw [Int.toNat_natCast,Nat.min_eq_left (by show b≤64;omega),Int.one_mul];simp
 simp only [this]
 rw [wrapU (k:=.u64) rfl h2]
theorem wrap_pos (x:Int):∃ m:Nat,IntKind.wrap .u64 x=(m:Int):=by
 refine ⟨(IntKind.wrap .u64 x).toNat,(Int.toNat_of_nonneg ?_).symm⟩
 unfold IntKind.wrap
 simp only [IntKind.signed,Bool.false_and,Bool.false_eq_true,if_false]
 exact Int.emod_nonneg _ (by decide)
def CfgC (nr hp n lo q:Nat):List CV:=[.int .i64 n,.sl nr 0 0 n (some n),.sl hp 0 0 3 (some 3),.int .i64 300,.int .i64 1,.int .i64 6,.int .i64 (lo:Int),.int .i64 q,.int .i64 6]
section
variable {k:Nat} {h:Hp} {P:AV→Hp→Prop} {n q:Nat}
def CfO (nr hp n lo q r:Nat) (h0:Hp) (m:Nat) (s:St):Prop:=∃ (i:Nat) (l:List (Nat × TV)) (h':Hp) (xs:List Nat),s=ST 99 l [CfgC nr hp n lo q] h'∧i≤n∧m=n-i∧Ar u6 1 h' nr 0 [] xs∧NearOk n xs∧Fm (fun j=>j=nr) h0 h'∧
 lk l 14 = .v (.c (.ptr r 0 0 0))∧lk l 15 = .v (.c (.int .i64 n))∧lk l 16 = .v (.c (.int .i64 3))∧lk l 17 = .lp 0 0∧lk l 61 = .v (.c (.int .i64 n))∧lk l 62 = .v (.c (.int .i64 i))
def CfN (nr hp n lo q r:Nat) (h0:Hp) (i:Nat) (m:Nat) (s:St):Prop:=∃ (j:Nat) (l:List (Nat × TV)) (h':Hp) (xs:List Nat),s=ST 99 l [CfgC nr hp n lo q] h'∧j≤n∧m=n-j∧Ar u6 1 h' nr 0 [] xs∧NearOk n xs∧Fm (fun j=>j=nr) h0 h'∧
 lk l 14 = .v (.c (.ptr r 0 0 0))∧lk l 15 = .v (.c (.int .i64 n))∧lk l 16 = .v (.c (.int .i64 3))∧lk l 17 = .lp 0 0∧lk l 18 = .v (.c (.int .i64 i))∧lk l 61 = .v (.c (.int .i64 n))∧lk l 62 = .v (.c (.int .i64 i))∧lk l 65 = .v (.c (.int .i64 n))∧lk l 66 = .v (.c (.int .i64 j))
theorem config_ok {nodes loss queue:Int} (hP:∀ h' nr hp (n lo q:Nat) xs,2≤n∧n≤8→(2 * n≤lo∧lo≤2 * n+59)→1≤q∧q≤8→(∀ m:Int,0≤m→m≤9223372036854775807→nodes=m→(n:Int)=2+m % 7)→h'.g nr=some (.rows true 1 0 0 (xs.map u6))→NearOk n xs→h'.g hp=some (.rows true 1 0 0 [[.int .i64 11],[.int .i64 15],[.int .i64 20]])→Fn h h'→P (.agg (CfgC nr hp n lo q)) h') :
 callW N (k+1) 259 [.c (.int .i64 nodes),.c (.int .i64 2),.c (.int .i64 5),.c (.int .i64 loss),.c (.int .i64 queue),.c (.int .i64 5),.c (.int .i64 1)] h P:=by
 obtain ⟨n0,hn0⟩:=wrap_pos nodes
 obtain ⟨q0,hq0⟩:=wrap_pos queue
 obtain ⟨l0,hl0⟩:=wrap_pos loss
 obtain ⟨n,hn⟩:∃ n,n=2+n0 % 7:=⟨_,rfl⟩
 obtain ⟨lo,hlo⟩:∃ lo,lo=2 * n+l0 % 60:=⟨_,rfl⟩
 obtain ⟨q,hq⟩:∃ q,q=1+q0 % 8:=⟨_,rfl⟩
 have t7:Int.tmod (n0:Int) 7=((n0 % 7:Nat):Int):=tmod_nat n0 7
 have t8:Int.tmod (q0:Int) 8=((q0 % 8:Nat):Int):=tmod_nat q0 8
 have w1:IntKind.wrap .i64 ((n0 % 7:Nat):Int)=((n0 % 7:Nat):Int):=wrap_i64 (by omega)
 have w2:IntKind.wrap .i64 (2+((n0 % 7:Nat):Int))=(n:Int):=by rw [wrap_i64 (by omega)];omega
 have w3:IntKind.wrap .i64 ((q0 % 8:Nat):Int)=((q0 % 8:Nat):Int):=wrap_i64 (by omega)
 have w4:IntKind.wrap .i64 (1+((q0 % 8:Nat):Int))=(q:Int):=by rw [wrap_i64 (by omega)];omega
 have w5:IntKind.wrap .i64 (2 * (n:Int))=2 * (n:Int):=wrap_i64 (by omega)
 have t60:Int.tmod (l0:Int) 60=((l0 % 60:Nat):Int):=tmod_nat l0 60
 have w60:IntKind.wrap .i64 ((l0 % 60:Nat):Int)=((l0 % 60:Nat):Int):=wrap_i64 (by omega)
 have a1:IntKind.wrap .i64 (2 * (n:Int)+((l0 % 60:Nat):Int))=(lo:Int):=by rw [wrap_i64 (by omega)];omega
 have a2:IntKind.wrap .i64 (1+IntKind.wrap .i64 (Int.tmod (IntKind.wrap .u64 2) 3))=3:=by decide
 have a3:IntKind.wrap .i64 (Int.tmod (IntKind.wrap .u64 1) 6)=1:=by decide
 have a4:IntKind.wrap .i64 (1+IntKind.wrap .i64 (Int.tmod (IntKind.wrap .u64 5) 30))=6:=by decide
 have a5:IntKind.wrap .i64 (1+IntKind.wrap .i64 (Int.tmod (IntKind.wrap .u64 5) 15))=6:=by decide
 have z7:¬((7:Int)=0):=by decide
 have z3:¬((3:Int)=0):=by decide
 have z6:¬((6:Int)=0):=by decide
 have z30:¬((30:Int)=0):=by decide
 have z60:¬((60:Int)=0):=by decide
 have z8:¬((8:Int)=0):=by decide
 have z15:¬((15:Int)=0):=by decide
 have c0:(0:Int)≤(n:Int):=by omega
 have c1:(n:Int) * ((8:Nat):Int)≤70368744177664:=by omega
 have c2:(n:Int)≤70368744177664:=by omega
 have c3:(n:Int)≤(n:Int):=by omega
 refine ci rfl ?_
 rw [a_fin]
 unfold n259b
 obtain ⟨h1,hh1⟩:=nm (h.push (.rows true 9 0 0 [[.int .i64 0,.nils,.nils,.int .i64 0,.int .i64 0,.int .i64 0,.int .i64 0,.int .i64 0,.int .i64 0]]))
 have n1:h1.n=h.n+1:=by rw [hh1,n_push]
 have f1:=pf hh1
 have g1:h1.g h.n=some (.rows true 9 0 0 [[.int .i64 0,.nils,.nils,.int .i64 0,.int .i64 0,.int .i64 0,.int .i64 0,.int .i64 0,.int .i64 0]]):=by rw [hh1,g_push_eq]
 obtain ⟨h2,hh2⟩:=nm (h1.push (.rows true 1 0 0 (List.replicate n [.int .u64 0])))
 have n2:h2.n=h.n+1+1:=by rw [hh2,n_push,n1]
 have f2:=pf hh2
 have g2:h2.g (h.n+1)=some (.rows true 1 0 0 (List.replicate n [.int .u64 0])):=by rw [hh2,←n1,g_push_eq]
 obtain ⟨h3,hh3⟩:=nm (h2.push (.rows true 1 0 0 [[.int .i64 11],[.int .i64 15],[.int .i64 20]]))
 have n3:h3.n=h.n+1+1+1:=by rw [hh3,n_push,n2]
 have f3:=pf hh3
 have g3:h3.g (h.n+1+1)=some (.rows true 1 0 0 [[.int .i64 11],[.int .i64 15],[.int .i64 20]]):=by rw [hh3,←n2,g_push_eq]
 simp only [KK,↓reduceIte,reduceLT,reduceEqDiff,reduceAdd,reduceLeDiff,reduceCtorEq,hn0,hq0,hl0,t60,w60,hh1.symm,hh2.symm,hh3.symm,n1,n2,Int.toNat_natCast,chunks,t7,t8,w1,w2,w3,w4,w5,a1,a2,a3,a4,a5,z7,z3,z6,z30,z60,z8,z15,c0,c1,c2,c3]
 have ar0:Ar u6 1 h3 (h.n+1) 0 [] (List.replicate n 0):=⟨0,Nat.le_refl _,by rw [f3.some g2 (fun e=>e)];simp [u6]⟩
 refine loop_rd (callW_mono N _) (CfO (h.n+1) (h.n+1+1) n lo q h.n h3) (n:=n) ⟨0,_,_,_,rfl,by omega,rfl,ar0,near_new n,Fm.refl _ _,rfl,rfl,rfl,rfl,rfl,rfl⟩ ?_
 rintro m s ⟨i,l,h4,xs,rfl,hi,hm,ar4,nk4,f4,e14,e15,e16,e17,e61,e62⟩
 by_cases hlt:(i:Int)<n
 ·simp only [KK,↓reduceIte,reduceLT,reduceEqDiff,e14,e15,e16,e17,e61,e62,hlt]
  refine loop_rd (callW_mono N _) (CfN (h.n+1) (h.n+1+1) n lo q h.n h3 i) (n:=n) ⟨0,_,_,_,rfl,by omega,rfl,ar4,nk4,f4,rfl,rfl,rfl,rfl,rfl,rfl,rfl,rfl,rfl⟩ ?_
  rintro m s ⟨j,l,h5,ys,rfl,hj,hm,ar5,nk5,f5,e14,e15,e16,e17,e18,e61,e62,e65,e66⟩
  by_cases hlt2:(j:Int)<n
  ·have w6:=wi1 j (by omega)
   have w7:IntKind.wrap .i64 ((i:Int)-j)=(i:Int)-j:=wrap_i64 (by omega)
   have w8:IntKind.wrap .i64 ((j:Int)-i)=(j:Int)-i:=wrap_i64 (by omega)
   by_cases hij:(i:Int)=j
   ·simp only [KK,↓reduceIte,reduceLT,reduceEqDiff,e14,e15,e16,e17,e18,e61,e62,e65,e66,hlt2,hij,w6,rd_n]
    exact ⟨m-1,by omega,j+1,_,_,_,rfl,by omega,by omega,ar5,nk5,f5,rfl,rfl,rfl,rfl,by rw [hij];rfl,rfl,by rw [hij];rfl,rfl,rfl⟩
   by_cases c1:(i:Int)-j≤3
   ·by_cases c2:(j:Int)-i≤3
    ·obtain ⟨x,hx⟩:∃ x,ys[i]? = some x:=⟨_,List.getElem?_eq_getElem (by rw [nk5.1];omega)⟩
     have adr:=ar5.adr (n:=n) (m:=i) (by omega) (some n)
     have row:=ar5.row hx
     simp only [u6] at row
     have hxl:x<2 ^ 64:=Nat.lt_of_lt_of_le (nk5.2 _ _ hx).1 (Nat.pow_le_pow_right (by decide) (by omega))
     have hj64:2 ^ j<2 ^ 64:=Nat.pow_lt_pow_right (by decide) (by omega)
     have o1:=or_k (k:=.u64) rfl hxl hj64
     have w9:IntKind.wrap .u64 (j:Int)=(j:Int):=wrap_u64 (by omega)
     have s1:=shl_one (b:=j) (by omega)
     obtain ⟨h6,st,ar6,f6,n6⟩:=ar5.put (fun _=>rfl) (m:=i) (by rw [nk5.1];omega) (x ||| 2 ^ j)
     simp only [u6] at st
     have nk6:=nk5.set hx (b:=j) (by omega) (by omega)
     simp only [KK,↓reduceIte,reduceLT,reduceEqDiff,e14,e15,e16,e17,e18,e61,e62,e65,e66,hlt2,hij,w6,w7,w8,c1,c2,CfgC,adr,row,w9,s1,o1,st,rd_n]
     exact ⟨m-1,by omega,j+1,_,_,_,rfl,by omega,by omega,ar6,nk6,f5.trans f6,rfl,rfl,rfl,rfl,rfl,rfl,rfl,rfl,rfl⟩
    ·simp only [KK,↓reduceIte,reduceLT,reduceEqDiff,e14,e15,e16,e17,e18,e61,e62,e65,e66,hlt2,hij,w6,w7,w8,c1,c2,rd_n]
     exact ⟨m-1,by omega,j+1,_,_,_,rfl,by omega,by omega,ar5,nk5,f5,rfl,rfl,rfl,rfl,rfl,rfl,rfl,rfl,rfl⟩
   ·simp only [KK,↓reduceIte,reduceLT,reduceEqDiff,e14,e15,e16,e17,e18,e61,e62,e65,e66,hlt2,hij,w6,w7,c1,rd_n]
    exact ⟨m-1,by omega,j+1,_,_,_,rfl,by omega,by omega,ar5,nk5,f5,rfl,rfl,rfl,rfl,rfl,rfl,rfl,rfl,rfl⟩
  ·have w6:=wi1 i (by omega)
   simp only [KK,↓reduceIte,reduceLT,reduceEqDiff,e14,e15,e16,e17,e18,e61,e62,e65,e66,hlt2,w6,rd_n]
   exact ⟨n-i-1,by omega,i+1,_,_,_,rfl,by omega,by omega,ar5,nk5,f5,rfl,rfl,rfl,rfl,rfl,rfl⟩
 ·obtain ⟨lw,hlw,g4⟩:=ar4
  have hlw0:lw=0:=by omega
  subst hlw0
  rw [List.append_nil] at g4
  have F4:Fn h h4:=(f1.trans (f2.trans f3)).fresh f4 (fun j e=>by omega)
  have r4:h4.g h.n=some (.rows true 9 0 0 [[.int .i64 0,.nils,.nils,.int .i64 0,.int .i64 0,.int .i64 0,.int .i64 0,.int .i64 0,.int .i64 0]]):=f4.some ((f2.trans f3).some g1 (fun e=>e)) (by omega)
  have g5:=f4.some g3 (by omega)
  obtain ⟨h5,hh5⟩:=nm (h4.put h.n (.rows true 9 0 0 [CfgC (h.n+1) (h.n+1+1) n lo q]))
  have r5:h5.g h.n=some (.rows true 9 0 0 [CfgC (h.n+1) (h.n+1+1) n lo q]):=by rw [hh5,g_put_eq,r4];rfl
  have F5:Fn h h5:=by rw [hh5];exact F4.putNew _ (Nat.le_refl _)
  have g45:h5.g (h.n+1)=some (.rows true 1 0 0 (xs.map u6)):=by rw [hh5,g_put_ne _ _ (by omega)];exact g4
  have g55:h5.g (h.n+1+1)=some (.rows true 1 0 0 [[.int .i64 11],[.int .i64 15],[.int .i64 20]]):=by rw [hh5,g_put_ne _ _ (by omega)];exact g5
  unfold CfgC at hh5 r5
  simp only [KK,↓reduceIte,reduceLT,reduceEqDiff,reduceAdd,e14,e15,e16,e17,e61,e62,hlt,CfgC,r4,hh5.symm,fz_r,r5]
  refine hP h5 _ _ n lo q xs (by omega) (by omega) (by omega) ?_ g45 nk4 g55 F5
  rintro m b1 b2 rfl
  rw [wrap_u64 (by omega)] at hn0
  omega
end
end
section
set_option maxHeartbeats 8000000
def cfgV (nv hv:CV) (n lo q:Nat):List CV:=[.int .i64 (n:Int),nv,hv,.int .i64 300,.int .i64 1,.int .i64 6,.int .i64 (lo:Int),.int .i64 (q:Int),.int .i64 6]
structure CfgM (h:Hp) (nv hv:CV) (n lo q:Nat) (xs:List Nat):Prop where
 hn:2≤n∧n≤8
 hlo:2 * n≤lo∧lo≤2 * n+59
 hq:1≤q∧q≤8
 ok:NearOk n xs
 near:SL h 1 nv (xs.map u6)
 hops:SL h 1 hv ([11,15,20].map encI)
 cap:CapL hv
theorem CfgM.off {S:Nat→Prop} {h h':Hp} {nv hv:CV} {n lo q:Nat} {xs:List Nat} (k:CfgM h nv hv n lo q xs) (f:Fm S h h') (h1:∀ j,ownId nv j→¬S j) (h2:∀ j,ownId hv j→¬S j):CfgM h' nv hv n lo q xs:=
 ⟨k.hn,k.hlo,k.hq,k.ok,k.near.off f h1,k.hops.off f h2,k.cap⟩
theorem CfgM.new {h h':Hp} {nv hv:CV} {n lo q:Nat} {xs:List Nat} (k:CfgM h nv hv n lo q xs) (f:Fn h h'):CfgM h' nv hv n lo q xs:=k.off f (fun _ _ e=>e) (fun _ _ e=>e)
theorem HpL.abc:HpL [11,15,20]:=⟨by decide,by decide,by decide,by decide⟩
theorem bit_and (x:Nat):(x &&& 1)=x % 2:=by
 have:=Nat.and_two_pow_sub_one_eq_mod x 1
 simpa using this
theorem bit_zero {x i:Nat} (hx:x.testBit i=false):x / 2 ^ i % 2=0:=by
 rw [Nat.testBit_eq_decide_div_mod_eq] at hx
 have:=of_decide_eq_false hx
 omega
section
variable {k:Nat} {h:Hp} {P:AV→Hp→Prop} {nv hv:CV} {n lo q:Nat} {xs:List Nat} {v:CV}
theorem in_true {a lo hi:Int} (ha:lo≤a∧a≤hi) (hP:P (.c (.bool true)) h):callW N (k+1) 267 [.c (.int .i64 a),.c (.int .i64 lo),.c (.int .i64 hi)] h P:=by
 refine nin_ok ?_
 have:decide (lo≤a∧a≤hi)=true:=by simp only [ha,decide_true,and_self]
 rw [this]
 exact hP
def MyI (h0:Hp) (nv hv:CV) (n lo q:Nat) (m:Nat) (s:St):Prop:=∃ (i:Nat) (l:List (Nat × TV)),s=ST 72 l [cfgV nv hv n lo q] h0∧i≤n∧m=n-i∧
 lk l 1 = .lp 0 0∧lk l 24 = .v (.c nv)∧lk l 25 = .v (.c (.int .i64 n))∧lk l 26 = .v (.c (.int .i64 i))
theorem may_ok (hc:CfgM h nv hv n lo q xs) (hP:P (.c (.bool true)) h):callW N (k+4) 266 [.agg (cfgV nv hv n lo q)] h P:=by
 obtain ⟨hn,hlo,hq,nk,sn,sh,cp⟩:=hc
 have hlen:∀ h':Hp,lenT h' .sl (.v (.c nv))=some (n:Int):=fun h'=>by rw [sn.len h',List.length_map,nk.1]
 refine ci rfl ?_
 simp only [KK,↓reduceIte,reduceLT,reduceAdd,cfgV]
 refine in_true (k:=k+2) (by omega) ?_
 simp only [KK,↓reduceIte,reduceLT,reduceEqDiff,hlen]
 refine hmay_ok (k:=k) sh cp HpL.abc ?_
 simp only [KK,↓reduceIte,reduceLT,reduceEqDiff,hlen]
 refine loop_rd (callW_mono N _) (MyI h nv hv n lo q) (n:=n) ⟨0,_,rfl,by omega,rfl,rfl,rfl,rfl,rfl⟩ ?_
 rintro m s ⟨i,l,rfl,hi,hm,e1,e24,e25,e26⟩
 by_cases hlt:(i:Int)<n
 ·obtain ⟨x,hx⟩:∃ x,xs[i]? = some x:=⟨_,List.getElem?_eq_getElem (by rw [nk.1];omega)⟩
  obtain ⟨pid,ptok,pj,a1,a2⟩:=sn.at (i:=(i:Int)) (r:=u6 x) (by omega) (by simp [hx])
  simp only [u6] at a2
  have hxn:=(nk.2 _ _ hx).1
  have hxl:x<2 ^ 64:=Nat.lt_of_lt_of_le hxn (Nat.pow_le_pow_right (by decide) (by omega))
  have r1:=shr_n .num .u64 .i64 x i (by show i≤64;omega)
  have hxi:x / 2 ^ i<2 ^ 64:=Nat.lt_of_le_of_lt (Nat.div_le_self _ _) hxl
  have r2:IntKind.wrap .u64 ((BitVec.ofInt (IntKind.bits .u64) ((x / 2 ^ i:Nat):Int) &&& BitVec.ofInt (IntKind.bits .u64) 1).toNat:Nat)=0:=by
   have r2:=and_k (k:=.u64) (a:=x / 2 ^ i) (b:=1) rfl hxi (by decide)
   rw [bit_and,bit_zero (nk.2 _ _ hx).2] at r2
   exact r2
  have r3:=shr_n .num .u64 .i64 x n (by show n≤64;omega)
  rw [Nat.div_eq_of_lt hxn] at r3
  have w6:=wi1 i (by omega)
  have z0:((0:Nat):Int)=0:=rfl
  simp only [KK,↓reduceIte,reduceLT,reduceEqDiff,e1,e24,e25,e26,hlt,a1,a2,r1,r2,r3,w6,z0,cfgV,rd_n]
  exact ⟨m-1,by omega,i+1,_,rfl,by omega,by omega,rfl,rfl,rfl,rfl⟩
 ·simp only [KK,↓reduceIte,reduceLT,reduceEqDiff,e1,e24,e25,e26,hlt,cfgV]
  refine in_true (k:=k+2) (by omega) ?_
  simp only [KK,↓reduceIte,reduceLT,reduceEqDiff]
  refine in_true (k:=k+2) (by omega) ?_
  simp only [KK,↓reduceIte,reduceLT,reduceEqDiff]
  refine in_true (k:=k+2) (by omega) ?_
  simp only [KK,↓reduceIte,reduceLT,reduceEqDiff]
  refine in_true (k:=k+2) (by omega) ?_
  simp only [KK,↓reduceIte,reduceLT,reduceEqDiff]
  refine in_true (k:=k+2) (by omega) ?_
  simp only [KK,↓reduceIte,reduceLT,reduceEqDiff]
  refine in_true (k:=k+2) (by omega) ?_
  simp only [KK,↓reduceIte,reduceLT,reduceEqDiff]
  exact hP
theorem cloneu_ok (hs:SL h 1 v (xs.map u6)) (h0:xs≠[]) (hn:xs.length≤1000000)
 (hP:∀ h' u,Ow h' 1 u (xs.map u6)→(∀ j,ownId u j→h.n≤j)→Fn h h'→P (.c u) h'):callW N (k+1) 268 [.c v] h P:=by
 cases v <;> simp only [SL] at hs
 case nils=>exact absurd (List.map_eq_nil_iff.mp hs) h0
 case sl id tok off len cap=>
  have hs:SL h 1 (.sl id tok off len cap) (xs.map u6):=hs
  obtain ⟨h2,hh2⟩:∃ h2,h2=h.push (.rows true 1 0 0 []):=⟨_,rfl⟩
  have hf2:=pf hh2
  have hn2:h2.n=h.n+1:=by rw [hh2,n_push]
  have hg2:h2.g h.n=some (.rows true 1 0 0 []):=by rw [hh2,g_push_eq]
  have hfold:=hh2.symm
  have hrd:sliceRows h2 [] 1 (.v (.c (.sl id tok off len cap)))=some (xs.map u6):=(hs.new hf2).read
  cases xs with
  | nil=>exact absurd rfl h0
  | cons y ys=>
   have happ:appT h2 [] 1 8 (.v (.c (.sl h.n 0 0 0 (some 0)))) (.v (.c (.sl id tok off len cap)))=some (.sl h2.n 0 0 ((y::ys).map u6).length none,h2.push (.rows true 1 0 0 ((y::ys).map u6))):=by
    simp only [appT,asC_c,Option.bind_some,hrd]
    simp only [List.map_cons,appRows,g_def,hg2]
    rw [if_pos ⟨trivial,Nat.le_refl _,by simp only [room,List.length_cons,List.length_map] at hn ⊢;omega⟩]
    rw [if_neg (by simp only [List.length_cons];omega)]
    simp only [List.drop_nil,List.take_nil,List.nil_append,Nat.zero_add]
    rfl
   refine ci rfl ?_
   simp only [KK,↓reduceIte,reduceLT,reduceCtorEq,chunks,hfold,happ]
   refine hP _ _ ⟨rfl,rfl,0,_,g_push_eq _ _,Nat.le_refl _,Nat.le_refl _,(List.take_of_length_le (Nat.le_refl _)).symm⟩ ?_ (hf2.trans (Fm.push _ _ _))
   intro j hj
   simp only [ownId] at hj
   omega
theorem clock_ok (hP:∀ h' c,ClkAt h' c ⟨0,0,0⟩→h.n≤c→Fn h h'→P (.c (.ptr c 0 0 0)) h'):callW N (k+1) 269 [] h P:=by
 refine call_intro rfl (by simp only [List.length_nil];omega) ?_
 simp only [KK,↓reduceIte,reduceLT,reduceAdd]
 exact hP _ _ (g_push_eq _ _) (Nat.le_refl _) (Fm.push _ _ _)
def WinAt (h:Hp) (c m:Nat):Prop:=h.g c=some (.rows true 1 0 0 [[.map m]])∧h.g m=some (.map true [] 0)
theorem WinAt.new {h h':Hp} {c m:Nat} (k:WinAt h c m) (f:Fn h h'):WinAt h' c m:=⟨f.some k.1 (fun e=>e),f.some k.2 (fun e=>e)⟩
theorem dup_ok (hP:∀ h' c m,WinAt h' c m→h.n≤c→h.n≤m→Fn h h'→P (.c (.ptr c 0 0 0)) h'):callW N (k+1) 271 [] h P:=by
 obtain ⟨h1,hh1⟩:=nm (h.push (.map true [] 0))
 have n1:h1.n=h.n+1:=by rw [hh1,n_push]
 obtain ⟨h2,hh2⟩:=nm (h1.push (.rows true 1 0 0 [[.map h.n]]))
 refine call_intro rfl (by simp only [List.length_nil];omega) ?_
 simp only [KK,↓reduceIte,reduceLT,hh1.symm,hh2.symm,n1]
 refine hP h2 _ h.n ⟨by rw [←n1,hh2,g_push_eq],?_⟩ (by omega) (Nat.le_refl _) (by rw [hh2,hh1];exact (Fm.push _ _ _).trans (Fm.push _ _ _))
 rw [hh2,g_push_ne _ _ (by omega),hh1,g_push_eq]
theorem queue_ok {q:Int} (hP:∀ h' c,h'.g c=some (.rows true 3 0 0 [[.int .i64 (max 1 (min q 32)),.nils,.int .i64 0]])→h.n≤c→Fn h h'→P (.c (.ptr c 0 0 0)) h'):callW N (k+1) 270 [.c (.int .i64 q)] h P:=by
 refine ci rfl ?_
 simp only [KK,↓reduceIte,reduceLT,reduceAdd,reduceLeDiff,reduceCtorEq]
 exact hP _ _ (g_push_eq _ _) (Nat.le_refl _) (Fm.push _ _ _)
end
end
section
set_option maxHeartbeats 8000000
def node0 (n lo q:Nat) (u w:CV) (id:Int) (ck qp up dn gt pm:Nat):NodeX:=
 { n:=n,nr:=u,hp:=w,gu:=300,er:=1,ke:=6,lo:=lo,qu:=q,li:=6,id:=id,ck:=ck,qp:=qp,up:=up,dn:=dn,gt:=gt,seq:=0,last:=-1,tr:=0,sy:=decide (id=0),pp:=.nilp,kp:=.nilp,ls:=0,pm:=pm,sa:=0,sk:=0,ss:=0,sd:=0,sq:=0,si:=.nils,sx:=.nils,so:=false,ev:=.nils }
structure New0 (base:Nat) (h:Hp) (n lo q:Nat) (xs:List Nat) (u w:CV) (ck qp up dn gt pm m1 m2 m3:Nat):Prop where
 cfg:CfgM h u w n lo q xs
 ou:∀ j,ownId u j→base≤j
 ow:∀ j,ownId w j→base≤j
 gck:ClkAt h ck ⟨0,0,0⟩
 gqp:h.g qp=some (.rows true 3 0 0 [[.int .i64 (q:Int),.nils,.int .i64 0]])
 gup:WinAt h up m1
 gdn:WinAt h dn m2
 ggt:WinAt h gt m3
 gpm:h.g pm=some (.map true [] 0)
 b:base≤ck∧base≤qp∧base≤up∧base≤dn∧base≤gt∧base≤pm∧base≤m1∧base≤m2∧base≤m3
 d1:up≠dn∧up≠gt∧dn≠gt
 d2:m1≠m2∧m1≠m3∧m2≠m3∧pm≠m1∧pm≠m2∧pm≠m3
section
variable {k:Nat} {h:Hp} {P:AV→Hp→Prop} {nv hv:CV} {n lo q:Nat} {xs:List Nat} {v:CV}
theorem new_ok {id:Int} (hc:CfgM h nv hv n lo q xs) (hid:0≤id∧id≤(n:Int)-1)
 (hP:∀ h' p u w ck qp up dn gt pm m1 m2 m3,NdR h' p (node0 n lo q u w id ck qp up dn gt pm)→New0 h.n h' n lo q xs u w ck qp up dn gt pm m1 m2 m3→h.n≤p→Fn h h'→P (.c (.ptr p 0 0 0)) h') :
 callW N (k+5) 260 [.agg (cfgV nv hv n lo q),.c (.int .i64 id)] h P:=by
 have w1:IntKind.wrap .i64 ((n:Int)-1)=(n:Int)-1:=wrap_i64 (by have:=hc.hn;omega)
 refine ci rfl ?_
 simp only [KK,↓reduceIte,reduceLT,reduceEqDiff,reduceAdd,reduceCtorEq,cfgV]
 refine may_ok (k:=k) hc ?_
 simp only [KK,↓reduceIte,reduceLT,reduceEqDiff,w1]
 refine in_true (k:=k+3) hid ?_
 simp only [KK,↓reduceIte,reduceLT,reduceEqDiff]
 refine cloneu_ok (k:=k+3) hc.near (fun e=>by have h1:=hc.ok.1;have h2:=hc.hn;rw [e] at h1;simp only [List.length_nil] at h1;omega) (by have:=hc.ok.1;have:=hc.hn;omega) fun h1 u ku iu f1=>?_
 simp only [KK,↓reduceIte,reduceLT,reduceEqDiff]
 refine clonei_ok (k:=k+3) (hc.hops.new f1) (by decide) (by decide) fun h2 w kw iw f2=>?_
 obtain ⟨h3,hh3⟩:=nm (h2.reserve 2)
 have f3:Fn h2 h3:=by rw [hh3];exact Fm.reserve _ _ _
 have d0:h3.g h2.n=some .dead:=by rw [hh3,g_reserve,if_pos (by omega)]
 have d1:h3.g (h2.n+1)=some .dead:=by rw [hh3,g_reserve,if_pos (by omega)]
 have n3:h3.n=h2.n+2:=by rw [hh3];exact n_reserve _ _
 simp only [KK,↓reduceIte,reduceLT,reduceEqDiff,reduceAdd,reduceLeDiff,hh3.symm]
 refine clock_ok (k:=k+3) fun h4 ck c4 b4 f4=>?_
 simp only [KK,↓reduceIte,reduceLT,reduceEqDiff,reduceAdd]
 refine queue_ok (k:=k+3) fun h5 qp q5 b5 f5=>?_
 have mq:max 1 (min (q:Int) 32)=(q:Int):=by have:=hc.hq;omega
 rw [mq] at q5
 simp only [KK,↓reduceIte,reduceLT,reduceEqDiff,reduceAdd]
 refine dup_ok (k:=k+3) fun h6 up m1 d6 b6 b6' f6=>?_
 simp only [KK,↓reduceIte,reduceLT,reduceEqDiff,reduceAdd]
 refine dup_ok (k:=k+3) fun h7 dn m2 d7 b7 b7' f7=>?_
 simp only [KK,↓reduceIte,reduceLT,reduceEqDiff,reduceAdd]
 refine dup_ok (k:=k+3) fun h8 gt m3 d8 b8 b8' f8=>?_
 have f38:=f4.trans (f5.trans (f6.trans (f7.trans f8)))
 have d08:=f38.some d0 (fun e=>e)
 have d18:=f38.some d1 (fun e=>e)
 obtain ⟨h9,hh9⟩:=nm (h8.put h2.n (.map true [] 0))
 have d9:h9.g (h2.n+1)=some .dead:=by rw [hh9,g_put_ne _ _ (by omega)];exact d18
 obtain ⟨h10,hh10⟩:=nm (h9.put (h2.n+1) (.rows true 32 0 0 [NodeX.row (node0 n lo q u w id ck qp up dn gt h2.n)]))
 have fd10:=hh10.symm
 unfold NodeX.row node0 at fd10
 simp only [KK,↓reduceIte,reduceLT,reduceEqDiff,reduceAdd,reduceLeDiff,d08,hh9.symm,d9,fd10]
 have l4:=lt_of_g c4
 have l5:=lt_of_g q5
 have l6:=lt_of_g d6.1
 have l6':=lt_of_g d6.2
 have l7:=lt_of_g d7.1
 have l7':=lt_of_g d7.2
 have l8:=lt_of_g d8.1
 have l8':=lt_of_g d8.2
 have n1:=f1.n
 have n2:=f2.n
 have n4:=f4.n
 have n5:=f5.n
 have n6:=f6.n
 have n7:=f7.n
 have n8:=f8.n
 have f10:Fm (fun j=>j=h2.n∨j=h2.n+1) h8 h10:=by
  rw [hh10,hh9]
  exact (Fm.put (S:=fun j=>j=h2.n∨j=h2.n+1) _ _ (.inl rfl)).trans (Fm.put (S:=fun j=>j=h2.n∨j=h2.n+1) _ _ (.inr rfl))
 have F8:Fn h h8:=f1.trans (f2.trans (f3.trans f38))
 have lu:∀ j,ownId u j→j<h2.n:=fun j hj=>by have:=ku.lt hj;omega
 have lw:∀ j,ownId w j→j<h2.n:=fun j hj=>kw.lt hj
 refine hP h10 _ u w ck qp up dn gt h2.n m1 m2 m3 (by unfold NdR;rw [hh10,g_put_eq,d9];rfl) ⟨⟨hc.hn,hc.hlo,hc.hq,hc.ok,?_,?_,?_⟩,?_,?_,?_,?_,?_,?_,?_,?_,?_,?_,?_⟩ (by omega) (F8.fresh f10 (fun j e=>by omega))
 ·exact (ku.sl.new (f2.trans (f3.trans f38))).off f10 (fun j hj e=>by have:=lu j hj;omega)
 ·exact (kw.sl.new (f3.trans f38)).off f10 (fun j hj e=>by have:=lw j hj;omega)
 ·intro id tok off len c e
  have:=kw.cap _ _ _ _ _ e
  cases this
 ·exact iu
 ·intro j hj;have:=iw j hj;omega
 ·exact f10.some ((f5.trans (f6.trans (f7.trans f8))).some c4 (fun e=>e)) (by omega)
 ·exact f10.some ((f6.trans (f7.trans f8)).some q5 (fun e=>e)) (by omega)
 ·exact ⟨f10.some ((f7.trans f8).some d6.1 (fun e=>e)) (by omega),f10.some ((f7.trans f8).some d6.2 (fun e=>e)) (by omega)⟩
 ·exact ⟨f10.some (f8.some d7.1 (fun e=>e)) (by omega),f10.some (f8.some d7.2 (fun e=>e)) (by omega)⟩
 ·exact ⟨f10.some d8.1 (by omega),f10.some d8.2 (by omega)⟩
 ·rw [hh10,g_put_ne _ _ (by omega),hh9,g_put_eq,d08];rfl
 ·omega
 ·refine ⟨by omega,by omega,by omega⟩
 ·refine ⟨by omega,by omega,by omega,by omega,by omega,by omega⟩
end
end
end Camp
