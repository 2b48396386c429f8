/- A node in time sends. A node: slots, its config, a node that begins, that comes in time, that begins anew. A node begins anew; a node in time, by node 1. A node that joined. The law of the numbers. Rows of calls as arguments. -/
import Derived.Test.YtjcbeikfobfjmaaGreatLawF
import Derived.Test.YtjcbeikfobfjmaaGreatEngF
set_option linter.unnecessarySimpa false
set_option linter.unusedVariables false
set_option linter.unusedSimpArgs false
set_option linter.unusedSectionVars false
namespace Camp
open Go
open Nat (reduceLT reduceEqDiff reduceAdd reduceLeDiff reduceSub reduceMul)
section
set_option maxHeartbeats 8000000
def nextN (x:NodeX) (now:Int):Int:=max (x.last+1) (now * 64)
structure SendC (x:NodeX) (L:List Pr) (Q:List (Int × List Nat)) (now to:Int) (D:List Nat):Prop where
 hto:0≤to∧to≤x.n-1
 me:to≠x.id
 len:1≤D.length∧D.length≤24
 first:firstL L≠64
 num:nextN x now≤70368744177663
 room:(Q.length:Int)<x.qu
def sendP (x:NodeX) (now to:Int) (D:List Nat):Pk:=⟨x.id.toNat,to.toNat,(nextN x now).toNat,x.li.toNat,[x.id.toNat],D⟩
section
variable {k:Nat} {h:Hp} {P:AV→Hp→Prop} {B C:Nat→Prop} {p:Nat} {x:NodeX} {y:ClkX} {Q:List (Int × List Nat)} {E:List (List CV)}
theorem NodeAt.queS {h':Hp} {Q':List (Int × List Nat)} (k:NodeAt B C h p x y Q E) (f:Fm C h h') (hq:QM (fun j=>C j∨h.n≤j) h' x.qp x.qu Q'):NodeAt B (Bx C h h') h' p x y Q' E:=by
 have hpl:=k.node.lt
 have hcl:=lt_of_g k.clk
 have hn:=f.n
 have hq':QM (Bx C h h') h' x.qp x.qu Q':=by
  obtain ⟨lost,v,vs,g1,g2,g3,g4,g5,g6,g7,g8⟩:=hq
  have lt:∀ {sz:Nat} {v:CV} {rows:List (List CV)},SL h' sz v rows→∀ j,ownId v j→j<h'.n:=by
   intro sz v rows k j hj
   cases v <;> simp only [ownId] at hj
   subst hj
   exact k.lt _ _ _ _ _ rfl
  exact ⟨lost,v,vs,g1,g2,g3,g4,g5,g6.imp id (fun e=>⟨e,lt_of_g g1⟩),fun j hj=>(g7 j hj).imp id (fun e=>⟨e,g4.lt hj⟩),fun x hx j hj=>(g8 x hx j hj).imp id (fun e=>⟨e,lt (g5 x hx) j hj⟩)⟩
 refine ⟨k.node.keep f k.pc,f.some k.clk k.cc,k.ok,hq',k.ev.mono f (fun j hj=>(k.eb j hj).2),fun j hj=>Nat.lt_of_lt_of_le (k.bl j hj) f.n,?_,?_,k.pb,?_,k.cb,?_,?_⟩
 ·rintro j (hj|hj)
  ·have:=k.cl j hj;omega
  ·exact hj.2
 ·rintro j hj (e|e)
  ·exact k.bc j hj e
  ·have:=k.bl j hj;omega
 ·rintro (e|e)
  ·exact k.pc e
  ·omega
 ·rintro (e|e)
  ·exact k.cc e
  ·omega
 ·intro j hj
  refine ⟨(k.eb j hj).1,?_⟩
  rintro (e|e)
  ·exact (k.eb j hj).2 e
  ·have:=ow_lt k.ev j hj;omega
theorem nsend_ok {rank ke since now to:Int} {L:List Pr} {d:CV} {D:List Nat} (ha:0≤now∧now<1099511627776) (hx:NodeAt B C h p x y Q []) (hp:ParAt B h x rank L ke since) (hsy:x.sy=true)
 (hn:0≤x.n∧x.n≤16) (hid:0<x.id∧x.id≤15) (hli:0≤x.li∧x.li≤15) (hla : -1≤x.last∧x.last≤70368744177663) (hqu:x.qu≤1000) (hQ:Q.length≤1000)
 (hd:SL h 1 d (D.map eB)) (hD:∀ c∈D,c<256) (hl:D.length≤1000000)
 (hE:∀ h' (e:Int),e≠0→¬SendC x L Q now to D→(∃ C',NodeAt B C' h' p x y Q []∧∀ j,C' j→C j∨h.n≤j)→ParAt B h' x rank L ke since→Fm C h h'→P (.tup [.c (.int .i64 0),.c (.int .i64 e)]) h')
 (hO:∀ h',SendC x L Q now to D→(∃ C',NodeAt B C' h' p {x with last:=nextN x now} y (Q++[(64,rB (sendP x now to D))]) []∧∀ j,C' j→C j∨h.n≤j)→ParAt B h' {x with last:=nextN x now} rank L ke since→Fm (fun j=>j=p∨C j) h h'→
  P (.tup [.c (.int .i64 (nextN x now)),.c (.int .i64 0)]) h') :
 callW N (k+6) 261 [.c (.ptr p 0 0 0),.c (.int .i64 now),.c (.int .i64 to),.c d] h P:=by
 have e1:decide (0≤now∧now<1099511627776)=true:=by simp;omega
 have hlen:∀ h':Hp,lenT h' .sl (.v (.c d))=some (D.length:Int):=fun h'=>by rw [hd.len h',List.length_map]
 have hx':=hx.node
 unfold NdR NodeX.row at hx'
 rw [hsy] at hx'
 have hpl:=hx.node.lt
 have stay:∀ (e:Int),e≠0→¬SendC x L Q now to D→∀ h',Fn h h'→P (.tup [.c (.int .i64 0),.c (.int .i64 e)]) h':=fun e he hn h' f=>
  hE h' e he hn ⟨C,hx.new f,fun j hj=>.inl hj⟩ (hp.keep f (fun _ _ e=>e) rfl rfl rfl) (f.mono fun _ _ e=>e.elim)
 refine call_intro rfl (by simp only [List.length_cons,List.length_nil];omega) ?_
 simp (maxSteps:=200000) -implicitDefEqProofs only [KK,eq_self,ne_eq,↓reduceIte,reduceLT,reduceEqDiff,reduceAdd,reduceLeDiff,reduceSub,reduceMul,reduceCtorEq]
 refine nasn_ok (k:=k+4) ?_
 simp (maxSteps:=200000) -implicitDefEqProofs only [KK,eq_self,ne_eq,↓reduceIte,reduceLT,reduceEqDiff,reduceAdd,reduceLeDiff,reduceSub,reduceMul,reduceCtorEq,e1]
 refine nhas_ok (k:=k+3) hx.node (by omega) ?_
 by_cases h1:0≤to∧to≤x.n-1
 case neg=>
  have e2:decide (0≤to∧to≤x.n-1)=false:=by simp only [h1,decide_false]
  simp (maxSteps:=200000) -implicitDefEqProofs only [KK,eq_self,ne_eq,↓reduceIte,reduceLT,reduceEqDiff,reduceAdd,reduceLeDiff,reduceSub,reduceMul,reduceCtorEq,e2]
  exact stay 1 (by decide) (fun c=>h1 c.hto) h (Fm.refl _ _)
 have e2:decide (0≤to∧to≤x.n-1)=true:=by simp only [h1,decide_true,and_self]
 by_cases h2:to=x.id
 ·have e3:decide (to=x.id)=true:=by simp [h2]
  simp (maxSteps:=200000) -implicitDefEqProofs only [KK,eq_self,ne_eq,↓reduceIte,reduceLT,reduceEqDiff,reduceAdd,reduceLeDiff,reduceSub,reduceMul,reduceCtorEq,e2,hx',e3]
  exact stay 1 (by decide) (fun c=>c.me h2) h (Fm.refl _ _)
 simp (maxSteps:=200000) -implicitDefEqProofs only [KK,eq_self,ne_eq,↓reduceIte,reduceLT,reduceEqDiff,reduceAdd,reduceLeDiff,reduceSub,reduceMul,reduceCtorEq,e2,hx',h2,hlen]
 refine nin_ok (k:=k+4) ?_
 by_cases h3:1≤D.length∧D.length≤24
 case neg=>
  have e4:decide ((1:Int)≤(D.length:Int)∧(D.length:Int)≤24)=false:=by simp;omega
  simp (maxSteps:=200000) -implicitDefEqProofs only [KK,eq_self,ne_eq,↓reduceIte,reduceLT,reduceEqDiff,reduceAdd,reduceLeDiff,reduceSub,reduceMul,reduceCtorEq,e4]
  exact stay 1 (by decide) (fun c=>h3 c.len) h (Fm.refl _ _)
 have e4:decide ((1:Int)≤(D.length:Int)∧(D.length:Int)≤24)=true:=by simp;omega
 have hid0:¬x.id=0:=by omega
 simp (maxSteps:=200000) -implicitDefEqProofs only [KK,eq_self,ne_eq,↓reduceIte,reduceLT,reduceEqDiff,reduceAdd,reduceLeDiff,reduceSub,reduceMul,reduceCtorEq,e4,hx',hid0]
 refine pfirst_ok (k:=k+3) hx hp ?_
 by_cases h4:firstL L=64
 ·have e5:decide (firstL L=64)=true:=by simp [h4]
  simp (maxSteps:=200000) -implicitDefEqProofs only [KK,eq_self,ne_eq,↓reduceIte,reduceLT,reduceEqDiff,reduceAdd,reduceLeDiff,reduceSub,reduceMul,reduceCtorEq,e5]
  exact stay 7 (by decide) (fun c=>c.first h4) h (Fm.refl _ _)
 obtain ⟨g1,hh1⟩:∃ g,g=h.reserve 2:=⟨_,rfl⟩
 have f1:Fn h g1:=by rw [hh1];exact Fm.reserve _ _ _
 have d0:g1.g h.n=some .dead:=by rw [hh1,g_reserve,if_pos (by omega)]
 have d1:g1.g (h.n+1)=some .dead:=by rw [hh1,g_reserve,if_pos (by omega)]
 have x1':=f1.some hx' (fun e=>e)
 obtain ⟨g2,hh2⟩:∃ g,g=g1.put h.n (.rows true 1 0 0 [[.int .i64 x.id]]):=⟨_,rfl⟩
 have d2:g2.g (h.n+1)=some .dead:=by rw [hh2,g_put_ne _ _ (by omega)];exact d1
 obtain ⟨g3,hh3⟩:∃ g,g=g2.put (h.n+1) (.rows true 6 0 0 [[.int .i64 0,.int .i64 0,.int .i64 0,.int .i64 0,.nils,.nils]]):=⟨_,rfl⟩
 have u3:g3.g (h.n+1)=some (.rows true 6 0 0 [[.int .i64 0,.int .i64 0,.int .i64 0,.int .i64 0,.nils,.nils]]):=by rw [hh3,g_put_eq,d2];rfl
 have w1:IntKind.wrap .i64 (x.last+1)=x.last+1:=wrap_i64 (by omega)
 have w2:IntKind.wrap .i64 (now * 64)=now * 64:=wrap_i64 (by omega)
 have m1:max (x.last+1) (now * 64)=nextN x now:=rfl
 obtain ⟨g4,hh4⟩:∃ g,g=g3.put (h.n+1) (.rows true 6 0 0 [[.int .i64 x.id,.int .i64 to,.int .i64 (nextN x now),.int .i64 x.li,.sl h.n 0 0 1 (some 1),d]]):=⟨_,rfl⟩
 have u4:g4.g (h.n+1)=some (.rows true 6 0 0 [[.int .i64 x.id,.int .i64 to,.int .i64 (nextN x now),.int .i64 x.li,.sl h.n 0 0 1 (some 1),d]]):=by rw [hh4,g_put_eq,u3];rfl
 have v4:g4.g h.n=some (.rows true 1 0 0 [[.int .i64 x.id]]):=by rw [hh4,g_put_ne _ _ (by omega),hh3,g_put_ne _ _ (by omega),hh2,g_put_eq,d0];rfl
 have f14:Fm (fun j=>h.n≤j) g1 g4:=by
  rw [hh4,hh3,hh2]
  exact ((Fm.put (S:=fun j=>h.n≤j) _ _ (Nat.le_refl _)).trans (Fm.put (S:=fun j=>h.n≤j) _ _ (by show h.n≤h.n+1;omega))).trans (Fm.put (S:=fun j=>h.n≤j) _ _ (by show h.n≤h.n+1;omega))
 have F4:Fn h g4:=(Fm.refl _ _).fresh ((f1.mono (fun _ _ e=>e.elim)).trans f14) (fun j e=>e)
 have x4':=F4.some hx' (fun e=>e)
 have i1:((x.id.toNat:Nat):Int)=x.id:=Int.toNat_of_nonneg (by omega)
 have i2:((to.toNat:Nat):Int)=to:=Int.toNat_of_nonneg h1.1
 have hnn:0≤nextN x now:=by unfold nextN;omega
 have i3:(((nextN x now).toNat:Nat):Int)=nextN x now:=Int.toNat_of_nonneg hnn
 have i4:((x.li.toNat:Nat):Int)=x.li:=Int.toNat_of_nonneg hli.1
 have hrow:(sendP x now to D).row (.sl h.n 0 0 1 (some 1)) d=[.int .i64 x.id,.int .i64 to,.int .i64 (nextN x now),.int .i64 x.li,.sl h.n 0 0 1 (some 1),d]:=by
  unfold Pk.row sendP
  simp only [i1,i2,i3,i4]
 have hm:PkM g4 (sendP x now to D) (.sl h.n 0 0 1 (some 1)) d:=⟨⟨true,0,0,_,v4,Nat.le_refl _,Nat.le_refl 1,by simp [sendP,eN,i1]⟩,by rintro id tok off len c ⟨⟩;omega,hd.new F4,hD⟩
 simp (maxSteps:=200000) -implicitDefEqProofs only [KK,eq_self,ne_eq,↓reduceIte,reduceLT,reduceEqDiff,reduceAdd,reduceLeDiff,reduceSub,reduceMul,reduceCtorEq,h4,hh1.symm,x1',d0,w1,w2,m1,hh2.symm,d2,hh3.symm,u3,hh4.symm,x4',u4,hid0]
 rw [←hrow]
 have pok:nextN x now≤70368744177663→(sendP x now to D).ok:=fun hN=>by
  refine ⟨by show x.id.toNat<16;omega,by show to.toNat<16;omega,by show x.id.toNat≠to.toNat;omega,by show (nextN x now).toNat≤_;omega,by show x.li.toNat≤15;omega,⟨?_,?_,?_⟩,h3.1,h3.2⟩
  ·intro z hz
   have:z=x.id.toNat:=by simpa [sendP] using hz
   omega
  ·simp [sendP]
  ·simp [sendP]
 refine rencP_ok (k:=k) hm ⟨by simp [sendP],hl⟩ (fun h5 ub hok k5 p5 f5=>?_) (fun hnok=>?_)
 case refine_2=>
  have hN:¬nextN x now≤70368744177663:=fun e=>hnok (pok e)
  have cN:(70368744177663:Int)<nextN x now:=by omega
  simp (maxSteps:=200000) -implicitDefEqProofs only [KK,eq_self,ne_eq,↓reduceIte,reduceLT,reduceEqDiff,reduceAdd,reduceLeDiff,reduceSub,reduceMul,reduceCtorEq,u4,cN]
  exact stay 5 (by decide) (fun c=>hN c.num) g4 F4
 have u5:=f5.some u4 (fun e=>e)
 have x5':=f5.some x4' (fun e=>e)
 have F5:=F4.trans f5
 have hN:nextN x now≤70368744177663:=by have:=hok.2.2.2.1;simp only [sendP] at this;omega
 have cN:¬(70368744177663:Int)<nextN x now:=by omega
 have z0:¬((0:Int)≠0):=by decide
 simp (maxSteps:=200000) -implicitDefEqProofs only [KK,eq_self,ne_eq,↓reduceIte,reduceLT,reduceEqDiff,reduceAdd,reduceLeDiff,reduceSub,reduceMul,reduceCtorEq,u5,cN,x5']
 have hx5:=hx.new F5
 have hp5:=hp.keep (x':=x) F5 (fun _ _ e=>e) rfl rfl rfl
 have hBl:(rB (sendP x now to D)).length≤1000:=by rw [rB_len];simp only [sendP,List.length_singleton];omega
 refine qput_ok (k:=k+3) (to:=64) hx5.que k5 (by simp [rB]) hBl hQ fun h6 q6 f6=>?_
 have hx6:=hx5.queS f6 q6
 have hp6:=hp5.keep (x':=x) f6 (fun j hj e=>hx.bc j hj e) rfl rfl rfl
 have n5:=F5.n
 have n6:=f6.n
 have cx:∀ j,Bx C h5 h6 j→C j∨h.n≤j:=fun j hj=>hj.imp id (fun e=>by omega)
 have F6:Fm C h h6:=(F5.mono (fun _ _ e=>e.elim)).trans f6
 by_cases hroom:(Q.length:Int)<x.qu
 case neg=>
  have e6:decide ((Q.length:Int)<x.qu)=false:=by simp only [hroom,decide_false]
  rw [if_neg hroom] at hx6
  simp (maxSteps:=200000) -implicitDefEqProofs only [KK,eq_self,ne_eq,↓reduceIte,reduceLT,reduceEqDiff,reduceAdd,reduceLeDiff,reduceSub,reduceMul,reduceCtorEq,e6]
  exact hE h6 5 (by decide) (fun c=>hroom c.room) ⟨_,hx6,cx⟩ hp6 F6
 have e6:decide ((Q.length:Int)<x.qu)=true:=by simp only [hroom,decide_true]
 rw [if_pos hroom] at hx6
 have hc1:¬C (h.n+1):=fun e=>by have:=hx.cl _ e;omega
 have u6:=f6.some u5 hc1
 have x6':=f6.some x5' hx.pc
 obtain ⟨h7,hh7⟩:∃ g,g=h6.put p (.rows true 32 0 0 [NodeX.row {x with sy:=true,last:=nextN x now}]):=⟨_,rfl⟩
 have f7:Fm (fun j=>j=p) h6 h7:=by rw [hh7];exact Fm.put (S:=fun j=>j=p) _ _ rfl
 have fd7:=hh7.symm
 unfold NodeX.row at fd7
 have u7:=f7.some u6 (show ¬h.n+1=p by omega)
 simp (maxSteps:=200000) -implicitDefEqProofs only [KK,eq_self,ne_eq,↓reduceIte,reduceLT,reduceEqDiff,reduceAdd,reduceLeDiff,reduceSub,reduceMul,reduceCtorEq,e6,u6,x6',fd7,u7]
 have hx7:NodeAt B (Bx C h5 h6) h7 p {x with last:=nextN x now} y (Q++[(64,rB (sendP x now to D))]) []:=by
  refine ⟨?_,f7.some hx6.clk (fun e=>hx6.ne e.symm),hx6.ok,hx6.que.keep f7 (fun j hj _ e=>hx6.pc (by rw [←e];exact hj)),hx6.ev.mono f7 (fun j hj e=>hx6.pe (by rw [←e];exact hj)),fun j hj=>Nat.lt_of_lt_of_le (hx6.bl j hj) f7.n,fun j hj=>Nat.lt_of_lt_of_le (hx6.cl j hj) f7.n,hx6.bc,hx6.pb,hx6.pc,hx6.cb,hx6.cc,hx6.eb⟩
  unfold NdR
  rw [hh7,g_put_eq,x6',←hsy]
  rfl
 refine hO h7 ⟨h1,h2,h3,h4,hN,hroom⟩ ⟨_,hx7,cx⟩ (hp6.keep f7 (fun j hj e=>hx.pb (by rw [←e];exact hj)) rfl rfl rfl) ?_
 exact (F6.mono fun j _ e=>.inr e).trans (f7.mono fun j _ e=>.inl e)
end
end
section
set_option maxHeartbeats 8000000
structure NodeOk (base:Nat) (B C:Nat→Prop) (h:Hp) (p:Nat) (x:NodeX) (y:ClkX) (Q:List (Int × List Nat)) (E:List (List CV)) (n lo q:Nat) (xs:List Nat):Prop where
 at_:NodeAt B C h p x y Q E
 cfg:CfgM h x.nr x.hp n lo q xs
 cd:∀ j,ownId x.nr j∨ownId x.hp j→¬B j∧¬C j
 eq:x.n=n∧x.gu=300∧x.er=1∧x.ke=6∧x.lo=lo∧x.qu=q∧x.li=6
 bp:base≤p
 bk:base≤x.ck
 bb:∀ j,B j→base≤j
 bc:∀ j,C j→base≤j
def cfgEq (x x':NodeX):Prop:=x'.nr=x.nr∧x'.hp=x.hp∧x'.n=x.n∧x'.gu=x.gu∧x'.er=x.er∧x'.ke=x.ke∧x'.lo=x.lo∧x'.qu=x.qu∧x'.li=x.li∧x'.ck=x.ck
theorem SL.qne {h:Hp} {sz q:Nat} {v:CV} {rows:List (List CV)} {o:AO} (w:SL h sz v rows) (g:h.g q=some o) (hn:∀ wr cur lw rs,o≠.rows wr sz cur lw rs):¬ownId v q:=by
 intro hj
 cases v <;> simp only [ownId] at hj
 subst hj
 obtain ⟨_,_,lw2,rs2,e2,_⟩:=w
 rw [g] at e2
 injection e2 with e2
 exact hn _ _ _ _ e2
theorem sl_lt {h:Hp} {sz:Nat} {v:CV} {rows:List (List CV)} (k:SL h sz v rows):∀ j,ownId v j→j<h.n:=by
 intro j hj
 cases v <;> simp only [ownId] at hj
 subst hj
 exact k.lt _ _ _ _ _ rfl
theorem NodeOk.step {base:Nat} {B C B' C' T:Nat→Prop} {h h':Hp} {p:Nat} {x x':NodeX} {y y':ClkX} {Q Q':List (Int × List Nat)} {E E':List (List CV)} {n lo q:Nat} {xs:List Nat} (k:NodeOk base B C h p x y Q E n lo q xs)
 (a:NodeAt B' C' h' p x' y' Q' E') (f:Fm T h h') (hT:∀ j,T j→j=p∨j=x.ck∨B j∨C j∨ownId x.ev j) (b':∀ j,B' j→B j∨h.n≤j) (c':∀ j,C' j→C j∨h.n≤j) (e:cfgEq x x') (hb:base≤h.n):NodeOk base B' C' h' p x' y' Q' E' n lo q xs:=by
 obtain ⟨e1,e2,e3,e4,e5,e6,e7,e8,e9,e10⟩:=e
 have nT:∀ j,ownId x.nr j∨ownId x.hp j→¬T j:=by
  intro j hj ht
  rcases hT j ht with e|e|e|e|e
  ·subst e
   rcases hj with hj|hj
   ·exact k.cfg.near.qne k.at_.node (by intro _ _ _ _ e;simp at e) hj
   ·exact k.cfg.hops.qne k.at_.node (by intro _ _ _ _ e;simp at e) hj
  ·subst e
   rcases hj with hj|hj
   ·exact k.cfg.near.qne k.at_.clk (by intro _ _ _ _ e;simp at e) hj
   ·exact k.cfg.hops.qne k.at_.clk (by intro _ _ _ _ e;simp at e) hj
  ·exact (k.cd j hj).1 e
  ·exact (k.cd j hj).2 e
  ·rcases hj with hj|hj
   ·exact sl_ne k.cfg.near k.at_.ev (by decide) j hj e
   ·exact sl_ne k.cfg.hops k.at_.ev (by decide) j hj e
 have lt:∀ j,ownId x.nr j∨ownId x.hp j→j<h.n:=fun j hj=>hj.elim (sl_lt k.cfg.near j) (sl_lt k.cfg.hops j)
 refine ⟨a,by rw [e1,e2];exact k.cfg.off f (fun j hj=>nT j (.inl hj)) (fun j hj=>nT j (.inr hj)),?_,by rw [e3,e4,e5,e6,e7,e8,e9];exact k.eq,k.bp,by rw [e10];exact k.bk,?_,?_⟩
 ·rw [e1,e2]
  intro j hj
  refine ⟨fun hb'=>(b' j hb').elim (k.cd j hj).1 (fun e=>by have:=lt j hj;omega),fun hc'=>(c' j hc').elim (k.cd j hj).2 (fun e=>by have:=lt j hj;omega)⟩
 ·intro j hj
  exact (b' j hj).elim (k.bb j) (fun e=>by omega)
 ·intro j hj
  exact (c' j hj).elim (k.bc j) (fun e=>by omega)
theorem NodeOk.fm {base:Nat} {B C T:Nat→Prop} {h h':Hp} {p:Nat} {x:NodeX} {y:ClkX} {Q:List (Int × List Nat)} {n lo q:Nat} {xs:List Nat} (k:NodeOk base B C h p x y Q [] n lo q xs) (hev:x.ev = .nils)
 (f:Fm T h h') (hT:∀ j,T j→j=p∨j=x.ck∨B j∨C j):Fm (fun j=>base≤j) h h':=f.mono fun j _ e=>by
 rcases hT j e with e|e|e|e
 ·rw [e];exact k.bp
 ·rw [e];exact k.bk
 ·exact k.bb j e
 ·exact k.bc j e
section
variable {k:Nat} {h:Hp} {P:AV→Hp→Prop} {B C:Nat→Prop} {p:Nat} {x:NodeX} {y:ClkX} {Q:List (Int × List Nat)} {E:List (List CV)}
theorem slotA_ok {a ppm:Int} (ha:0≤a∧a<1099511627776) (hx:NodeAt B C h p x y Q E) (hid:x.id≠0) (hl:0≤x.ls∧x.ls≤1000000000)
 (hP:∀ h',NodeAt B C h' p (if x.sy then x else {x with ls:=x.ls+1}) (y.slot ppm) Q E→Fm (fun j=>j=p∨j=x.ck) h h'→P (.tup []) h') :
 callW N (k+3) 341 [.c (.ptr p 0 0 0),.c (.int .i64 a),.c (.int .i64 ppm)] h P:=by
 refine nslot_ok ha hx.node hid hl hx.clk hx.ok fun h1 x1 c1 f1=>hP h1 ?_ f1
 have hE:∀ j,ownId x.ev j→¬(j=p∨j=x.ck):=fun j hj e=>e.elim (fun e=>hx.pe (by rw [←e];exact hj)) (fun e=>hx.ce (by rw [←e];exact hj))
 have hq:=hx.que.keep f1 (fun j hj _ e=>e.elim (fun e=>hx.pc (by rw [←e];exact hj)) (fun e=>hx.cc (by rw [←e];exact hj)))
 have he:=hx.ev.mono f1 hE
 cases hsy:x.sy with
 | true=>
  rw [hsy,if_pos rfl] at x1
  rw [if_pos rfl]
  exact ⟨x1,c1,hx.ok.slot ppm,hq,he,fun j hj=>Nat.lt_of_lt_of_le (hx.bl j hj) f1.n,fun j hj=>Nat.lt_of_lt_of_le (hx.cl j hj) f1.n,hx.bc,hx.pb,hx.pc,hx.cb,hx.cc,hx.eb⟩
 | false=>
  rw [hsy,if_neg (by decide)] at x1
  rw [if_neg (by decide)]
  exact ⟨x1,c1,hx.ok.slot ppm,hq,he,fun j hj=>Nat.lt_of_lt_of_le (hx.bl j hj) f1.n,fun j hj=>Nat.lt_of_lt_of_le (hx.cl j hj) f1.n,hx.bc,hx.pb,hx.pc,hx.cb,hx.cc,hx.eb⟩
theorem cput_ok {c:Nat} {z:ClkX} {t:Int} (hc:ClkAt h c z) (hP:∀ h',ClkAt h' c ⟨cutI t 1000000000000,0,z.n⟩→Fm (fun j=>j=c) h h'→P (.tup []) h'):callW N (k+2) 385 [.c (.ptr c 0 0 0),.c (.int .i64 t)] h P:=by
 unfold ClkAt at hc
 obtain ⟨h1,hh1⟩:∃ g,g=h.put c (.rows true 3 0 0 [[.int .i64 (cutI t 1000000000000),.int .i64 z.s,.int .i64 z.n]]):=⟨_,rfl⟩
 have g1:h1.g c=some (.rows true 3 0 0 [[.int .i64 (cutI t 1000000000000),.int .i64 z.s,.int .i64 z.n]]):=by rw [hh1,g_put_eq,hc];rfl
 obtain ⟨h2,hh2⟩:∃ g,g=h1.put c (.rows true 3 0 0 [[.int .i64 (cutI t 1000000000000),.int .i64 0,.int .i64 z.n]]):=⟨_,rfl⟩
 have g2:h2.g c=some (.rows true 3 0 0 [[.int .i64 (cutI t 1000000000000),.int .i64 0,.int .i64 z.n]]):=by rw [hh2,g_put_eq,g1];rfl
 refine call_intro rfl (by simp only [List.length_cons,List.length_nil];omega) ?_
 simp (maxSteps:=200000) -implicitDefEqProofs only [KK,eq_self,ne_eq,↓reduceIte,reduceLT,reduceEqDiff,reduceAdd,reduceLeDiff,reduceSub,reduceMul,reduceCtorEq]
 refine cut_ok (k:=k) (by decide) ?_
 simp (maxSteps:=200000) -implicitDefEqProofs only [KK,eq_self,ne_eq,↓reduceIte,reduceLT,reduceEqDiff,reduceAdd,reduceLeDiff,reduceSub,reduceMul,reduceCtorEq,hc,hh1.symm,g1,hh2.symm]
 refine hP h2 g2 ?_
 rw [hh2,hh1]
 exact (Fm.put (S:=fun j=>j=c) _ _ rfl).trans (Fm.put (S:=fun j=>j=c) _ _ rfl)
theorem New0.ok {base n lo q ck qp up dn gt pm m1 m2 m3:Nat} {xs:List Nat} {u w:CV} {id:Int} (k:New0 base h n lo q xs u w ck qp up dn gt pm m1 m2 m3) (hx:NdR h p (node0 n lo q u w id ck qp up dn gt pm)) (hp:base≤p) :
 NodeOk base (fun _=>False) (fun j=>j=qp) h p (node0 n lo q u w id ck qp up dn gt pm) ⟨0,0,0⟩ [] [] n lo q xs:=by
 have hq:QM (fun j=>j=qp) h qp (q:Int) []:=⟨0,.nils,[],k.gqp,by omega,rfl,rfl,by simp,rfl,fun j e=>e.elim,by simp⟩
 have b:=k.b
 refine ⟨⟨hx,k.gck,⟨by simp,by simp,by simp⟩,hq,rfl,fun j e=>e.elim,?_,fun j e=>e.elim,fun e=>e,?_,fun e=>e,?_,fun j e=>e.elim⟩,k.cfg,?_,⟨rfl,rfl,rfl,rfl,rfl,rfl,rfl⟩,hp,b.1,fun j e=>e.elim,?_⟩
 ·rintro j rfl;exact lt_of_g k.gqp
 ·exact ne_of_g hx k.gqp (by unfold NodeX.row;simp)
 ·exact ne_of_g k.gck k.gqp (by simp)
 ·intro j hj
  refine ⟨fun e=>e,?_⟩
  rintro rfl
  rcases hj with hj|hj
  ·exact k.cfg.near.qne k.gqp (by intro _ _ _ _ e;simp at e) hj
  ·exact k.cfg.hops.qne k.gqp (by intro _ _ _ _ e;simp at e) hj
 ·rintro j rfl;exact b.2.1
theorem NodeAt.adopt {h':Hp} {s kc:Nat} {v:CV} {rank t ke:Int} {L:List Pr} (k:NodeAt B C h p x y Q []) (hev:x.ev = .nils) (hx:NdR h' p {x with sy:=true,pp:=.ptr s 0 0 0,kp:=.ptr kc 0 0 0}) (hc:ClkAt h' x.ck (y.move t)) (hk:KepAt h' kc ke 0)
 (hs:PS h' s x.id rank v L) (b1:h.n≤s) (b2:h.n≤kc) (b3:∀ j,ownId v j→h.n≤j) (f:Fm (fun j=>j=p∨j=x.ck) h h') (iv:Ivt x.id rank L) (rk:0≤rank∧rank≤255) :
 ∃ B',NodeAt B' C h' p {x with sy:=true,pp:=.ptr s 0 0 0,kp:=.ptr kc 0 0 0} (y.move t) Q []∧ParAt B' h' {x with sy:=true,pp:=.ptr s 0 0 0,kp:=.ptr kc 0 0 0} rank L ke 0∧∀ j,B' j→h.n≤j:=by
 have hB:∀ j,(j=s∨j=kc∨ownId v j)→h.n≤j:=by
  rintro j (e|e|e)
  ·omega
  ·omega
  ·exact b3 j e
 have hpl:=k.node.lt
 have hcl:=lt_of_g k.clk
 refine ⟨fun j=>j=s∨j=kc∨ownId v j,⟨hx,hc,k.ok.move t,k.que.keep f (fun j hj _ e=>e.elim (fun e=>k.pc (by rw [←e];exact hj)) (fun e=>k.cc (by rw [←e];exact hj))),?_,?_,fun j hj=>Nat.lt_of_lt_of_le (k.cl j hj) f.n,?_,?_,k.pc,?_,k.cc,?_⟩,⟨⟨s,kc,v,rfl,rfl,hs,hk,.inl rfl,.inr (.inl rfl),fun j hj=>.inr (.inr hj)⟩,iv,rk,by omega⟩,hB⟩
 ·show Ow h' 10 x.ev []
  rw [hev];rfl
 ·rintro j (e|e|e)
  ·rw [e];exact lt_of_g hs.1
  ·rw [e];exact lt_of_g hk
  ·exact hs.2.1.lt e
 ·intro j hj e
  have h1:=hB j hj
  have h2:=k.cl j e
  omega
 ·intro e
  have:=hB p e
  omega
 ·intro e
  have:h.n≤x.ck:=hB x.ck e
  omega
 ·intro j hj
  have hj:ownId x.ev j:=hj
  rw [hev] at hj
  exact hj.elim
end
end
section
set_option maxHeartbeats 8000000
theorem New0.keep {base n lo q ck qp up dn gt pm m1 m2 m3:Nat} {xs:List Nat} {u w:CV} {T:Nat→Prop} {h h':Hp} (k:New0 base h n lo q xs u w ck qp up dn gt pm m1 m2 m3) (f:Fm T h h') (hT:∀ j,base≤j→¬T j):New0 base h' n lo q xs u w ck qp up dn gt pm m1 m2 m3:=by
 have b:=k.b
 exact ⟨k.cfg.off f (fun j hj=>hT j (k.ou j hj)) (fun j hj=>hT j (k.ow j hj)),k.ou,k.ow,f.some k.gck (hT _ (by omega)),f.some k.gqp (hT _ (by omega)),⟨f.some k.gup.1 (hT _ (by omega)),f.some k.gup.2 (hT _ (by omega))⟩,
  ⟨f.some k.gdn.1 (hT _ (by omega)),f.some k.gdn.2 (hT _ (by omega))⟩,⟨f.some k.ggt.1 (hT _ (by omega)),f.some k.ggt.2 (hT _ (by omega))⟩,f.some k.gpm (hT _ (by omega)),k.b,k.d1,k.d2⟩
section
variable {k:Nat} {h:Hp} {P:AV→Hp→Prop} {B C:Nat→Prop} {p:Nat} {x:NodeX} {y:ClkX} {Q:List (Int × List Nat)} {E:List (List CV)}
theorem nreboot_ok {base n lo q:Nat} {xs:List Nat} (hx:NodeOk base B C h p x y Q E n lo q xs) (hid:0<x.id∧x.id≤(n:Int)-1) (hb:base≤h.n)
 (hP:∀ h' u w ck qp up dn gt pm,NodeOk base (fun _=>False) (fun j=>j=qp) h' p (node0 n lo q u w x.id ck qp up dn gt pm) ⟨cutI y.off 1000000000000,0,0⟩ [] [] n lo q xs→Fm (fun j=>j=p) h h'→P (.tup []) h') :
 callW N (k+6) 342 [.c (.ptr p 0 0 0)] h P:=by
 have hx':=hx.at_.node
 unfold NdR NodeX.row at hx'
 have hid0:¬x.id=0:=by omega
 have hpl:=hx.at_.node.lt
 obtain ⟨q1,q2,q3,q4,q5,q6,q7⟩:=hx.eq
 refine call_intro rfl (by simp only [List.length_cons,List.length_nil];omega) ?_
 simp (maxSteps:=200000) -implicitDefEqProofs only [KK,eq_self,ne_eq,↓reduceIte,reduceLT,reduceEqDiff,reduceAdd,reduceLeDiff,reduceSub,reduceMul,reduceCtorEq,hx',hid0]
 refine coff_ok (k:=k+3) hx.at_.clk hx.at_.ok ?_
 simp (maxSteps:=200000) -implicitDefEqProofs only [KK,eq_self,ne_eq,↓reduceIte,reduceLT,reduceEqDiff,reduceAdd,reduceLeDiff,reduceSub,reduceMul,reduceCtorEq,hx']
 have hcf:([.int .i64 x.n,x.nr,x.hp,.int .i64 x.gu,.int .i64 x.er,.int .i64 x.ke,.int .i64 x.lo,.int .i64 x.qu,.int .i64 x.li]:List CV)=cfgV x.nr x.hp n lo q:=by
  unfold cfgV
  rw [q1,q2,q3,q4,q5,q6,q7]
 rw [hcf]
 refine new_ok (k:=k) (id:=x.id) hx.cfg (by omega) fun h1 np u w ck qp up dn gt pm m1 m2 m3 x1 nw b1 f1=>?_
 have x1':=x1
 unfold NdR NodeX.row node0 at x1'
 have p1:=f1.some hx' (fun e=>e)
 obtain ⟨h2,hh2⟩:∃ g,g=h1.put p (.rows true 32 0 0 [NodeX.row (node0 n lo q u w x.id ck qp up dn gt pm)]):=⟨_,rfl⟩
 have f2:Fm (fun j=>j=p) h1 h2:=by rw [hh2];exact Fm.put (S:=fun j=>j=p) _ _ rfl
 have x2:NdR h2 p (node0 n lo q u w x.id ck qp up dn gt pm):=by unfold NdR;rw [hh2,g_put_eq,p1];rfl
 have x2':=x2
 unfold NdR NodeX.row node0 at x2'
 have fd2:=hh2.symm
 unfold NodeX.row node0 at fd2
 have nw2:=nw.keep f2 (fun j hj e=>by omega)
 have hbp:=hx.bp
 have nb:New0 base h2 n lo q xs u w ck qp up dn gt pm m1 m2 m3:=by
  have b:=nw2.b
  exact ⟨nw2.cfg,fun j hj=>Nat.le_trans hb (nw2.ou j hj),fun j hj=>Nat.le_trans hb (nw2.ow j hj),nw2.gck,nw2.gqp,nw2.gup,nw2.gdn,nw2.ggt,nw2.gpm,by omega,nw2.d1,nw2.d2⟩
 have ok2:=nb.ok x2 hbp
 simp (maxSteps:=200000) -implicitDefEqProofs only [KK,eq_self,ne_eq,↓reduceIte,reduceLT,reduceEqDiff,reduceAdd,reduceLeDiff,reduceSub,reduceMul,reduceCtorEq,x1',p1,fd2,x2']
 refine cput_ok (k:=k+3) (t:=y.off) nb.gck fun h3 c3 f3=>?_
 simp (maxSteps:=200000) -implicitDefEqProofs only [KK,eq_self,ne_eq,↓reduceIte,reduceLT,reduceEqDiff,reduceAdd,reduceLeDiff,reduceSub,reduceMul,reduceCtorEq]
 have hpc:p≠ck:=ne_of_g x2 nb.gck (by unfold NodeX.row;simp)
 have hqc:qp≠ck:=ne_of_g nb.gqp nb.gck (by simp)
 have at3:NodeAt (fun _=>False) (fun j=>j=qp) h3 p (node0 n lo q u w x.id ck qp up dn gt pm) ⟨cutI y.off 1000000000000,0,0⟩ [] []:=by
  have a:=ok2.at_
  exact ⟨a.node.keep f3 hpc,c3,⟨by simp,by simp,by unfold cutI;simp only;omega⟩,a.que.keep f3 (fun j hj _ e=>hqc (by rw [←hj,e])),rfl,fun j e=>e.elim,fun j hj=>Nat.lt_of_lt_of_le (a.cl j hj) f3.n,a.bc,a.pb,a.pc,a.cb,a.cc,a.eb⟩
 have nb0:=nb.b
 have:=nw2.b
 refine hP h3 u w ck qp up dn gt pm (ok2.step at3 f3 (fun j e=>.inr (.inl e)) (fun j e=>.inl e) (fun j e=>.inl e) ⟨rfl,rfl,rfl,rfl,rfl,rfl,rfl,rfl,rfl,rfl⟩ (Nat.le_trans hb (Nat.le_trans f1.n f2.n))) ?_
 exact ((f1.mono (fun _ _ e=>e.elim)).trans f2).fresh f3 (fun j e=>by rw [e];exact this.1)
structure InT (base:Nat) (h:Hp) (p:Nat) (x:NodeX) (y:ClkX) (Q:List (Int × List Nat)) (lo q:Nat) (xs:List Nat) (t since:Int) (B C:Nat→Prop):Prop where
 ok:NodeOk base B C h p x y Q [] 5 lo q xs
 par:ParAt B h x 2 [⟨1,1,t⟩] 6 since
 id:x.id=2
 sy:x.sy=true
 ev:x.ev = .nils
structure OutT (base:Nat) (h:Hp) (p:Nat) (x:NodeX) (y:ClkX) (lo q:Nat) (xs:List Nat) (i:Nat) (B C:Nat→Prop):Prop where
 ok:NodeOk base B C h p x y [] [] 5 lo q xs
 id:x.id=2
 sy:x.sy=false
 ev:x.ev = .nils
 ls:x.ls=i
 last:x.last = -1
theorem hearC_1 {a:Nat} (hn:x.n=5) (hid:x.id=2) (ha:a<1099511627776):hearC x (apx (yF 3 1 64 0 a 1)) (a:Int)=some ⟨3,1,64,0,[.sync a 1],[]⟩:=by
 unfold hearC
 rw [decF_y (q:=0) (a:=a) (r:=1) ⟨by omega,.inl ⟨rfl,rfl⟩⟩ ha,Option.bind_some,if_pos]
 exact ⟨⟨by show (0:Int)≤1;decide,by show (1:Int)≤x.n-1;omega⟩,by show (1:Int)≠x.id;omega,by rw [rankD_y];simp⟩
theorem hearS_1 {t now:Int} (hnow:0≤now):hearS 2 2 [⟨1,1,t⟩] 1 1 now=(2,[⟨1,1,now⟩],true):=by
 have hm:mayP 2 1 1 now:=⟨by omega,by omega,by omega,by omega⟩
 unfold hearS
 rw [if_pos hm,if_neg (by omega)]
 have:hearL 2 [⟨1,1,t⟩] ⟨1,1,now⟩=[⟨1,1,now⟩]:=by
  unfold hearL insP keepN
  simp [List.filter_cons]
 rw [this]
 simp [rankOf]
theorem comes_ok {base lo q i:Nat} {xs:List Nat} {a:Nat} {u:CV} (hx:OutT base h p x y lo q xs i B C) (hi:lo<i) (hb:base≤h.n) (ha:a<1099511627776) (hu:SL h 1 u ((apx (yF 3 1 64 0 a 1)).map eB)) (hcu:CapL u)
 (hP:∀ h' x' y' B' w,InT base h' p x' y' [] lo q xs (a:Int) 0 B' C→x'.last = -1→x'.ls=x.ls→Fm (fun j=>base≤j) h h'→P (.tup [.c .nils,.c w]) h') :
 callW N (k+11) 343 [.c (.ptr p 0 0 0),.c (.int .i64 (a:Int)),.c u,.c (.int .i64 0)] h P:=by
 obtain ⟨q1,q2,q3,q4,q5,q6,q7⟩:=hx.ok.eq
 have hone:oneK 3 1 64:=⟨by omega,.inl ⟨rfl,rfl⟩⟩
 have hC:=hearC_1 (x:=x) (by rw [q1];rfl) hx.id ha
 have h0:=hx.ok.at_
 refine nhear_un (k:=k) (now:=(a:Int)) (y:=y) (by omega) h0.node hx.sy hx.ev (by rw [q1];decide) (by rw [hx.id];decide) h0.clk h0.ok hu hcu (apx_lt (yF_lt hone (by omega) (by omega))) (by rw [apx_len,yF_len];omega)
  (fun h5 hno x5 f5=>?_) (fun F h5 s kc v w hF hc x5 c5 k5 s5 w5 b1 b2 b3 b4 f5=>?_)
 ·refine absurd ?_ (hno _ hC)
  rw [rankD_y]
  exact ⟨rfl,by simp only;omega,by rw [q5,hx.ls];omega⟩
 rw [hC] at hF
 injection hF with hF
 subst hF
 simp only [rankD_y] at s5
 have q1':((1:Nat):Int)=1:=rfl
 simp only [q1'] at s5
 rw [q4] at k5
 have hk6:max 1 (min (6:Int) 10000)=6:=by decide
 rw [hk6] at k5
 have iv:Ivt x.id (1+1) [⟨1,1,(a:Int)⟩]:=by
  rw [hx.id]
  exact ⟨by simp,by simp,by simp,by simp⟩
 obtain ⟨B',a1,a2,a3⟩:=h0.adopt hx.ev x5 c5 k5 s5 b1 b2 b3 f5 iv (by omega)
 refine hP h5 _ _ B' w ⟨hx.ok.step a1 f5 (fun j e=>e.elim .inl (fun e=>.inr (.inl e))) (fun j e=>.inr (a3 j e)) (fun j e=>.inl e) ⟨rfl,rfl,rfl,rfl,rfl,rfl,rfl,rfl,rfl,rfl⟩ hb,a2,hx.id,rfl,hx.ev⟩ hx.last rfl ?_
 exact hx.ok.fm hx.ev f5 (fun j e=>e.elim .inl (fun e=>.inr (.inl e)))
theorem again_ok {base lo q:Nat} {xs:List Nat} {a:Nat} {u:CV} {t since:Int} (hx:InT base h p x y Q lo q xs t since B C) (hb:base≤h.n) (ha:a<1099511627776) (hu:SL h 1 u ((apx (yF 3 1 64 0 a 1)).map eB)) (hcu:CapL u)
 (hP:∀ h' y' B' w,InT base h' p x y' Q lo q xs (a:Int) 0 B' C→Fm (fun j=>base≤j) h h'→P (.tup [.c .nils,.c w]) h') :
 callW N (k+11) 343 [.c (.ptr p 0 0 0),.c (.int .i64 (a:Int)),.c u,.c (.int .i64 0)] h P:=by
 obtain ⟨q1,q2,q3,q4,q5,q6,q7⟩:=hx.ok.eq
 have hone:oneK 3 1 64:=⟨by omega,.inl ⟨rfl,rfl⟩⟩
 have hC:=hearC_1 (x:=x) (by rw [q1];rfl) hx.id ha
 refine nhear_sy (k:=k) (now:=(a:Int)) (by omega) hx.ok.at_ hx.par hx.sy hx.ev (by rw [q1];decide) (by rw [hx.id];decide) hu hcu (apx_lt (yF_lt hone (by omega) (by omega))) (by rw [apx_len,yF_len];omega)
  (fun F hF=>?_) (fun h5 hno x5 p5 f5=>?_) (fun F h5 w B' hF x5 p5 w5 b5 b6 f5=>?_)
 ·rw [hC] at hF
  injection hF with hF
  subst hF
  rw [hx.id]
  show ¬(64:Int)=2
  decide
 ·rw [hC] at hno
  cases hno
 rw [hC] at hF
 injection hF with hF
 subst hF
 simp only [rankD_y,hx.id] at x5 p5 w5
 have q1':((1:Nat):Int)=1:=rfl
 simp only [q1',hearS_1 (show (0:Int)≤(a:Int) by omega)] at x5 p5 w5
 have hz:heardS since 1 (firstL [⟨1,1,(a:Int)⟩])=0:=by simp [heardS,firstL]
 rw [hz] at p5
 refine hP h5 _ B' w ⟨hx.ok.step x5 f5 (fun j e=>?_) b6 (fun j e=>.inl e) ⟨rfl,rfl,rfl,rfl,rfl,rfl,rfl,rfl,rfl,rfl⟩ hb,p5,hx.id,hx.sy,hx.ev⟩ (hx.ok.fm hx.ev f5 (fun j e=>?_))
 ·rcases e with e|e|e
  ·exact .inl e
  ·exact .inr (.inl e)
  ·exact .inr (.inr (.inl e))
 ·rcases e with e|e|e
  ·exact .inl e
  ·exact .inr (.inl e)
  ·exact .inr (.inr (.inl e))
end
end
section
set_option maxHeartbeats 8000000
section
variable {k:Nat} {h:Hp} {P:AV→Hp→Prop} {B C:Nat→Prop} {p:Nat} {x:NodeX} {y:ClkX} {Q:List (Int × List Nat)} {base lo q i:Nat} {xs:List Nat}
theorem slotO_ok {a:Nat} (ha:a<1099511627776) (hx:OutT base h p x y lo q xs i B C) (hb:base≤h.n) (hi:i≤1000000)
 (hP:∀ h' y',OutT base h' p {x with ls:=x.ls+1} y' lo q xs (i+1) B C→Fm (fun j=>base≤j) h h'→P (.tup []) h') :
 callW N (k+3) 341 [.c (.ptr p 0 0 0),.c (.int .i64 (a:Int)),.c (.int .i64 0)] h P:=by
 refine slotA_ok (by omega) hx.ok.at_ (by rw [hx.id];decide) (by rw [hx.ls];omega) fun h1 x1 f1=>?_
 rw [if_neg (by rw [hx.sy];decide)] at x1
 refine hP h1 _ ⟨hx.ok.step x1 f1 (fun j e=>e.elim .inl (fun e=>.inr (.inl e))) (fun j e=>.inl e) (fun j e=>.inl e) ⟨rfl,rfl,rfl,rfl,rfl,rfl,rfl,rfl,rfl,rfl⟩ hb,hx.id,hx.sy,hx.ev,by show x.ls+1=_;rw [hx.ls];omega,hx.last⟩ ?_
 exact hx.ok.fm hx.ev f1 (fun j e=>e.elim .inl (fun e=>.inr (.inl e)))
theorem slotI_ok {a:Nat} {t since:Int} (ha:a<1099511627776) (hx:InT base h p x y Q lo q xs t since B C) (hb:base≤h.n) (hl:0≤x.ls∧x.ls≤1000000000)
 (hP:∀ h' y',InT base h' p x y' Q lo q xs t since B C→Fm (fun j=>base≤j) h h'→P (.tup []) h') :
 callW N (k+3) 341 [.c (.ptr p 0 0 0),.c (.int .i64 (a:Int)),.c (.int .i64 0)] h P:=by
 refine slotA_ok (by omega) hx.ok.at_ (by rw [hx.id];decide) hl fun h1 x1 f1=>?_
 rw [if_pos hx.sy] at x1
 refine hP h1 _ ⟨hx.ok.step x1 f1 (fun j e=>e.elim .inl (fun e=>.inr (.inl e))) (fun j e=>.inl e) (fun j e=>.inl e) ⟨rfl,rfl,rfl,rfl,rfl,rfl,rfl,rfl,rfl,rfl⟩ hb,hx.par.keep f1 ?_ rfl rfl rfl,hx.id,hx.sy,hx.ev⟩ ?_
 ·rintro j hj (e|e)
  ·subst e;exact hx.ok.at_.pb hj
  ·subst e;exact hx.ok.at_.cb hj
 ·exact hx.ok.fm hx.ev f1 (fun j e=>e.elim .inl (fun e=>.inr (.inl e)))
theorem cfgM_of {nr hp n lo q:Nat} {xs:List Nat} (hn:2≤n∧n≤8) (hlo:2 * n≤lo∧lo≤2 * n+59) (hq:1≤q∧q≤8) (g1:h.g nr=some (.rows true 1 0 0 (xs.map u6))) (nk:NearOk n xs) (g2:h.g hp=some (.rows true 1 0 0 [[.int .i64 11],[.int .i64 15],[.int .i64 20]])) :
 CfgM h (.sl nr 0 0 n (some n)) (.sl hp 0 0 3 (some 3)) n lo q xs:=
 ⟨hn,hlo,hq,nk,⟨true,0,0,_,g1,Nat.le_refl _,by rw [List.length_map,nk.1];omega,by rw [List.drop_zero,List.take_of_length_le (by rw [List.length_map,nk.1];omega)]⟩,
  ⟨true,0,0,_,g2,Nat.le_refl _,by decide,rfl⟩,by rintro id tok off len c ⟨⟩;omega⟩
def JnI (b0:Nat) (h0:Hp) (nr hp lo q p:Nat) (xs:List Nat) (m:Nat) (s:St):Prop:=∃ (i:Nat) (l:List (Nat × TV)) (h':Hp) (x:NodeX) (y:ClkX) (B C:Nat→Prop),s=ST 25 l [CfgC nr hp 5 lo q] h'∧i≤lo+1∧m=lo+1-i∧
 OutT b0 h' p x y lo q xs i B C∧Fm (fun j=>b0≤j) h0 h'∧
 lk l 1 = .lp 0 0∧lk l 3 = .v (.c (.ptr p 0 0 0))∧lk l 9 = .v (.c (.int .i64 ((lo+1:Nat):Int)))∧lk l 10 = .v (.c (.int .i64 (i:Int)))
theorem joined_ok {nr hp:Nat} (hlo:10≤lo∧lo≤69) (cm:CfgM h (.sl nr 0 0 5 (some 5)) (.sl hp 0 0 3 (some 3)) 5 lo q xs)
 (hP:∀ h' p x y B C,InT h.n h' p x y [] lo q xs (lo:Int) 0 B C→x.last = -1→x.ls=((lo+1:Nat):Int)→Fn h h'→P (.c (.ptr p 0 0 0)) h'):callW N (k+12) 439 [.agg (CfgC nr hp 5 lo q)] h P:=by
 have w3:IntKind.wrap .i64 ((lo:Int)+1)=((lo+1:Nat):Int):=by rw [wrap_i64 (by omega)];omega
 refine call_intro rfl (by simp only [List.length_cons,List.length_nil];omega) ?_
 unfold CfgC
 simp (maxSteps:=200000) -implicitDefEqProofs only [KK,eq_self,ne_eq,↓reduceIte,reduceLT,reduceEqDiff,reduceAdd,reduceLeDiff,reduceSub,reduceMul,reduceCtorEq]
 refine new_ok (k:=k+6) (nv:=.sl nr 0 0 5 (some 5)) (hv:=.sl hp 0 0 3 (some 3)) (n:=5) (lo:=lo) (q:=q) (id:=2) cm (by decide) fun h2 p u w ck qp up dn gt pm m1 m2 m3 x2 nw b2 f2=>?_
 simp (maxSteps:=200000) -implicitDefEqProofs only [KK,eq_self,ne_eq,↓reduceIte,reduceLT,reduceEqDiff,reduceAdd,reduceLeDiff,reduceSub,reduceMul,reduceCtorEq,w3]
 have ok2:=nw.ok x2 b2
 have o2:OutT h.n h2 p (node0 5 lo q u w 2 ck qp up dn gt pm) ⟨0,0,0⟩ lo q xs 0 (fun _=>False) (fun j=>j=qp):=⟨ok2,rfl,rfl,rfl,rfl,rfl⟩
 refine loop_rd (callW_mono N _) (JnI h.n h2 nr hp lo q p xs) (n:=lo+1) ⟨0,_,h2,_,_,_,_,rfl,by omega,by omega,o2,Fm.refl _ _,rfl,rfl,rfl,rfl⟩ ?_
 rintro m s ⟨i,l,h3,x,y,B,C,rfl,hi,hm,o3,f3,e1,e3,e9,e10⟩
 have n3:h.n≤h3.n:=Nat.le_trans f2.n f3.n
 by_cases hlt:(i:Int)<((lo+1:Nat):Int)
 ·have w4:IntKind.wrap .i64 ((i:Int)+1)=((i+1:Nat):Int):=by rw [wrap_i64 (by omega)];omega
  simp (maxSteps:=200000) -implicitDefEqProofs only [KK,eq_self,ne_eq,↓reduceIte,reduceLT,reduceEqDiff,reduceAdd,reduceLeDiff,reduceSub,reduceMul,reduceCtorEq,e1,e3,e9,e10,hlt]
  refine slotO_ok (k:=k+8) (a:=i) (by omega) o3 n3 (by omega) fun h4 y4 o4 f4=>?_
  simp (maxSteps:=200000) -implicitDefEqProofs only [KK,eq_self,ne_eq,↓reduceIte,reduceLT,reduceEqDiff,reduceAdd,reduceLeDiff,reduceSub,reduceMul,reduceCtorEq,e1,e3,e9,e10,w4,rd_n]
  exact ⟨m-1,by omega,i+1,_,h4,_,y4,B,C,rfl,by omega,by omega,o4,f3.trans f4,rfl,rfl,rfl,rfl⟩
 ·have hi2:i=lo+1:=by omega
  simp (maxSteps:=200000) -implicitDefEqProofs only [KK,eq_self,ne_eq,↓reduceIte,reduceLT,reduceEqDiff,reduceAdd,reduceLeDiff,reduceSub,reduceMul,reduceCtorEq,e1,e3,e9,e10,hlt,CfgC]
  have q1:((1:Nat):Int)=1:=rfl
  refine beacon_ok (k:=k+6) (s:=1) (r:=1) (a:=lo) (by omega) (by omega) (by omega) fun h4 u4 k4 cu4 f4=>?_
  simp (maxSteps:=200000) -implicitDefEqProofs only [KK,eq_self,ne_eq,↓reduceIte,reduceLT,reduceEqDiff,reduceAdd,reduceLeDiff,reduceSub,reduceMul,reduceCtorEq]
  have o4:OutT h.n h4 p x y lo q xs i B C:=⟨o3.ok.step (o3.ok.at_.new f4) f4 (fun j e=>e.elim) (fun j e=>.inl e) (fun j e=>.inl e) ⟨rfl,rfl,rfl,rfl,rfl,rfl,rfl,rfl,rfl,rfl⟩ n3,o3.id,o3.sy,o3.ev,o3.ls,o3.last⟩
  refine comes_ok (k:=k) (a:=lo) o4 (by omega) (Nat.le_trans n3 f4.n) (by omega) k4 cu4 fun h5 x5 y5 B5 w5 i5 l5 s5 f5=>?_
  simp (maxSteps:=200000) -implicitDefEqProofs only [KK,eq_self,ne_eq,↓reduceIte,reduceLT,reduceEqDiff,reduceAdd,reduceLeDiff,reduceSub,reduceMul,reduceCtorEq]
  exact hP h5 p x5 y5 B5 C i5 l5 (by rw [s5,o4.ls,hi2]) (f2.fresh (f3.trans ((f4.mono fun _ _ e=>e.elim).trans f5)) (fun j e=>e))
end
end
section
set_option maxHeartbeats 8000000
structure CR where
 (a0 a1 a2 a3 a4 a5 a6 a7:Int)
 (ie dat:CV)
 (b0 b1 b2 b3:Int)
 (pa pd bb:CV)
def encR (r:CR):List CV:=[.int .i64 r.a0,.int .i64 r.a1,.int .i64 r.a2,.int .i64 r.a3,.int .i64 r.a4,.int .i64 r.a5,.int .i64 r.a6,.int .i64 r.a7,r.ie,r.dat,.int .i64 r.b0,.int .i64 r.b1,.int .i64 r.b2,.int .i64 r.b3,r.pa,r.pd,r.bb]
section
variable {k:Nat} {h:Hp} {P:AV→Hp→Prop} {v:CV} {R:List CR}
theorem awakeN4_ok (hP:P (.c (.bool true)) h):callW N (k+1) 258 [] h P:=⟨awakeN,rfl,by simp,[],.c (.bool true),rfl,rfl,rfl,.inr rfl,_,rfl,hP⟩
theorem unode_ok {n:Int} (hP:∀ t:Nat,t<2→P (.c (.int .i64 (t:Int))) h):callW N (k+1) 440 [.c (.int .i64 n)] h P:=by
 obtain ⟨m,hm⟩:=wrap_pos n
 have t1:Int.tmod (m:Int) 2=((m % 2:Nat):Int):=tmod_nat m 2
 have w1:IntKind.wrap .i64 ((m % 2:Nat):Int)=((m % 2:Nat):Int):=wrap_i64 (by omega)
 have w2:IntKind.wrap .u64 ((m % 2:Nat):Int)=((m % 2:Nat):Int):=wrap_u64 (by omega)
 have z2:¬((2:Int)=0):=by decide
 refine call_intro rfl (by simp only [List.length_cons,List.length_nil];omega) ?_
 simp (maxSteps:=200000) -implicitDefEqProofs only [KK,eq_self,ne_eq,↓reduceIte,reduceLT,reduceEqDiff,reduceAdd,reduceLeDiff,reduceSub,reduceMul,reduceCtorEq,hm,t1,w1,w2,z2]
 exact hP _ (Nat.mod_lt _ (by decide))
structure NuS (x:NodeX) (Q:List (Int × List Nat)) (lo i asn:Nat) (last:Int):Prop where
 ha:asn≤lo+i * (lo+1)
 l1 : -1≤last∧last≤(asn:Int) * 64+i
 l2:last≤x.last∨last<(asn:Int) * 64
 l3 : -1≤x.last∧x.last≤(asn:Int) * 64+i
 q:Q.length≤i
 ls:0≤x.ls∧x.ls≤1000
def NuI (b0:Nat) (h0:Hp) (nr hp lo q p:Nat) (xs:List Nat) (v:CV) (R:List CR) (m:Nat) (s:St):Prop:=∃ (i:Nat) (l:List (Nat × TV)) (h':Hp) (x:NodeX) (y:ClkX) (Q:List (Int × List Nat)) (t since:Int) (B C:Nat→Prop) (asn:Nat) (last:Int),s=ST 95 l [CfgC nr hp 5 lo q] h'∧i≤R.length∧m=R.length-i∧
 InT b0 h' p x y Q lo q xs t since B C∧NuS x Q lo i asn last∧Fm (fun j=>b0≤j) h0 h'∧
 lk l 5 = .lp 0 0∧lk l 6 = .v (.c (.ptr p 0 0 0))∧lk l 7 = .v (.c (.int .i64 last))∧lk l 8 = .v (.c (.int .i64 (asn:Int)))∧lk l 25 = .v (.c v)∧lk l 26 = .v (.c (.int .i64 (R.length:Int)))∧lk l 27 = .v (.c (.int .i64 (i:Int)))
def NuJ (b0:Nat) (h0:Hp) (nr hp lo q p:Nat) (xs:List Nat) (v:CV) (R:List CR) (i asn:Nat) (last:Int) (m:Nat) (s:St):Prop:=∃ (j:Nat) (l:List (Nat × TV)) (h':Hp) (x:NodeX) (y:ClkX) (B C:Nat→Prop),s=ST 95 l [CfgC nr hp 5 lo q] h'∧j≤lo+1∧m=lo+1-j∧
 OutT b0 h' p x y lo q xs j B C∧Fm (fun j=>b0≤j) h0 h'∧
 lk l 5 = .lp 0 0∧lk l 6 = .v (.c (.ptr p 0 0 0))∧lk l 7 = .v (.c (.int .i64 last))∧lk l 8 = .v (.c (.int .i64 ((asn+j:Nat):Int)))∧lk l 25 = .v (.c v)∧lk l 26 = .v (.c (.int .i64 (R.length:Int)))∧lk l 27 = .v (.c (.int .i64 (i:Int)))∧
 lk l 79 = .v (.c (.int .i64 ((lo+1:Nat):Int)))∧lk l 80 = .v (.c (.int .i64 (j:Int)))
theorem InT.new {base lo q p:Nat} {xs:List Nat} {x:NodeX} {y:ClkX} {Q:List (Int × List Nat)} {t since:Int} {B C:Nat→Prop} {h':Hp} (k:InT base h p x y Q lo q xs t since B C) (f:Fn h h') (hb:base≤h.n):InT base h' p x y Q lo q xs t since B C:=
 ⟨k.ok.step (k.ok.at_.new f) f (fun j e=>e.elim) (fun j e=>.inl e) (fun j e=>.inl e) ⟨rfl,rfl,rfl,rfl,rfl,rfl,rfl,rfl,rfl,rfl⟩ hb,k.par.keep f (fun _ _ e=>e) rfl rfl rfl,k.id,k.sy,k.ev⟩
theorem OutT.new {base lo q p i:Nat} {xs:List Nat} {x:NodeX} {y:ClkX} {B C:Nat→Prop} {h':Hp} (k:OutT base h p x y lo q xs i B C) (f:Fn h h') (hb:base≤h.n):OutT base h' p x y lo q xs i B C:=
 ⟨k.ok.step (k.ok.at_.new f) f (fun j e=>e.elim) (fun j e=>.inl e) (fun j e=>.inl e) ⟨rfl,rfl,rfl,rfl,rfl,rfl,rfl,rfl,rfl,rfl⟩ hb,k.id,k.sy,k.ev,k.ls,k.last⟩
theorem nodeNumbers_ok {queue:Int} (hv:SL h 17 v (R.map encR)) (hP:∀ h',P (.c (.bool true)) h'):callW N (k+14) 438 [.c (.int .i64 queue),.c v] h P:=by
 have hlen:∀ h':Hp,lenT h' .sl (.v (.c v))=some (R.length:Int):=fun h'=>by rw [hv.len h',List.length_map]
 refine call_intro rfl (by simp only [List.length_cons,List.length_nil];omega) ?_
 by_cases h100:(100:Int)<(R.length:Int)
 ·simp (maxSteps:=200000) -implicitDefEqProofs only [KK,eq_self,ne_eq,↓reduceIte,reduceLT,reduceEqDiff,reduceAdd,reduceLeDiff,reduceSub,reduceMul,reduceCtorEq,hlen,h100]
  refine awakeN4_ok (k:=k+12) ?_
  simp (maxSteps:=200000) -implicitDefEqProofs only [KK,eq_self,ne_eq,↓reduceIte,reduceLT,reduceEqDiff,reduceAdd,reduceLeDiff,reduceSub,reduceMul,reduceCtorEq]
  exact hP _
 simp (maxSteps:=200000) -implicitDefEqProofs only [KK,eq_self,ne_eq,↓reduceIte,reduceLT,reduceEqDiff,reduceAdd,reduceLeDiff,reduceSub,reduceMul,reduceCtorEq,hlen,h100]
 refine config_ok (k:=k+12) fun h1 nr hp n lo q xs hn hlo hq h3 g1 nk g2 f1=>?_
 have hn5:n=5:=by have:=h3 3 (by decide) (by decide) rfl;omega
 subst hn5
 have cm:=cfgM_of hn hlo hq g1 nk g2
 unfold CfgC
 simp (maxSteps:=200000) -implicitDefEqProofs only [KK,eq_self,ne_eq,↓reduceIte,reduceLT,reduceEqDiff,reduceAdd,reduceLeDiff,reduceSub,reduceMul,reduceCtorEq]
 refine joined_ok (k:=k+1) (nr:=nr) (hp:=hp) (by omega) cm fun h2 p x y B C i2 la2 ls2 f2=>?_
 simp (maxSteps:=200000) -implicitDefEqProofs only [KK,eq_self,ne_eq,↓reduceIte,reduceLT,reduceEqDiff,reduceAdd,reduceLeDiff,reduceSub,reduceMul,reduceCtorEq,hlen]
 have n12:=f1.n
 have hv2:=hv.new (f1.trans f2)
 refine loop_rd (callW_mono N _) (NuI h1.n h2 nr hp lo q p xs v R) (n:=R.length) ⟨0,_,h2,x,y,[],_,_,B,C,lo,-1,rfl,by omega,by omega,i2,⟨by omega,by omega,by omega,by omega,by simp,by omega⟩,Fm.refl _ _,rfl,rfl,rfl,rfl,rfl,rfl,rfl⟩ ?_
 clear i2 la2 ls2
 rintro m s ⟨i,l,h3',x,y,Q,t,since,B,C,asn,last,rfl,hi,hm,i3,ns,f3,e5,e6,e7,e8,e25,e26,e27⟩
 have n3:h1.n≤h3'.n:=Nat.le_trans f2.n f3.n
 by_cases hlt:(i:Int)<R.length
 case neg=>
  simp (maxSteps:=200000) -implicitDefEqProofs only [KK,eq_self,ne_eq,↓reduceIte,reduceLT,reduceEqDiff,reduceAdd,reduceLeDiff,reduceSub,reduceMul,reduceCtorEq,e5,e6,e7,e8,e25,e26,e27,hlt]
  refine awakeN4_ok (k:=k+12) ?_
  simp (maxSteps:=200000) -implicitDefEqProofs only [KK,eq_self,ne_eq,↓reduceIte,reduceLT,reduceEqDiff,reduceAdd,reduceLeDiff,reduceSub,reduceMul,reduceCtorEq]
  exact hP _
 have hi100:i<100:=by omega
 have hasn:asn≤10000:=by
  have h1:=ns.ha
  have h2:i * (lo+1)≤99 * (lo+1):=Nat.mul_le_mul_right _ (by omega)
  omega
 have hvl:∀ j,ownId v j→j<h1.n:=by
  intro j hj
  have:=sl_lt hv j hj
  omega
 have hv3:SL h3' 17 v (R.map encR):=hv2.off f3 (fun j hj e=>by have:=hvl j hj;omega)
 obtain ⟨r,hr⟩:∃ r,R[i]? = some r:=⟨_,List.getElem?_eq_getElem (by omega)⟩
 obtain ⟨pid,ptok,pj,a1,a2⟩:=hv3.at (i:=(i:Int)) (r:=encR r) (by omega) (by simp [hr])
 unfold encR at a2
 obtain ⟨d,hd⟩:=wrap_pos r.a0
 have t5:Int.tmod (d:Int) 5=((d % 5:Nat):Int):=tmod_nat d 5
 have wd:IntKind.wrap .u64 ((d % 5:Nat):Int)=((d % 5:Nat):Int):=wrap_u64 (by omega)
 have z5:¬((5:Int)=0):=by decide
 have w4:IntKind.wrap .i64 ((i:Int)+1)=((i+1:Nat):Int):=by rw [wrap_i64 (by omega)];omega
 have w8:IntKind.wrap .i64 ((asn:Int)+1)=((asn+1:Nat):Int):=by rw [wrap_i64 (by omega)];omega
 have q1:((1:Nat):Int)=1:=rfl
 have hls:0≤x.ls∧x.ls≤1000000000:=by have:=ns.ls;omega
 have hmul:(i+1) * (lo+1)=i * (lo+1)+(lo+1):=Nat.succ_mul _ _
 have nsa:=ns.ha
 rcases (by omega:d % 5=0∨d % 5=1∨(d % 5≠0∧d % 5≠1)) with hd0|hd1|⟨hd2,hd3⟩
 ·
  have c0:((d % 5:Nat):Int)=0:=by omega
  simp (maxSteps:=200000) -implicitDefEqProofs only [KK,eq_self,ne_eq,↓reduceIte,reduceLT,reduceEqDiff,reduceAdd,reduceLeDiff,reduceSub,reduceMul,reduceCtorEq,e5,e6,e7,e8,e25,e26,e27,hlt,a1,a2,hd,t5,wd,z5,c0,w8]
  refine slotI_ok (k:=k+10) (a:=asn+1) (by omega) i3 n3 hls fun h4 y4 i4 f4=>?_
  simp (maxSteps:=200000) -implicitDefEqProofs only [KK,eq_self,ne_eq,↓reduceIte,reduceLT,reduceEqDiff,reduceAdd,reduceLeDiff,reduceSub,reduceMul,reduceCtorEq,e5,e6,e7,e8,e25,e26,e27]
  refine beacon_ok (k:=k+8) (s:=1) (r:=1) (a:=asn+1) (by omega) (by omega) (by omega) fun h5 u5 k5 cu5 f5=>?_
  simp (maxSteps:=200000) -implicitDefEqProofs only [KK,eq_self,ne_eq,↓reduceIte,reduceLT,reduceEqDiff,reduceAdd,reduceLeDiff,reduceSub,reduceMul,reduceCtorEq]
  have n4:h1.n≤h4.n:=Nat.le_trans n3 f4.n
  refine again_ok (k:=k+2) (a:=asn+1) (i4.new f5 n4) (Nat.le_trans n4 f5.n) (by omega) k5 cu5 fun h6 y6 B6 w6 i6 f6=>?_
  simp (maxSteps:=200000) -implicitDefEqProofs only [KK,eq_self,ne_eq,↓reduceIte,reduceLT,reduceEqDiff,reduceAdd,reduceLeDiff,reduceSub,reduceMul,reduceCtorEq,e5,e6,e7,e8,e25,e26,e27,w4,rd_n]
  refine ⟨m-1,by omega,i+1,_,h6,x,y6,Q,_,_,B6,C,asn+1,last,rfl,by omega,by omega,i6,?_,f3.trans (f4.trans ((f5.mono fun _ _ e=>e.elim).trans f6)),rfl,rfl,rfl,rfl,rfl,rfl,rfl⟩
  obtain ⟨m1,m2,m3,m4,m5,m6⟩:=ns
  exact ⟨by omega,by omega,by omega,by omega,by omega,m6⟩
 ·
  have c0:¬((d % 5:Nat):Int)=0:=by omega
  have c1:((d % 5:Nat):Int)=1:=by omega
  have c1':¬((1:Int)=0):=by decide
  have w3:IntKind.wrap .i64 ((lo:Int)+1)=((lo+1:Nat):Int):=by rw [wrap_i64 (by omega)];omega
  simp (maxSteps:=200000) -implicitDefEqProofs only [KK,eq_self,ne_eq,↓reduceIte,reduceLT,reduceEqDiff,reduceAdd,reduceLeDiff,reduceSub,reduceMul,reduceCtorEq,e5,e6,e7,e8,e25,e26,e27,hlt,a1,a2,hd,t5,wd,z5,c1,c1']
  refine nreboot_ok (k:=k+7) i3.ok (by rw [i3.id];decide) n3 fun h4 u4 w4' ck qp up dn gt pm o4 f4=>?_
  have o4':OutT h1.n h4 p (node0 5 lo q u4 w4' 2 ck qp up dn gt pm) ⟨cutI y.off 1000000000000,0,0⟩ lo q xs 0 (fun _=>False) (fun j=>j=qp):=by
   rw [i3.id] at o4
   exact ⟨o4,rfl,rfl,rfl,rfl,rfl⟩
  have f4':Fm (fun j=>h1.n≤j) h3' h4:=f4.mono fun j _ e=>by rw [e];exact i3.ok.bp
  simp (maxSteps:=200000) -implicitDefEqProofs only [KK,eq_self,ne_eq,↓reduceIte,reduceLT,reduceEqDiff,reduceAdd,reduceLeDiff,reduceSub,reduceMul,reduceCtorEq,e5,e6,e7,e8,e25,e26,e27,CfgC,w3]
  refine loop_rd (callW_mono N _) (NuJ h1.n h4 nr hp lo q p xs v R i asn last) (n:=lo+1) ⟨0,_,h4,_,_,_,_,rfl,by omega,by omega,o4',Fm.refl _ _,rfl,rfl,rfl,rfl,rfl,rfl,rfl,rfl,rfl⟩ ?_
  rintro mm s ⟨j,l,h5,x5,y5,B5,C5,rfl,hj,hmm,o5,f5,e5,e6,e7,e8,e25,e26,e27,e79,e80⟩
  have n5:h1.n≤h5.n:=Nat.le_trans n3 (Nat.le_trans f4.n f5.n)
  by_cases hlt2:(j:Int)<((lo+1:Nat):Int)
  ·have w9:IntKind.wrap .i64 ((j:Int)+1)=((j+1:Nat):Int):=by rw [wrap_i64 (by omega)];omega
   have w10:IntKind.wrap .i64 (((asn+j:Nat):Int)+1)=((asn+(j+1):Nat):Int):=by rw [wrap_i64 (by omega)];omega
   simp (maxSteps:=200000) -implicitDefEqProofs only [KK,eq_self,ne_eq,↓reduceIte,reduceLT,reduceEqDiff,reduceAdd,reduceLeDiff,reduceSub,reduceMul,reduceCtorEq,e5,e6,e7,e8,e25,e26,e27,e79,e80,hlt2,w10]
   refine slotO_ok (k:=k+10) (a:=asn+(j+1)) (by omega) o5 n5 (by omega) fun h6 y6 o6 f6=>?_
   simp (maxSteps:=200000) -implicitDefEqProofs only [KK,eq_self,ne_eq,↓reduceIte,reduceLT,reduceEqDiff,reduceAdd,reduceLeDiff,reduceSub,reduceMul,reduceCtorEq,e5,e6,e7,e8,e25,e26,e27,e79,e80,w9,rd_n]
   exact ⟨mm-1,by omega,j+1,_,h6,_,y6,B5,C5,rfl,by omega,by omega,o6,f5.trans f6,rfl,rfl,rfl,rfl,rfl,rfl,rfl,rfl,rfl⟩
  ·have hj2:j=lo+1:=by omega
   simp (maxSteps:=200000) -implicitDefEqProofs only [KK,eq_self,ne_eq,↓reduceIte,reduceLT,reduceEqDiff,reduceAdd,reduceLeDiff,reduceSub,reduceMul,reduceCtorEq,e5,e6,e7,e8,e25,e26,e27,e79,e80,hlt2]
   refine beacon_ok (k:=k+8) (s:=1) (r:=1) (a:=asn+j) (by omega) (by omega) (by omega) fun h6 u6 k6 cu6 f6=>?_
   simp (maxSteps:=200000) -implicitDefEqProofs only [KK,eq_self,ne_eq,↓reduceIte,reduceLT,reduceEqDiff,reduceAdd,reduceLeDiff,reduceSub,reduceMul,reduceCtorEq]
   refine comes_ok (k:=k+2) (a:=asn+j) (o5.new f6 n5) (by omega) (Nat.le_trans n5 f6.n) (by omega) k6 cu6 fun h7 x7 y7 B7 w7 i7 l7 s7 f7=>?_
   simp (maxSteps:=200000) -implicitDefEqProofs only [KK,eq_self,ne_eq,↓reduceIte,reduceLT,reduceEqDiff,reduceAdd,reduceLeDiff,reduceSub,reduceMul,reduceCtorEq,e5,e6,e7,e8,e25,e26,e27,w4,rd_n]
   refine ⟨m-1,by omega,i+1,_,h7,x7,y7,[],_,_,B7,C5,asn+j,last,rfl,by omega,by omega,i7,?_,f3.trans (f4'.trans (f5.trans ((f6.mono fun _ _ e=>e.elim).trans f7))),rfl,rfl,rfl,rfl,rfl,rfl,rfl⟩
   obtain ⟨m1,m2,m3,m4,m5,m6⟩:=ns
   have hs7:x7.ls=j:=by rw [s7];exact o5.ls
   exact ⟨by omega,by omega,by omega,by omega,by simp,by omega⟩
 ·
  have c0:¬((d % 5:Nat):Int)=0:=by omega
  have c1:¬((d % 5:Nat):Int)=1:=by omega
  simp (maxSteps:=200000) -implicitDefEqProofs only [KK,eq_self,ne_eq,↓reduceIte,reduceLT,reduceEqDiff,reduceAdd,reduceLeDiff,reduceSub,reduceMul,reduceCtorEq,e5,e6,e7,e8,e25,e26,e27,hlt,a1,a2,hd,t5,wd,z5,c0,c1]
  refine unode_ok (k:=k+12) fun tt htt=>?_
  obtain ⟨h4,hh4⟩:∃ g,g=h3'.push (.rows true 1 0 0 [[.int .u8 7]]):=⟨_,rfl⟩
  have f4:Fn h3' h4:=by rw [hh4];exact Fm.push _ _ _
  have g4:h4.g h3'.n=some (.rows true 1 0 0 [[.int .u8 7]]):=by rw [hh4,g_push_eq]
  have s4:SL h4 1 (.sl h3'.n 0 0 1 (some 1)) (([7]:List Nat).map eB):=⟨true,0,0,_,g4,Nat.le_refl _,Nat.le_refl 1,rfl⟩
  have i4:=i3.new f4 n3
  have n4:h1.n≤h4.n:=Nat.le_trans n3 f4.n
  obtain ⟨q1',q2',q3',q4',q5',q6',q7'⟩:=i4.ok.eq
  simp (maxSteps:=200000) -implicitDefEqProofs only [KK,eq_self,ne_eq,↓reduceIte,reduceLT,reduceEqDiff,reduceAdd,reduceLeDiff,reduceSub,reduceMul,reduceCtorEq,chunks,hh4.symm]
  have hT:∀ (C':Nat→Prop) (h5:Hp) (x5:NodeX) (Q5:List (Int × List Nat)),NodeAt B C' h5 p x5 y Q5 []→(∀ j,C' j→C j∨h4.n≤j)→ParAt B h5 x5 2 [⟨1,1,t⟩] 6 since→cfgEq x x5→x5.id=x.id→x5.sy=x.sy→x5.ev=x.ev→Fm (fun j=>j=p∨C j) h4 h5→InT h1.n h5 p x5 y Q5 lo q xs t since B C':=by
   intro C' h5 x5 Q5 a5 c5 p5 ce ei es ee f5
   exact ⟨i4.ok.step a5 f5 (fun j e=>e.elim .inl (fun e=>.inr (.inr (.inr (.inl e))))) (fun j e=>.inl e) c5 ce n4,p5,ei.trans i4.id,es.trans i4.sy,ee.trans i4.ev⟩
  have hF:∀ h5,Fm (fun j=>j=p∨C j) h4 h5→Fm (fun j=>h1.n≤j) h2 h5:=fun h5 f5=>
   f3.trans ((f4.mono fun _ _ e=>e.elim).trans (f5.mono fun j _ e=>e.elim (fun e=>by rw [e];exact i4.ok.bp) (fun e=>i4.ok.bc j e)))
  refine nsend_ok (k:=k+7) (now:=(asn:Int)) (to:=(tt:Int)) (D:=[7]) (by omega) i4.ok.at_ i4.par i4.sy (by rw [q1'];decide) (by rw [i4.id];decide) (by rw [q7'];decide) (by have:=ns.l3;omega) (by rw [q6'];omega) (by have:=ns.q;omega) s4 (by simp) (by simp)
   (fun h5 e he hn ⟨C5,a5,c5⟩ p5 f5=>?_) (fun h5 hc ⟨C5,a5,c5⟩ p5 f5=>?_)
  ·have he2:¬e=0:=he
   simp (maxSteps:=200000) -implicitDefEqProofs only [KK,eq_self,ne_eq,↓reduceIte,reduceLT,reduceEqDiff,reduceAdd,reduceLeDiff,reduceSub,reduceMul,reduceCtorEq,e5,e6,e7,e8,e25,e26,e27,he2,w4,rd_n]
   have f5':Fm (fun j=>j=p∨C j) h4 h5:=f5.mono fun j _ e=>.inr e
   refine ⟨m-1,by omega,i+1,_,h5,x,y,Q,t,since,B,C5,asn,last,rfl,by omega,by omega,hT C5 h5 x Q a5 c5 p5 ⟨rfl,rfl,rfl,rfl,rfl,rfl,rfl,rfl,rfl,rfl⟩ rfl rfl rfl f5',?_,hF h5 f5',rfl,rfl,rfl,rfl,rfl,rfl,rfl⟩
   obtain ⟨m1,m2,m3,m4,m5,m6⟩:=ns
   exact ⟨by omega,by omega,m3,by omega,by omega,m6⟩
  ·obtain ⟨m1,m2,m3,m4,m5,m6⟩:=ns
   have hk1:¬nextN x asn≤last:=by unfold nextN;omega
   have wk:IntKind.wrap .i64 ((asn:Int) * 64)=(asn:Int) * 64:=wrap_i64 (by omega)
   have hk2:¬nextN x asn<(asn:Int) * 64:=by unfold nextN;omega
   simp (maxSteps:=200000) -implicitDefEqProofs only [KK,eq_self,ne_eq,↓reduceIte,reduceLT,reduceEqDiff,reduceAdd,reduceLeDiff,reduceSub,reduceMul,reduceCtorEq,e5,e6,e7,e8,e25,e26,e27,hk1,wk,hk2,w4,rd_n]
   refine ⟨m-1,by omega,i+1,_,h5,{x with last:=nextN x asn},y,_,t,since,B,C5,asn,nextN x asn,rfl,by omega,by omega,hT C5 h5 _ _ a5 c5 p5 ⟨rfl,rfl,rfl,rfl,rfl,rfl,rfl,rfl,rfl,rfl⟩ rfl rfl rfl f5,?_,hF h5 f5,rfl,rfl,rfl,rfl,rfl,rfl,rfl⟩
   have hnx : -1≤nextN x asn∧nextN x asn≤(asn:Int) * 64+(i+1:Nat):=by unfold nextN;omega
   exact ⟨by omega,hnx,.inl (Int.le_refl _),hnx,by rw [List.length_append,List.length_singleton];omega,m6⟩
end
end
section
theorem sl_take {h:Hp} {sz id n:Nat} {rows:List (List CV)} (e:h.obs[id]? = some (.rows false sz 0 0 rows)) (hn:n≤rows.length) (c:Option Nat):SL h sz (.sl id 0 0 n c) (rows.take n):=
 ⟨false,0,0,rows,e,Nat.le_refl _,by omega,by simp⟩
theorem wt_1 {hp:Hp} {s:List Sc} {cs:List CV} {b:Nat} (h:WT hp (.int .i64::s) cs b):∃ x cs' b',cs = .int .i64 x::cs'∧WT hp s cs' b':=by
 cases h with
 | int _ h=>exact ⟨_,_,_,rfl,h⟩
theorem wt_s {hp:Hp} {e:List Sc} {s:List Sc} {cs:List CV} {b:Nat} (h:WT hp (.sl e::s) cs b):∃ w cs' b',cs=w::cs'∧WT hp s cs' b':=by
 cases h with
 | nils h=>exact ⟨_,_,_,rfl,h⟩
 | sl g hn _ h=>exact ⟨_,_,_,rfl,h⟩
theorem wt_none {hp:Hp} {cs:List CV} {b:Nat} (h:WT hp [] cs b):cs=[]:=by cases h;rfl
def scR:List Sc:=[.int .i64,.int .i64,.int .i64,.int .i64,.int .i64,.int .i64,.int .i64,.int .i64,.sl [.int .i64,.int .i64,.int .i64,.int .i64,.sl [.int .i64]],.sl [.int .u8],.int .i64,.int .i64,.int .i64,.int .i64,.sl [.int .i64],.sl [.int .u8],.sl [.int .u8]]
theorem wtr_cr {hp:Hp} {rows:List (List CV)} {b:Nat} (h:WTR hp scR rows b):∃ C:List CR,rows=C.map encR:=by
 induction rows generalizing b with
 | nil=>exact ⟨[],rfl⟩
 | cons r rs ih=>
  cases h with
  | cons h1 h2=>
   obtain ⟨C,rfl⟩:=ih h2
   obtain ⟨a0,_,_,rfl,k0⟩:=wt_1 h1
   obtain ⟨a1,_,_,rfl,k1⟩:=wt_1 k0
   obtain ⟨a2,_,_,rfl,k2⟩:=wt_1 k1
   obtain ⟨a3,_,_,rfl,k3⟩:=wt_1 k2
   obtain ⟨a4,_,_,rfl,k4⟩:=wt_1 k3
   obtain ⟨a5,_,_,rfl,k5⟩:=wt_1 k4
   obtain ⟨a6,_,_,rfl,k6⟩:=wt_1 k5
   obtain ⟨a7,_,_,rfl,k7⟩:=wt_1 k6
   obtain ⟨ie,_,_,rfl,k8⟩:=wt_s k7
   obtain ⟨dat,_,_,rfl,k9⟩:=wt_s k8
   obtain ⟨b0,_,_,rfl,k10⟩:=wt_1 k9
   obtain ⟨b1,_,_,rfl,k11⟩:=wt_1 k10
   obtain ⟨b2,_,_,rfl,k12⟩:=wt_1 k11
   obtain ⟨b3,_,_,rfl,k13⟩:=wt_1 k12
   obtain ⟨pa,_,_,rfl,k14⟩:=wt_s k13
   obtain ⟨pd,_,_,rfl,k15⟩:=wt_s k14
   obtain ⟨bb,_,_,rfl,k16⟩:=wt_s k15
   cases wt_none k16
   exact ⟨⟨a0,a1,a2,a3,a4,a5,a6,a7,ie,dat,b0,b1,b2,b3,pa,pd,bb⟩::C,rfl⟩
theorem wt_cr {hp:Hp} {w:CV} {b:Nat} (h:WT hp [.sl scR] [w] b):∃ C:List CR,SL hp 17 w (C.map encR):=by
 cases h with
 | nils h=>exact ⟨[],rfl⟩
 | sl g hn hr h=>
  rename_i id n c rows b'
  obtain ⟨C,rfl⟩:=wtr_cr hr
  refine ⟨C.take n,?_⟩
  rw [List.map_take]
  exact sl_take g hn _
end
end Camp
