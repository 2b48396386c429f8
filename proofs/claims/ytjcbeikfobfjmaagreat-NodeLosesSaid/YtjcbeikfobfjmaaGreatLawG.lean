/- A node in time sends. A node: slots, its config, a node that begins, that comes in time, that begins anew. A node begins anew; a node in time, by node 1. A node that joined. Packets out of bytes. A node: a packet leaves, is dropped. A node in time: the end of a slot. The law of who loses the time. The law of who loses the time: the walk. Rows of what was heard, as arguments. -/
import Derived.Test.YtjcbeikfobfjmaaGreatLawF
import Derived.Test.YtjcbeikfobfjmaaGreatEngF
set_option linter.unnecessarySimpa false
set_option linter.unusedVariables false
set_option linter.unusedSimpArgs false
set_option linter.unusedSectionVars false
namespace Camp
open Go
open Nat (reduceLT reduceEqDiff reduceAdd reduceLeDiff reduceSub reduceMul)
section
set_option maxHeartbeats 8000000
def nextN (x:NodeX) (now:Int):Int:=max (x.last+1) (now * 64)
structure SendC (x:NodeX) (L:List Pr) (Q:List (Int × List Nat)) (now to:Int) (D:List Nat):Prop where
 hto:0≤to∧to≤x.n-1
 me:to≠x.id
 len:1≤D.length∧D.length≤24
 first:firstL L≠64
 num:nextN x now≤70368744177663
 room:(Q.length:Int)<x.qu
def sendP (x:NodeX) (now to:Int) (D:List Nat):Pk:=⟨x.id.toNat,to.toNat,(nextN x now).toNat,x.li.toNat,[x.id.toNat],D⟩
section
variable {k:Nat} {h:Hp} {P:AV→Hp→Prop} {B C:Nat→Prop} {p:Nat} {x:NodeX} {y:ClkX} {Q:List (Int × List Nat)} {E:List (List CV)}
theorem NodeAt.queS {h':Hp} {Q':List (Int × List Nat)} (k:NodeAt B C h p x y Q E) (f:Fm C h h') (hq:QM (fun j=>C j∨h.n≤j) h' x.qp x.qu Q'):NodeAt B (Bx C h h') h' p x y Q' E:=by
 have hpl:=k.node.lt
 have hcl:=lt_of_g k.clk
 have hn:=f.n
 have hq':QM (Bx C h h') h' x.qp x.qu Q':=by
  obtain ⟨lost,v,vs,g1,g2,g3,g4,g5,g6,g7,g8⟩:=hq
  have lt:∀ {sz:Nat} {v:CV} {rows:List (List CV)},SL h' sz v rows→∀ j,ownId v j→j<h'.n:=by
   intro sz v rows k j hj
   cases v <;> simp only [ownId] at hj
   subst hj
   exact k.lt _ _ _ _ _ rfl
  exact ⟨lost,v,vs,g1,g2,g3,g4,g5,g6.imp id (fun e=>⟨e,lt_of_g g1⟩),fun j hj=>(g7 j hj).imp id (fun e=>⟨e,g4.lt hj⟩),fun x hx j hj=>(g8 x hx j hj).imp id (fun e=>⟨e,lt (g5 x hx) j hj⟩)⟩
 refine ⟨k.node.keep f k.pc,f.some k.clk k.cc,k.ok,hq',k.ev.mono f (fun j hj=>(k.eb j hj).2),fun j hj=>Nat.lt_of_lt_of_le (k.bl j hj) f.n,?_,?_,k.pb,?_,k.cb,?_,?_⟩
 ·rintro j (hj|hj)
  ·have:=k.cl j hj;omega
  ·exact hj.2
 ·rintro j hj (e|e)
  ·exact k.bc j hj e
  ·have:=k.bl j hj;omega
 ·rintro (e|e)
  ·exact k.pc e
  ·omega
 ·rintro (e|e)
  ·exact k.cc e
  ·omega
 ·intro j hj
  refine ⟨(k.eb j hj).1,?_⟩
  rintro (e|e)
  ·exact (k.eb j hj).2 e
  ·have:=ow_lt k.ev j hj;omega
theorem nsend_ok {rank ke since now to:Int} {L:List Pr} {d:CV} {D:List Nat} (ha:0≤now∧now<1099511627776) (hx:NodeAt B C h p x y Q []) (hp:ParAt B h x rank L ke since) (hsy:x.sy=true)
 (hn:0≤x.n∧x.n≤16) (hid:0<x.id∧x.id≤15) (hli:0≤x.li∧x.li≤15) (hla : -1≤x.last∧x.last≤70368744177663) (hqu:x.qu≤1000) (hQ:Q.length≤1000)
 (hd:SL h 1 d (D.map eB)) (hD:∀ c∈D,c<256) (hl:D.length≤1000000)
 (hE:∀ h' (e:Int),e≠0→¬SendC x L Q now to D→(∃ C',NodeAt B C' h' p x y Q []∧∀ j,C' j→C j∨h.n≤j)→ParAt B h' x rank L ke since→Fm C h h'→P (.tup [.c (.int .i64 0),.c (.int .i64 e)]) h')
 (hO:∀ h',SendC x L Q now to D→(∃ C',NodeAt B C' h' p {x with last:=nextN x now} y (Q++[(64,rB (sendP x now to D))]) []∧∀ j,C' j→C j∨h.n≤j)→ParAt B h' {x with last:=nextN x now} rank L ke since→Fm (fun j=>j=p∨C j) h h'→
  P (.tup [.c (.int .i64 (nextN x now)),.c (.int .i64 0)]) h') :
 callW N (k+6) 261 [.c (.ptr p 0 0 0),.c (.int .i64 now),.c (.int .i64 to),.c d] h P:=by
 have e1:decide (0≤now∧now<1099511627776)=true:=by simp;omega
 have hlen:=hd.lm
 have hx':=hx.node
 unfold NdR NodeX.row at hx'
 rw [hsy] at hx'
 have hpl:=hx.node.lt
 have stay:∀ (e:Int),e≠0→¬SendC x L Q now to D→∀ h',Fn h h'→P (.tup [.c (.int .i64 0),.c (.int .i64 e)]) h':=fun e he hn h' f=>
  hE h' e he hn ⟨C,hx.new f,fun j hj=>.inl hj⟩ (hp.keep f (fun _ _ e=>e) rfl rfl rfl) (f.mono fun _ _ e=>e.elim)
 refine ci rfl ?_
 simp only [KK,↓reduceIte,reduceLT,reduceEqDiff,reduceAdd,reduceCtorEq]
 refine nasn_ok (k:=k+4) ?_
 simp only [KK,↓reduceIte,reduceLT,reduceEqDiff,reduceCtorEq,e1]
 refine nhas_ok (k:=k+3) hx.node (by omega) ?_
 by_cases h1:0≤to∧to≤x.n-1
 case neg=>
  have e2:decide (0≤to∧to≤x.n-1)=false:=by simp only [h1,decide_false]
  simp only [KK,↓reduceIte,reduceLT,reduceEqDiff,reduceCtorEq,e2]
  exact stay 1 (by decide) (fun c=>h1 c.hto) h (Fm.refl _ _)
 have e2:decide (0≤to∧to≤x.n-1)=true:=by simp only [h1,decide_true,and_self]
 by_cases h2:to=x.id
 ·have e3:decide (to=x.id)=true:=by simp [h2]
  simp only [KK,↓reduceIte,reduceLT,reduceEqDiff,reduceCtorEq,e2,hx',e3]
  exact stay 1 (by decide) (fun c=>c.me h2) h (Fm.refl _ _)
 simp only [KK,↓reduceIte,reduceLT,reduceEqDiff,reduceCtorEq,e2,hx',h2,hlen]
 refine nin_ok (k:=k+4) ?_
 by_cases h3:1≤D.length∧D.length≤24
 case neg=>
  have e4:decide ((1:Int)≤(D.length:Int)∧(D.length:Int)≤24)=false:=by simp;omega
  simp only [KK,↓reduceIte,reduceLT,reduceEqDiff,reduceCtorEq,e4]
  exact stay 1 (by decide) (fun c=>h3 c.len) h (Fm.refl _ _)
 have e4:decide ((1:Int)≤(D.length:Int)∧(D.length:Int)≤24)=true:=by simp;omega
 have hid0:¬x.id=0:=by omega
 simp only [KK,↓reduceIte,reduceLT,reduceEqDiff,reduceCtorEq,e4,hx',hid0]
 refine pfirst_ok (k:=k+3) hx hp ?_
 by_cases h4:firstL L=64
 ·have e5:decide (firstL L=64)=true:=by simp [h4]
  simp only [KK,↓reduceIte,reduceLT,reduceEqDiff,reduceCtorEq,e5]
  exact stay 7 (by decide) (fun c=>c.first h4) h (Fm.refl _ _)
 obtain ⟨g1,hh1⟩:=nm (h.reserve 2)
 have f1:Fn h g1:=by rw [hh1];exact Fm.reserve _ _ _
 have d0:g1.g h.n=some .dead:=by rw [hh1,g_reserve,if_pos (by omega)]
 have d1:g1.g (h.n+1)=some .dead:=by rw [hh1,g_reserve,if_pos (by omega)]
 have x1':=f1.some hx' (fun e=>e)
 obtain ⟨g2,hh2⟩:=nm (g1.put h.n (.rows true 1 0 0 [[.int .i64 x.id]]))
 have d2:g2.g (h.n+1)=some .dead:=by rw [hh2,g_put_ne _ _ (by omega)];exact d1
 obtain ⟨g3,hh3⟩:=nm (g2.put (h.n+1) (.rows true 6 0 0 [[.int .i64 0,.int .i64 0,.int .i64 0,.int .i64 0,.nils,.nils]]))
 have u3:g3.g (h.n+1)=some (.rows true 6 0 0 [[.int .i64 0,.int .i64 0,.int .i64 0,.int .i64 0,.nils,.nils]]):=by rw [hh3,g_put_eq,d2];rfl
 have w1:IntKind.wrap .i64 (x.last+1)=x.last+1:=wrap_i64 (by omega)
 have w2:IntKind.wrap .i64 (now * 64)=now * 64:=wrap_i64 (by omega)
 have m1:max (x.last+1) (now * 64)=nextN x now:=rfl
 obtain ⟨g4,hh4⟩:=nm (g3.put (h.n+1) (.rows true 6 0 0 [[.int .i64 x.id,.int .i64 to,.int .i64 (nextN x now),.int .i64 x.li,.sl h.n 0 0 1 (some 1),d]]))
 have u4:g4.g (h.n+1)=some (.rows true 6 0 0 [[.int .i64 x.id,.int .i64 to,.int .i64 (nextN x now),.int .i64 x.li,.sl h.n 0 0 1 (some 1),d]]):=by rw [hh4,g_put_eq,u3];rfl
 have v4:g4.g h.n=some (.rows true 1 0 0 [[.int .i64 x.id]]):=by rw [hh4,g_put_ne _ _ (by omega),hh3,g_put_ne _ _ (by omega),hh2,g_put_eq,d0];rfl
 have f14:Fm (fun j=>h.n≤j) g1 g4:=by
  rw [hh4,hh3,hh2]
  exact ((Fm.put (S:=fun j=>h.n≤j) _ _ (Nat.le_refl _)).trans (Fm.put (S:=fun j=>h.n≤j) _ _ (by show h.n≤h.n+1;omega))).trans (Fm.put (S:=fun j=>h.n≤j) _ _ (by show h.n≤h.n+1;omega))
 have F4:Fn h g4:=(Fm.refl _ _).fresh ((f1.mono (fun _ _ e=>e.elim)).trans f14) (fun j e=>e)
 have x4':=F4.some hx' (fun e=>e)
 have i1:((x.id.toNat:Nat):Int)=x.id:=Int.toNat_of_nonneg (by omega)
 have i2:((to.toNat:Nat):Int)=to:=Int.toNat_of_nonneg h1.1
 have hnn:0≤nextN x now:=by unfold nextN;omega
 have i3:(((nextN x now).toNat:Nat):Int)=nextN x now:=Int.toNat_of_nonneg hnn
 have i4:((x.li.toNat:Nat):Int)=x.li:=Int.toNat_of_nonneg hli.1
 have hrow:(sendP x now to D).row (.sl h.n 0 0 1 (some 1)) d=[.int .i64 x.id,.int .i64 to,.int .i64 (nextN x now),.int .i64 x.li,.sl h.n 0 0 1 (some 1),d]:=by
  unfold Pk.row sendP
  simp only [i1,i2,i3,i4]
 have hm:PkM g4 (sendP x now to D) (.sl h.n 0 0 1 (some 1)) d:=⟨⟨true,0,0,_,v4,Nat.le_refl _,Nat.le_refl 1,by simp [sendP,eN,i1]⟩,by rintro id tok off len c ⟨⟩;omega,hd.new F4,hD⟩
 simp only [KK,↓reduceIte,reduceLT,reduceEqDiff,reduceAdd,reduceLeDiff,reduceCtorEq,h4,hh1.symm,x1',d0,w1,w2,m1,hh2.symm,d2,hh3.symm,u3,hh4.symm,x4',u4,hid0]
 rw [←hrow]
 have pok:nextN x now≤70368744177663→(sendP x now to D).ok:=fun hN=>by
  refine ⟨by show x.id.toNat<16;omega,by show to.toNat<16;omega,by show x.id.toNat≠to.toNat;omega,by show (nextN x now).toNat≤_;omega,by show x.li.toNat≤15;omega,⟨?_,?_,?_⟩,h3.1,h3.2⟩
  ·intro z hz
   have:z=x.id.toNat:=by simpa [sendP] using hz
   omega
  ·simp [sendP]
  ·simp [sendP]
 refine rencP_ok (k:=k) hm ⟨by simp [sendP],hl⟩ (fun h5 ub hok k5 p5 f5=>?_) (fun hnok=>?_)
 case refine_2=>
  have hN:¬nextN x now≤70368744177663:=fun e=>hnok (pok e)
  have cN:(70368744177663:Int)<nextN x now:=by omega
  simp only [KK,↓reduceIte,reduceLT,reduceEqDiff,reduceCtorEq,u4,cN]
  exact stay 5 (by decide) (fun c=>hN c.num) g4 F4
 have u5:=f5.some u4 (fun e=>e)
 have x5':=f5.some x4' (fun e=>e)
 have F5:=F4.trans f5
 have hN:nextN x now≤70368744177663:=by have:=hok.2.2.2.1;simp only [sendP] at this;omega
 have cN:¬(70368744177663:Int)<nextN x now:=by omega
 have z0:¬((0:Int)≠0):=by decide
 simp only [KK,↓reduceIte,reduceLT,reduceEqDiff,reduceCtorEq,u5,cN,x5']
 have hx5:=hx.new F5
 have hp5:=hp.keep (x':=x) F5 (fun _ _ e=>e) rfl rfl rfl
 have hBl:(rB (sendP x now to D)).length≤1000:=by rw [rB_len];simp only [sendP,List.length_singleton];omega
 refine qput_ok (k:=k+3) (to:=64) hx5.que k5 (by simp [rB]) hBl hQ fun h6 q6 f6=>?_
 have hx6:=hx5.queS f6 q6
 have hp6:=hp5.keep (x':=x) f6 (fun j hj e=>hx.bc j hj e) rfl rfl rfl
 have n5:=F5.n
 have n6:=f6.n
 have cx:∀ j,Bx C h5 h6 j→C j∨h.n≤j:=fun j hj=>hj.imp id (fun e=>by omega)
 have F6:Fm C h h6:=(F5.mono (fun _ _ e=>e.elim)).trans f6
 by_cases hroom:(Q.length:Int)<x.qu
 case neg=>
  have e6:decide ((Q.length:Int)<x.qu)=false:=by simp only [hroom,decide_false]
  rw [if_neg hroom] at hx6
  simp only [KK,↓reduceIte,reduceLT,reduceEqDiff,reduceCtorEq,e6]
  exact hE h6 5 (by decide) (fun c=>hroom c.room) ⟨_,hx6,cx⟩ hp6 F6
 have e6:decide ((Q.length:Int)<x.qu)=true:=by simp only [hroom,decide_true]
 rw [if_pos hroom] at hx6
 have hc1:¬C (h.n+1):=fun e=>by have:=hx.cl _ e;omega
 have u6:=f6.some u5 hc1
 have x6':=f6.some x5' hx.pc
 obtain ⟨h7,hh7⟩:∃ g,g=h6.put p (.rows true 32 0 0 [NodeX.row {x with sy:=true,last:=nextN x now}]):=⟨_,rfl⟩
 have f7:Fm (fun j=>j=p) h6 h7:=by rw [hh7];exact Fm.put (S:=fun j=>j=p) _ _ rfl
 have fd7:=hh7.symm
 unfold NodeX.row at fd7
 have u7:=f7.some u6 (show ¬h.n+1=p by omega)
 simp only [KK,↓reduceIte,reduceLT,reduceEqDiff,reduceAdd,reduceLeDiff,reduceCtorEq,e6,u6,x6',fd7,u7]
 have hx7:NodeAt B (Bx C h5 h6) h7 p {x with last:=nextN x now} y (Q++[(64,rB (sendP x now to D))]) []:=by
  refine ⟨?_,f7.some hx6.clk (fun e=>hx6.ne e.symm),hx6.ok,hx6.que.keep f7 (fun j hj _ e=>hx6.pc (by rw [←e];exact hj)),hx6.ev.mono f7 (fun j hj e=>hx6.pe (by rw [←e];exact hj)),fun j hj=>Nat.lt_of_lt_of_le (hx6.bl j hj) f7.n,fun j hj=>Nat.lt_of_lt_of_le (hx6.cl j hj) f7.n,hx6.bc,hx6.pb,hx6.pc,hx6.cb,hx6.cc,hx6.eb⟩
  unfold NdR
  rw [hh7,g_put_eq,x6',←hsy]
  rfl
 refine hO h7 ⟨h1,h2,h3,h4,hN,hroom⟩ ⟨_,hx7,cx⟩ (hp6.keep f7 (fun j hj e=>hx.pb (by rw [←e];exact hj)) rfl rfl rfl) ?_
 exact (F6.mono fun j _ e=>.inr e).trans (f7.mono fun j _ e=>.inl e)
end
end
section
set_option maxHeartbeats 8000000
structure NodeOk (base:Nat) (B C:Nat→Prop) (h:Hp) (p:Nat) (x:NodeX) (y:ClkX) (Q:List (Int × List Nat)) (E:List (List CV)) (n lo q:Nat) (xs:List Nat):Prop where
 at_:NodeAt B C h p x y Q E
 cfg:CfgM h x.nr x.hp n lo q xs
 cd:∀ j,ownId x.nr j∨ownId x.hp j→¬B j∧¬C j
 eq:x.n=n∧x.gu=300∧x.er=1∧x.ke=6∧x.lo=lo∧x.qu=q∧x.li=6
 bp:base≤p
 bk:base≤x.ck
 bb:∀ j,B j→base≤j
 bc:∀ j,C j→base≤j
def cfgEq (x x':NodeX):Prop:=x'.nr=x.nr∧x'.hp=x.hp∧x'.n=x.n∧x'.gu=x.gu∧x'.er=x.er∧x'.ke=x.ke∧x'.lo=x.lo∧x'.qu=x.qu∧x'.li=x.li∧x'.ck=x.ck
theorem SL.qne {h:Hp} {sz q:Nat} {v:CV} {rows:List (List CV)} {o:AO} (w:SL h sz v rows) (g:h.g q=some o) (hn:∀ wr cur lw rs,o≠.rows wr sz cur lw rs):¬ownId v q:=by
 intro hj
 cases v <;> simp only [ownId] at hj
 subst hj
 obtain ⟨_,_,lw2,rs2,e2,_⟩:=w
 rw [g] at e2
 injection e2 with e2
 exact hn _ _ _ _ e2
theorem sl_lt {h:Hp} {sz:Nat} {v:CV} {rows:List (List CV)} (k:SL h sz v rows):∀ j,ownId v j→j<h.n:=by
 intro j hj
 cases v <;> simp only [ownId] at hj
 subst hj
 exact k.lt _ _ _ _ _ rfl
theorem NodeOk.step {base:Nat} {B C B' C' T:Nat→Prop} {h h':Hp} {p:Nat} {x x':NodeX} {y y':ClkX} {Q Q':List (Int × List Nat)} {E E':List (List CV)} {n lo q:Nat} {xs:List Nat} (k:NodeOk base B C h p x y Q E n lo q xs)
 (a:NodeAt B' C' h' p x' y' Q' E') (f:Fm T h h') (hT:∀ j,T j→j=p∨j=x.ck∨B j∨C j∨ownId x.ev j) (b':∀ j,B' j→B j∨h.n≤j) (c':∀ j,C' j→C j∨h.n≤j) (e:cfgEq x x') (hb:base≤h.n):NodeOk base B' C' h' p x' y' Q' E' n lo q xs:=by
 obtain ⟨e1,e2,e3,e4,e5,e6,e7,e8,e9,e10⟩:=e
 have nT:∀ j,ownId x.nr j∨ownId x.hp j→¬T j:=by
  intro j hj ht
  rcases hT j ht with e|e|e|e|e
  ·subst e
   rcases hj with hj|hj
   ·exact k.cfg.near.qne k.at_.node (by intro _ _ _ _ e;simp at e) hj
   ·exact k.cfg.hops.qne k.at_.node (by intro _ _ _ _ e;simp at e) hj
  ·subst e
   rcases hj with hj|hj
   ·exact k.cfg.near.qne k.at_.clk (by intro _ _ _ _ e;simp at e) hj
   ·exact k.cfg.hops.qne k.at_.clk (by intro _ _ _ _ e;simp at e) hj
  ·exact (k.cd j hj).1 e
  ·exact (k.cd j hj).2 e
  ·rcases hj with hj|hj
   ·exact sl_ne k.cfg.near k.at_.ev (by decide) j hj e
   ·exact sl_ne k.cfg.hops k.at_.ev (by decide) j hj e
 have lt:∀ j,ownId x.nr j∨ownId x.hp j→j<h.n:=fun j hj=>hj.elim (sl_lt k.cfg.near j) (sl_lt k.cfg.hops j)
 refine ⟨a,by rw [e1,e2];exact k.cfg.off f (fun j hj=>nT j (.inl hj)) (fun j hj=>nT j (.inr hj)),?_,by rw [e3,e4,e5,e6,e7,e8,e9];exact k.eq,k.bp,by rw [e10];exact k.bk,?_,?_⟩
 ·rw [e1,e2]
  intro j hj
  refine ⟨fun hb'=>(b' j hb').elim (k.cd j hj).1 (fun e=>by have:=lt j hj;omega),fun hc'=>(c' j hc').elim (k.cd j hj).2 (fun e=>by have:=lt j hj;omega)⟩
 ·intro j hj
  exact (b' j hj).elim (k.bb j) (fun e=>by omega)
 ·intro j hj
  exact (c' j hj).elim (k.bc j) (fun e=>by omega)
theorem NodeOk.fm {base:Nat} {B C T:Nat→Prop} {h h':Hp} {p:Nat} {x:NodeX} {y:ClkX} {Q:List (Int × List Nat)} {n lo q:Nat} {xs:List Nat} (k:NodeOk base B C h p x y Q [] n lo q xs) (hev:x.ev = .nils)
 (f:Fm T h h') (hT:∀ j,T j→j=p∨j=x.ck∨B j∨C j):Fm (fun j=>base≤j) h h':=f.mono fun j _ e=>by
 rcases hT j e with e|e|e|e
 ·rw [e];exact k.bp
 ·rw [e];exact k.bk
 ·exact k.bb j e
 ·exact k.bc j e
section
variable {k:Nat} {h:Hp} {P:AV→Hp→Prop} {B C:Nat→Prop} {p:Nat} {x:NodeX} {y:ClkX} {Q:List (Int × List Nat)} {E:List (List CV)}
theorem slotA_ok {a ppm:Int} (ha:0≤a∧a<1099511627776) (hx:NodeAt B C h p x y Q E) (hid:x.id≠0) (hl:0≤x.ls∧x.ls≤1000000000)
 (hP:∀ h',NodeAt B C h' p (if x.sy then x else {x with ls:=x.ls+1}) (y.slot ppm) Q E→Fm (fun j=>j=p∨j=x.ck) h h'→P (.tup []) h') :
 callW N (k+3) 341 [.c (.ptr p 0 0 0),.c (.int .i64 a),.c (.int .i64 ppm)] h P:=by
 refine nslot_ok ha hx.node hid hl hx.clk hx.ok fun h1 x1 c1 f1=>hP h1 ?_ f1
 have hE:∀ j,ownId x.ev j→¬(j=p∨j=x.ck):=fun j hj e=>e.elim (fun e=>hx.pe (by rw [←e];exact hj)) (fun e=>hx.ce (by rw [←e];exact hj))
 have hq:=hx.que.keep f1 (fun j hj _ e=>e.elim (fun e=>hx.pc (by rw [←e];exact hj)) (fun e=>hx.cc (by rw [←e];exact hj)))
 have he:=hx.ev.mono f1 hE
 cases hsy:x.sy with
 | true=>
  rw [hsy,if_pos rfl] at x1
  rw [if_pos rfl]
  exact ⟨x1,c1,hx.ok.slot ppm,hq,he,fun j hj=>Nat.lt_of_lt_of_le (hx.bl j hj) f1.n,fun j hj=>Nat.lt_of_lt_of_le (hx.cl j hj) f1.n,hx.bc,hx.pb,hx.pc,hx.cb,hx.cc,hx.eb⟩
 | false=>
  rw [hsy,if_neg (by decide)] at x1
  rw [if_neg (by decide)]
  exact ⟨x1,c1,hx.ok.slot ppm,hq,he,fun j hj=>Nat.lt_of_lt_of_le (hx.bl j hj) f1.n,fun j hj=>Nat.lt_of_lt_of_le (hx.cl j hj) f1.n,hx.bc,hx.pb,hx.pc,hx.cb,hx.cc,hx.eb⟩
theorem New0.ok {base n lo q ck qp up dn gt pm m1 m2 m3:Nat} {xs:List Nat} {u w:CV} {id:Int} (k:New0 base h n lo q xs u w ck qp up dn gt pm m1 m2 m3) (hx:NdR h p (node0 n lo q u w id ck qp up dn gt pm)) (hp:base≤p) :
 NodeOk base (fun _=>False) (fun j=>j=qp) h p (node0 n lo q u w id ck qp up dn gt pm) ⟨0,0,0⟩ [] [] n lo q xs:=by
 have hq:QM (fun j=>j=qp) h qp (q:Int) []:=⟨0,.nils,[],k.gqp,by omega,rfl,rfl,by simp,rfl,fun j e=>e.elim,by simp⟩
 have b:=k.b
 refine ⟨⟨hx,k.gck,⟨by simp,by simp,by simp⟩,hq,rfl,fun j e=>e.elim,?_,fun j e=>e.elim,fun e=>e,?_,fun e=>e,?_,fun j e=>e.elim⟩,k.cfg,?_,⟨rfl,rfl,rfl,rfl,rfl,rfl,rfl⟩,hp,b.1,fun j e=>e.elim,?_⟩
 ·rintro j rfl;exact lt_of_g k.gqp
 ·exact ne_of_g hx k.gqp (by unfold NodeX.row;simp)
 ·exact ne_of_g k.gck k.gqp (by simp)
 ·intro j hj
  refine ⟨fun e=>e,?_⟩
  rintro rfl
  rcases hj with hj|hj
  ·exact k.cfg.near.qne k.gqp (by intro _ _ _ _ e;simp at e) hj
  ·exact k.cfg.hops.qne k.gqp (by intro _ _ _ _ e;simp at e) hj
 ·rintro j rfl;exact b.2.1
theorem NodeAt.adopt {h':Hp} {s kc:Nat} {v:CV} {rank t ke:Int} {L:List Pr} (k:NodeAt B C h p x y Q []) (hev:x.ev = .nils) (hx:NdR h' p {x with sy:=true,pp:=.ptr s 0 0 0,kp:=.ptr kc 0 0 0}) (hc:ClkAt h' x.ck (y.move t)) (hk:KepAt h' kc ke 0)
 (hs:PS h' s x.id rank v L) (b1:h.n≤s) (b2:h.n≤kc) (b3:∀ j,ownId v j→h.n≤j) (f:Fm (fun j=>j=p∨j=x.ck) h h') (iv:Ivt x.id rank L) (rk:0≤rank∧rank≤255) :
 ∃ B',NodeAt B' C h' p {x with sy:=true,pp:=.ptr s 0 0 0,kp:=.ptr kc 0 0 0} (y.move t) Q []∧ParAt B' h' {x with sy:=true,pp:=.ptr s 0 0 0,kp:=.ptr kc 0 0 0} rank L ke 0∧∀ j,B' j→h.n≤j:=by
 have hB:∀ j,(j=s∨j=kc∨ownId v j)→h.n≤j:=by
  rintro j (e|e|e)
  ·omega
  ·omega
  ·exact b3 j e
 have hpl:=k.node.lt
 have hcl:=lt_of_g k.clk
 refine ⟨fun j=>j=s∨j=kc∨ownId v j,⟨hx,hc,k.ok.move t,k.que.keep f (fun j hj _ e=>e.elim (fun e=>k.pc (by rw [←e];exact hj)) (fun e=>k.cc (by rw [←e];exact hj))),?_,?_,fun j hj=>Nat.lt_of_lt_of_le (k.cl j hj) f.n,?_,?_,k.pc,?_,k.cc,?_⟩,⟨⟨s,kc,v,rfl,rfl,hs,hk,.inl rfl,.inr (.inl rfl),fun j hj=>.inr (.inr hj)⟩,iv,rk,by omega⟩,hB⟩
 ·show Ow h' 10 x.ev []
  rw [hev];rfl
 ·rintro j (e|e|e)
  ·rw [e];exact lt_of_g hs.1
  ·rw [e];exact lt_of_g hk
  ·exact hs.2.1.lt e
 ·intro j hj e
  have h1:=hB j hj
  have h2:=k.cl j e
  omega
 ·intro e
  have:=hB p e
  omega
 ·intro e
  have:h.n≤x.ck:=hB x.ck e
  omega
 ·intro j hj
  have hj:ownId x.ev j:=hj
  rw [hev] at hj
  exact hj.elim
end
end
section
set_option maxHeartbeats 8000000
theorem New0.keep {base n lo q ck qp up dn gt pm m1 m2 m3:Nat} {xs:List Nat} {u w:CV} {T:Nat→Prop} {h h':Hp} (k:New0 base h n lo q xs u w ck qp up dn gt pm m1 m2 m3) (f:Fm T h h') (hT:∀ j,base≤j→¬T j):New0 base h' n lo q xs u w ck qp up dn gt pm m1 m2 m3:=by
 have b:=k.b
 exact ⟨k.cfg.off f (fun j hj=>hT j (k.ou j hj)) (fun j hj=>hT j (k.ow j hj)),k.ou,k.ow,f.some k.gck (hT _ (by omega)),f.some k.gqp (hT _ (by omega)),⟨f.some k.gup.1 (hT _ (by omega)),f.some k.gup.2 (hT _ (by omega))⟩,
  ⟨f.some k.gdn.1 (hT _ (by omega)),f.some k.gdn.2 (hT _ (by omega))⟩,⟨f.some k.ggt.1 (hT _ (by omega)),f.some k.ggt.2 (hT _ (by omega))⟩,f.some k.gpm (hT _ (by omega)),k.b,k.d1,k.d2⟩
section
variable {k:Nat} {h:Hp} {P:AV→Hp→Prop} {B C:Nat→Prop} {p:Nat} {x:NodeX} {y:ClkX} {Q:List (Int × List Nat)} {E:List (List CV)}
structure InT (base:Nat) (h:Hp) (p:Nat) (x:NodeX) (y:ClkX) (Q:List (Int × List Nat)) (lo q:Nat) (xs:List Nat) (t since:Int) (B C:Nat→Prop):Prop where
 ok:NodeOk base B C h p x y Q [] 5 lo q xs
 par:ParAt B h x 2 [⟨1,1,t⟩] 6 since
 id:x.id=2
 sy:x.sy=true
 ev:x.ev = .nils
structure OutT (base:Nat) (h:Hp) (p:Nat) (x:NodeX) (y:ClkX) (lo q:Nat) (xs:List Nat) (i:Nat) (B C:Nat→Prop):Prop where
 ok:NodeOk base B C h p x y [] [] 5 lo q xs
 id:x.id=2
 sy:x.sy=false
 ev:x.ev = .nils
 ls:x.ls=i
 last:x.last = -1
theorem hearC_1 {a:Nat} (hn:x.n=5) (hid:x.id=2) (ha:a<1099511627776):hearC x (apx (yF 3 1 64 0 a 1)) (a:Int)=some ⟨3,1,64,0,[.sync a 1],[]⟩:=by
 unfold hearC
 rw [decF_y (q:=0) (a:=a) (r:=1) ⟨by omega,.inl ⟨rfl,rfl⟩⟩ ha,Option.bind_some,if_pos]
 exact ⟨⟨by show (0:Int)≤1;decide,by show (1:Int)≤x.n-1;omega⟩,by show (1:Int)≠x.id;omega,by rw [rankD_y];simp⟩
theorem hearS_1 {t now:Int} (hnow:0≤now):hearS 2 2 [⟨1,1,t⟩] 1 1 now=(2,[⟨1,1,now⟩],true):=by
 have hm:mayP 2 1 1 now:=⟨by omega,by omega,by omega,by omega⟩
 unfold hearS
 rw [if_pos hm,if_neg (by omega)]
 have:hearL 2 [⟨1,1,t⟩] ⟨1,1,now⟩=[⟨1,1,now⟩]:=by
  unfold hearL insP keepN
  simp [List.filter_cons]
 rw [this]
 simp [rankOf]
theorem comes_ok {base lo q i:Nat} {xs:List Nat} {a:Nat} {u:CV} (hx:OutT base h p x y lo q xs i B C) (hi:lo<i) (hb:base≤h.n) (ha:a<1099511627776) (hu:SL h 1 u ((apx (yF 3 1 64 0 a 1)).map eB)) (hcu:CapL u)
 (hP:∀ h' x' y' B' w,InT base h' p x' y' [] lo q xs (a:Int) 0 B' C→x'.last = -1→x'.ls=x.ls→Fm (fun j=>base≤j) h h'→P (.tup [.c .nils,.c w]) h') :
 callW N (k+11) 343 [.c (.ptr p 0 0 0),.c (.int .i64 (a:Int)),.c u,.c (.int .i64 0)] h P:=by
 obtain ⟨q1,q2,q3,q4,q5,q6,q7⟩:=hx.ok.eq
 have hone:oneK 3 1 64:=⟨by omega,.inl ⟨rfl,rfl⟩⟩
 have hC:=hearC_1 (x:=x) (by rw [q1];rfl) hx.id ha
 have h0:=hx.ok.at_
 refine nhear_un (k:=k) (now:=(a:Int)) (y:=y) (by omega) h0.node hx.sy hx.ev (by rw [q1];decide) (by rw [hx.id];decide) h0.clk h0.ok hu hcu (apx_lt (yF_lt hone (by omega) (by omega))) (by rw [apx_len,yF_len];omega)
  (fun h5 hno x5 f5=>?_) (fun F h5 s kc v w hF hc x5 c5 k5 s5 w5 b1 b2 b3 b4 f5=>?_)
 ·refine absurd ?_ (hno _ hC)
  rw [rankD_y]
  exact ⟨rfl,by simp only;omega,by rw [q5,hx.ls];omega⟩
 rw [hC] at hF
 injection hF with hF
 subst hF
 simp only [rankD_y] at s5
 have q1':((1:Nat):Int)=1:=rfl
 simp only [q1'] at s5
 rw [q4] at k5
 have hk6:max 1 (min (6:Int) 10000)=6:=by decide
 rw [hk6] at k5
 have iv:Ivt x.id (1+1) [⟨1,1,(a:Int)⟩]:=by
  rw [hx.id]
  exact ⟨by simp,by simp,by simp,by simp⟩
 obtain ⟨B',a1,a2,a3⟩:=h0.adopt hx.ev x5 c5 k5 s5 b1 b2 b3 f5 iv (by omega)
 refine hP h5 _ _ B' w ⟨hx.ok.step a1 f5 (fun j e=>e.elim .inl (fun e=>.inr (.inl e))) (fun j e=>.inr (a3 j e)) (fun j e=>.inl e) ⟨rfl,rfl,rfl,rfl,rfl,rfl,rfl,rfl,rfl,rfl⟩ hb,a2,hx.id,rfl,hx.ev⟩ hx.last rfl ?_
 exact hx.ok.fm hx.ev f5 (fun j e=>e.elim .inl (fun e=>.inr (.inl e)))
theorem again_ok {base lo q:Nat} {xs:List Nat} {a:Nat} {u:CV} {t since:Int} (hx:InT base h p x y Q lo q xs t since B C) (hb:base≤h.n) (ha:a<1099511627776) (hu:SL h 1 u ((apx (yF 3 1 64 0 a 1)).map eB)) (hcu:CapL u)
 (hP:∀ h' y' B' w,InT base h' p x y' Q lo q xs (a:Int) 0 B' C→Fm (fun j=>base≤j) h h'→P (.tup [.c .nils,.c w]) h') :
 callW N (k+11) 343 [.c (.ptr p 0 0 0),.c (.int .i64 (a:Int)),.c u,.c (.int .i64 0)] h P:=by
 obtain ⟨q1,q2,q3,q4,q5,q6,q7⟩:=hx.ok.eq
 have hone:oneK 3 1 64:=⟨by omega,.inl ⟨rfl,rfl⟩⟩
 have hC:=hearC_1 (x:=x) (by rw [q1];rfl) hx.id ha
 refine nhear_sy (k:=k) (now:=(a:Int)) (by omega) hx.ok.at_ hx.par hx.sy hx.ev (by rw [q1];decide) (by rw [hx.id];decide) hu hcu (apx_lt (yF_lt hone (by omega) (by omega))) (by rw [apx_len,yF_len];omega)
  (fun F hF=>?_) (fun h5 hno x5 p5 f5=>?_) (fun F h5 w B' hF x5 p5 w5 b5 b6 f5=>?_)
 ·rw [hC] at hF
  injection hF with hF
  subst hF
  rw [hx.id]
  show ¬(64:Int)=2
  decide
 ·rw [hC] at hno
  cases hno
 rw [hC] at hF
 injection hF with hF
 subst hF
 simp only [rankD_y,hx.id] at x5 p5 w5
 have q1':((1:Nat):Int)=1:=rfl
 simp only [q1',hearS_1 (show (0:Int)≤(a:Int) by omega)] at x5 p5 w5
 have hz:heardS since 1 (firstL [⟨1,1,(a:Int)⟩])=0:=by simp [heardS,firstL]
 rw [hz] at p5
 refine hP h5 _ B' w ⟨hx.ok.step x5 f5 (fun j e=>?_) b6 (fun j e=>.inl e) ⟨rfl,rfl,rfl,rfl,rfl,rfl,rfl,rfl,rfl,rfl⟩ hb,p5,hx.id,hx.sy,hx.ev⟩ (hx.ok.fm hx.ev f5 (fun j e=>?_))
 ·rcases e with e|e|e
  ·exact .inl e
  ·exact .inr (.inl e)
  ·exact .inr (.inr (.inl e))
 ·rcases e with e|e|e
  ·exact .inl e
  ·exact .inr (.inl e)
  ·exact .inr (.inr (.inl e))
end
end
section
set_option maxHeartbeats 8000000
section
variable {k:Nat} {h:Hp} {P:AV→Hp→Prop} {B C:Nat→Prop} {p:Nat} {x:NodeX} {y:ClkX} {Q:List (Int × List Nat)} {base lo q i:Nat} {xs:List Nat}
theorem slotO_ok {a:Nat} (ha:a<1099511627776) (hx:OutT base h p x y lo q xs i B C) (hb:base≤h.n) (hi:i≤1000000)
 (hP:∀ h' y',OutT base h' p {x with ls:=x.ls+1} y' lo q xs (i+1) B C→Fm (fun j=>base≤j) h h'→P (.tup []) h') :
 callW N (k+3) 341 [.c (.ptr p 0 0 0),.c (.int .i64 (a:Int)),.c (.int .i64 0)] h P:=by
 refine slotA_ok (by omega) hx.ok.at_ (by rw [hx.id];decide) (by rw [hx.ls];omega) fun h1 x1 f1=>?_
 rw [if_neg (by rw [hx.sy];decide)] at x1
 refine hP h1 _ ⟨hx.ok.step x1 f1 (fun j e=>e.elim .inl (fun e=>.inr (.inl e))) (fun j e=>.inl e) (fun j e=>.inl e) ⟨rfl,rfl,rfl,rfl,rfl,rfl,rfl,rfl,rfl,rfl⟩ hb,hx.id,hx.sy,hx.ev,by show x.ls+1=_;rw [hx.ls];omega,hx.last⟩ ?_
 exact hx.ok.fm hx.ev f1 (fun j e=>e.elim .inl (fun e=>.inr (.inl e)))
theorem slotI_ok {a:Nat} {t since:Int} (ha:a<1099511627776) (hx:InT base h p x y Q lo q xs t since B C) (hb:base≤h.n) (hl:0≤x.ls∧x.ls≤1000000000)
 (hP:∀ h' y',InT base h' p x y' Q lo q xs t since B C→Fm (fun j=>base≤j) h h'→P (.tup []) h') :
 callW N (k+3) 341 [.c (.ptr p 0 0 0),.c (.int .i64 (a:Int)),.c (.int .i64 0)] h P:=by
 refine slotA_ok (by omega) hx.ok.at_ (by rw [hx.id];decide) hl fun h1 x1 f1=>?_
 rw [if_pos hx.sy] at x1
 refine hP h1 _ ⟨hx.ok.step x1 f1 (fun j e=>e.elim .inl (fun e=>.inr (.inl e))) (fun j e=>.inl e) (fun j e=>.inl e) ⟨rfl,rfl,rfl,rfl,rfl,rfl,rfl,rfl,rfl,rfl⟩ hb,hx.par.keep f1 ?_ rfl rfl rfl,hx.id,hx.sy,hx.ev⟩ ?_
 ·rintro j hj (e|e)
  ·subst e;exact hx.ok.at_.pb hj
  ·subst e;exact hx.ok.at_.cb hj
 ·exact hx.ok.fm hx.ev f1 (fun j e=>e.elim .inl (fun e=>.inr (.inl e)))
theorem cfgM_of {nr hp n lo q:Nat} {xs:List Nat} (hn:2≤n∧n≤8) (hlo:2 * n≤lo∧lo≤2 * n+59) (hq:1≤q∧q≤8) (g1:h.g nr=some (.rows true 1 0 0 (xs.map u6))) (nk:NearOk n xs) (g2:h.g hp=some (.rows true 1 0 0 [[.int .i64 11],[.int .i64 15],[.int .i64 20]])) :
 CfgM h (.sl nr 0 0 n (some n)) (.sl hp 0 0 3 (some 3)) n lo q xs:=
 ⟨hn,hlo,hq,nk,⟨true,0,0,_,g1,Nat.le_refl _,by rw [List.length_map,nk.1];omega,by rw [List.drop_zero,List.take_of_length_le (by rw [List.length_map,nk.1];omega)]⟩,
  ⟨true,0,0,_,g2,Nat.le_refl _,by decide,rfl⟩,by rintro id tok off len c ⟨⟩;omega⟩
def JnI (b0:Nat) (h0:Hp) (nr hp lo q p:Nat) (xs:List Nat) (m:Nat) (s:St):Prop:=∃ (i:Nat) (l:List (Nat × TV)) (h':Hp) (x:NodeX) (y:ClkX) (B C:Nat→Prop),s=ST 25 l [CfgC nr hp 5 lo q] h'∧i≤lo+1∧m=lo+1-i∧
 OutT b0 h' p x y lo q xs i B C∧Fm (fun j=>b0≤j) h0 h'∧
 lk l 1 = .lp 0 0∧lk l 3 = .v (.c (.ptr p 0 0 0))∧lk l 9 = .v (.c (.int .i64 ((lo+1:Nat):Int)))∧lk l 10 = .v (.c (.int .i64 (i:Int)))
theorem joined_ok {nr hp:Nat} (hlo:10≤lo∧lo≤69) (cm:CfgM h (.sl nr 0 0 5 (some 5)) (.sl hp 0 0 3 (some 3)) 5 lo q xs)
 (hP:∀ h' p x y B C,InT h.n h' p x y [] lo q xs (lo:Int) 0 B C→x.last = -1→x.ls=((lo+1:Nat):Int)→Fn h h'→P (.c (.ptr p 0 0 0)) h'):callW N (k+12) 439 [.agg (CfgC nr hp 5 lo q)] h P:=by
 have w3:=wi1 lo (by omega)
 refine ci rfl ?_
 unfold CfgC
 simp only [KK,↓reduceIte,reduceLT,reduceAdd]
 refine new_ok (k:=k+6) (nv:=.sl nr 0 0 5 (some 5)) (hv:=.sl hp 0 0 3 (some 3)) (n:=5) (lo:=lo) (q:=q) (id:=2) cm (by decide) fun h2 p u w ck qp up dn gt pm m1 m2 m3 x2 nw b2 f2=>?_
 simp only [KK,↓reduceIte,reduceLT,reduceEqDiff,w3]
 have ok2:=nw.ok x2 b2
 have o2:OutT h.n h2 p (node0 5 lo q u w 2 ck qp up dn gt pm) ⟨0,0,0⟩ lo q xs 0 (fun _=>False) (fun j=>j=qp):=⟨ok2,rfl,rfl,rfl,rfl,rfl⟩
 refine loop_rd (callW_mono N _) (JnI h.n h2 nr hp lo q p xs) (n:=lo+1) ⟨0,_,h2,_,_,_,_,rfl,by omega,by omega,o2,Fm.refl _ _,rfl,rfl,rfl,rfl⟩ ?_
 rintro m s ⟨i,l,h3,x,y,B,C,rfl,hi,hm,o3,f3,e1,e3,e9,e10⟩
 have n3:h.n≤h3.n:=Nat.le_trans f2.n f3.n
 by_cases hlt:(i:Int)<((lo+1:Nat):Int)
 ·have w4:=wi1 i (by omega)
  simp only [KK,↓reduceIte,reduceLT,reduceEqDiff,e1,e3,e9,e10,hlt]
  refine slotO_ok (k:=k+8) (a:=i) (by omega) o3 n3 (by omega) fun h4 y4 o4 f4=>?_
  simp only [KK,↓reduceIte,reduceLT,reduceEqDiff,w4,rd_n]
  exact ⟨m-1,by omega,i+1,_,h4,_,y4,B,C,rfl,by omega,by omega,o4,f3.trans f4,rfl,rfl,rfl,rfl⟩
 ·have hi2:i=lo+1:=by omega
  simp only [KK,↓reduceIte,reduceLT,reduceEqDiff,e1,e3,e9,e10,hlt,CfgC]
  have q1:((1:Nat):Int)=1:=rfl
  refine beacon_ok (k:=k+6) (s:=1) (r:=1) (a:=lo) (by omega) (by omega) (by omega) fun h4 u4 k4 cu4 f4=>?_
  simp only [KK,↓reduceIte,reduceLT,reduceEqDiff]
  have o4:OutT h.n h4 p x y lo q xs i B C:=⟨o3.ok.step (o3.ok.at_.new f4) f4 (fun j e=>e.elim) (fun j e=>.inl e) (fun j e=>.inl e) ⟨rfl,rfl,rfl,rfl,rfl,rfl,rfl,rfl,rfl,rfl⟩ n3,o3.id,o3.sy,o3.ev,o3.ls,o3.last⟩
  refine comes_ok (k:=k) (a:=lo) o4 (by omega) (Nat.le_trans n3 f4.n) (by omega) k4 cu4 fun h5 x5 y5 B5 w5 i5 l5 s5 f5=>?_
  simp only [KK,↓reduceIte,reduceLT,reduceEqDiff]
  exact hP h5 p x5 y5 B5 C i5 l5 (by rw [s5,o4.ls,hi2]) (f2.fresh (f3.trans ((f4.mono fun _ _ e=>e.elim).trans f5)) (fun j e=>e))
end
end
section
set_option maxHeartbeats 8000000
structure DpS where
 fr:Nat
 to:Nat
 n:Nat
 li:Nat
 pl:Nat
 path:List Nat
 dl:Nat
 data:List Nat
 mid:Option (List Nat)
 fin:Option (List Nat)
def dpS (W:List Nat):DpS:=
 let s1:=takeN 1 (some W)
 let s2:=takeN 1 s1.2
 let s3:=takeN 6 s2.2
 let s4:=takeN 1 s3.2
 let s5:=takeN 1 s4.2
 let s6:=textN s5.1 s5.2
 let s7:=takeN 1 s6.2
 let s8:=textN s7.1 s7.2
 ⟨s1.1,s2.1,s3.1,s4.1,s5.1,s6.1,s7.1,s8.1,s7.2,s8.2⟩
def decP (W:List Nat):Option Pk:=
 if 16<(dpS W).pl∨endN (dpS W).mid=2∨¬(1≤(dpS W).dl∧(dpS W).dl≤24)∨endN (dpS W).fin≠0 then none
 else if (⟨(dpS W).fr,(dpS W).to,(dpS W).n,(dpS W).li,(dpS W).path,(dpS W).data⟩:Pk).ok then some ⟨(dpS W).fr,(dpS W).to,(dpS W).n,(dpS W).li,(dpS W).path,(dpS W).data⟩ else none
section
variable {k:Nat} {h:Hp} {P:AV→Hp→Prop} {r:Nat} {S:Option (List Nat)}
theorem rnext_ok (hr:Rdb h r S) (hP:∀ h',Rdb h' r (takeN 1 S).2→Fm (fun i=>i=r) h h'→P (.c (.int .i64 ((takeN 1 S).1:Nat))) h'):callW N (k+4) 413 [.c (.ptr r 0 0 0)] h P:=by
 have hb:=takeN_lt (m:=1) hr
 have w1:IntKind.wrap .i64 (((takeN 1 S).1:Nat):Int)=(((takeN 1 S).1:Nat):Int):=wrap_i64 (by omega)
 refine ci rfl ?_
 simp only [KK,↓reduceIte,reduceLT,reduceCtorEq]
 refine takeb_ok (k:=k) (m:=1) hr rfl (by omega) fun h2 r2 f2=>?_
 simp only [KK,↓reduceIte,reduceLT,w1]
 exact hP _ r2 f2
def DpI (r b:Nat) (h0:Hp) (c0 c1 c2 c3:Int) (u:CV) (L:List Nat) (n:Nat) (s:St):Prop:=∃ (i:Nat) (l:List (Nat × TV)) (h':Hp) (w:CV),s=ST 73 l [[.int .i64 c0,.int .i64 c1,.int .i64 c2,.int .i64 c3,w,.nils]] h'∧i≤L.length∧n=L.length-i∧Ow h' 1 w ((L.take i).map eN)∧
 (∀ j,ownId w j→h0.n≤j)∧Fn h0 h'∧lk l 2 = .v (.c (.ptr b 0 0 0))∧lk l 4 = .v (.c (.ptr r 0 0 0))∧lk l 5 = .lp 0 0∧lk l 30 = .v (.c u)∧lk l 31 = .v (.c (.int .i64 L.length))∧lk l 32 = .v (.c (.int .i64 i))
theorem rdec_ok {v:CV} {W:List Nat} (hv:SL h 1 v (W.map eB)) (hW:∀ c∈W,c<256) (hl:W.length≤100000)
 (h1:∀ p h' a d,decP W=some p→PkM h' p a d→(∀ j,ownId a j→h.n≤j)→(∀ j,ownId d j→h.n≤j)→Fn h h'→P (.tup [.agg (p.row a d),.c (.int .i64 0)]) h')
 (h2:∀ h' (e:Int),decP W=none→e≠0→Fn h h'→P (.tup [.agg z6,.c (.int .i64 e)]) h'):callW N (k+6) 401 [.c v] h P:=by
 refine ci rfl ?_
 rw [a_fin]
 unfold n401b
 obtain ⟨g0,hh0⟩:=nm (h.push (.rows true 6 0 0 [[.int .i64 0,.int .i64 0,.int .i64 0,.int .i64 0,.nils,.nils]]))
 have u0:g0.g h.n=some (.rows true 6 0 0 [[.int .i64 0,.int .i64 0,.int .i64 0,.int .i64 0,.nils,.nils]]):=by rw [hh0,g_push_eq]
 have f0:=pf hh0
 have n0:g0.n=h.n+1:=by rw [hh0,n_push]
 have fp:∀ (g:Hp) row,Fm (fun j=>j=h.n) g (g.put h.n (.rows true 6 0 0 [row])):=fun g row=>Fm.put (S:=fun j=>j=h.n) _ _ rfl
 have out:∀ g (e:Int),decP W=none→e≠0→Fn g0 g→P (.tup [.agg [.int .i64 0,.int .i64 0,.int .i64 0,.int .i64 0,.nils,.nils],.c (.int .i64 e)]) (g.put h.n (.rows true 6 0 0 [[.int .i64 0,.int .i64 0,.int .i64 0,.int .i64 0,.nils,.nils]])):=by
  intro g e ho he f
  exact h2 _ e ho he ((f0.trans f).fresh (fp _ _) (fun j e=>by omega))
 simp only [KK,↓reduceIte,reduceLT,reduceAdd,reduceCtorEq,hh0.symm]
 refine newreader_ok (k:=k+4) (hv.new f0) hW hl fun g1 r hr r1 f1=>?_
 simp only [KK,↓reduceIte,reduceLT,reduceEqDiff,reduceCtorEq]
 refine rnext_ok (k:=k+1) r1 fun g2 r2 f2=>?_
 simp only [KK,↓reduceIte,reduceLT,reduceEqDiff]
 refine rnext_ok (k:=k+1) r2 fun g3 r3 f3=>?_
 simp only [KK,↓reduceIte,reduceLT,reduceEqDiff]
 refine takeb_ok (k:=k+2) (m:=6) r3 rfl (by omega) fun g4 r4 f4=>?_
 have b3:=takeN_lt (m:=6) r3
 have w3:IntKind.wrap .i64 (((takeN 6 (takeN 1 (takeN 1 (some W)).2).2).1:Nat):Int)=(((takeN 6 (takeN 1 (takeN 1 (some W)).2).2).1:Nat):Int):=wrap_i64 (by omega)
 simp only [KK,↓reduceIte,reduceLT,reduceEqDiff,w3]
 refine rnext_ok (k:=k+1) r4 fun g5 r5 f5=>?_
 simp only [KK,↓reduceIte,reduceLT,reduceEqDiff,reduceAdd,reduceLeDiff]
 refine rnext_ok (k:=k+1) r5 fun g6 r6 f6=>?_
 have hpl:=takeN_lt (m:=1) r5
 have fr6:Fm (fun i=>i=r) g1 g6:=f2.trans (f3.trans (f4.trans (f5.trans f6)))
 have F6:Fn g0 g6:=f1.fresh fr6 (fun j e=>by omega)
 have u6:=F6.some u0 (fun e=>e)
 have hdp:(dpS W).pl=(takeN 1 (takeN 1 (takeN 6 (takeN 1 (takeN 1 (some W)).2).2).2).2).1:=rfl
 by_cases hp16:16<(dpS W).pl
 ·have c16:(16:Int)<(((takeN 1 (takeN 1 (takeN 6 (takeN 1 (takeN 1 (some W)).2).2).2).2).1:Nat):Int):=by omega
  simp only [KK,↓reduceIte,reduceLT,reduceEqDiff,reduceAdd,c16,u6,fz_r]
  exact out g6 3 (by unfold decP;rw [if_pos (.inl hp16)]) (by decide) F6
 have c16:¬(16:Int)<(((takeN 1 (takeN 1 (takeN 6 (takeN 1 (takeN 1 (some W)).2).2).2).2).1:Nat):Int):=by omega
 simp only [KK,↓reduceIte,reduceLT,reduceEqDiff,c16]
 refine text_ok (k:=k+1) r6 (by omega) fun g7 ue r7 k7 p7 e7 c7 f7=>?_
 have F7:Fn g0 g7:=f1.fresh (fr6.trans f7) (fun j e=>by omega)
 have hT:∀ c∈(dpS W).path,c<256:=by
  intro c hc
  obtain ⟨B,e,hB⟩:=textN_of.1 c hc
  rw [e] at r6
  exact r6.bytes.1 c hB
 have hTl:(dpS W).path.length≤(dpS W).pl:=textN_of.2
 obtain ⟨T,hTe⟩:∃ T,T=(dpS W).path:=⟨_,rfl⟩
 replace k7:SL g7 1 ue (T.map eB):=by rw [hTe];exact k7
 rw [←hTe] at hT hTl
 have hlen:=k7.lm
 obtain ⟨S6,hS6⟩:∃ S6,S6=(textN (takeN 1 (takeN 1 (takeN 6 (takeN 1 (takeN 1 (some W)).2).2).2).2).1 (takeN 1 (takeN 1 (takeN 6 (takeN 1 (takeN 1 (some W)).2).2).2).2).2).2:=⟨_,rfl⟩
 rw [←hS6] at r7
 obtain ⟨c0,hc0⟩:∃ c,c=(takeN 1 (some W)).1:=⟨_,rfl⟩
 obtain ⟨c1,hc1⟩:∃ c,c=(takeN 1 (takeN 1 (some W)).2).1:=⟨_,rfl⟩
 obtain ⟨c2,hc2⟩:∃ c,c=(takeN 6 (takeN 1 (takeN 1 (some W)).2).2).1:=⟨_,rfl⟩
 obtain ⟨c3,hc3⟩:∃ c,c=(takeN 1 (takeN 6 (takeN 1 (takeN 1 (some W)).2).2).2).1:=⟨_,rfl⟩
 have hrl:=r7.lt
 rw [←hc0,←hc1,←hc2,←hc3]
 have u7:=F7.some u0 (fun e=>e)
 simp only [KK,↓reduceIte,reduceLT,reduceEqDiff,hlen]
 refine loop_rd (callW_mono N _) (DpI r h.n g7 c0 c1 c2 c3 ue T) (n:=T.length) ⟨0,_,g7,.nils,rfl,by omega,by omega,rfl,(fun j e=>e.elim),Fm.refl _ _,rfl,rfl,rfl,rfl,rfl,rfl⟩ ?_
 rintro nn s ⟨i,l,g8,w,rfl,hi,hnn,w2,w3',f8,e2,e4,e5,e30,e31,e32⟩
 by_cases hlt:(i:Int)<T.length
 ·obtain ⟨id,tok,j,x1,x2⟩:=bytes_at (k7.new f8) (i:=i) (by omega)
  have hi2:i<T.length:=by omega
  have hc:=hT _ (List.getElem_mem hi2)
  have w5:IntKind.wrap .i64 ((T[i]:Nat):Int)=((T[i]:Nat):Int):=wrap_i64 (by omega)
  have w4:=wi1 i (by omega)
  obtain ⟨w',g9,a1,a2,a3,a4⟩:=w2.app (lc:=[[.int .i64 (c0:Nat),.int .i64 (c1:Nat),.int .i64 (c2:Nat),.int .i64 (c3:Nat),w,.nils],[.int .i64 ((T[i]:Nat):Int)]]) (x:=.lsl 1 1) (xs:=[[.int .i64 ((T[i]:Nat):Int)]]) rfl (by simp) (bytes:=8)
   (by simp only [room,List.length_map,List.length_take,List.length_cons,List.length_nil];omega)
  simp only [KK,↓reduceIte,reduceLT,reduceEqDiff,reduceAdd,reduceLeDiff,e2,e4,e5,e30,e31,e32,hlt,x1,x2,w5,a1,w4,rd_n]
  refine ⟨nn-1,by omega,i+1,_,g9,w',rfl,by omega,by omega,?_,?_,f8.fresh a3 w3',rfl,rfl,rfl,rfl,rfl,rfl⟩
  ·rw [List.take_add_one,List.getElem?_eq_getElem hi2,Option.toList_some,List.map_append]
   exact a2
  ·intro j hj
   rcases a4 j hj with e|e
   ·exact w3' j e
   ·have:=f8.n;omega
 ·have hi2:i=T.length:=by omega
  subst hi2
  rw [List.take_of_length_le (Nat.le_refl _)] at w2
  have F8:Fn g0 g8:=F7.trans f8
  simp only [KK,↓reduceIte,reduceLT,reduceEqDiff,e2,e4,e5,e30,e31,e32,hlt]
  refine rnext_ok (k:=k+1) (r7.new f8) fun g9 r9 f9=>?_
  have hdl:=takeN_lt (m:=1) (r7.new f8)
  have nr:g1.n≤g7.n:=Nat.le_trans fr6.n f7.n
  have n8:=f8.n
  have F9:Fn g0 g9:=F8.fresh f9 (fun j e=>by have:=f1.n;omega)
  have u9:=F9.some u0 (fun e=>e)
  have hmid:(takeN 1 S6).2=(dpS W).mid:=by rw [hS6];rfl
  have hdlv:(takeN 1 S6).1=(dpS W).dl:=by rw [hS6];rfl
  rw [hmid] at r9
  rw [hdlv] at hdl ⊢
  simp only [KK,↓reduceIte,reduceLT,reduceEqDiff]
  refine endn_ok (k:=k+3) r9 ?_
  by_cases he2:endN (dpS W).mid=2
  ·have d2:decide (endN (dpS W).mid=2)=true:=by simp [he2]
   simp only [KK,↓reduceIte,reduceLT,reduceEqDiff,reduceAdd,d2,u9,fz_r]
   exact out g9 2 (by unfold decP;rw [if_pos (.inr (.inl he2))]) (by decide) F9
  simp only [KK,↓reduceIte,reduceLT,reduceEqDiff,he2]
  refine rin_ok (k:=k+4) ?_
  by_cases hdd:1≤(dpS W).dl∧(dpS W).dl≤24
  case neg=>
   have d3:decide ((1:Int)≤((dpS W).dl:Int)∧((dpS W).dl:Int)≤24)=false:=by simp;omega
   simp only [KK,↓reduceIte,reduceLT,reduceEqDiff,reduceAdd,d3,u9,fz_r]
   exact out g9 3 (by unfold decP;rw [if_pos (.inr (.inr (.inl hdd)))]) (by decide) F9
  have d3:decide ((1:Int)≤((dpS W).dl:Int)∧((dpS W).dl:Int)≤24)=true:=by simp;omega
  simp only [KK,↓reduceIte,reduceLT,reduceEqDiff,d3]
  refine text_ok (k:=k+1) r9 (by omega) fun g10 ud r10 k10 p10 e10 c10 f10=>?_
  have hdat:(textN (dpS W).dl (dpS W).mid).1=(dpS W).data:=rfl
  have hfin:(textN (dpS W).dl (dpS W).mid).2=(dpS W).fin:=rfl
  rw [hdat] at k10 e10
  rw [hfin] at r10
  have F10:Fn g0 g10:=F9.fresh f10 (fun j e=>by have:=f1.n;omega)
  have u10:=F10.some u0 (fun e=>e)
  have hDb:∀ c∈(dpS W).data,c<256:=by
   intro c hc
   obtain ⟨B,e,hB⟩:=(textN_of (n:=(dpS W).dl) (S:=(dpS W).mid)).1 c hc
   rw [e] at r9
   exact r9.bytes.1 c hB
  have hDl:(dpS W).data.length≤(dpS W).dl:=textN_of.2
  simp only [KK,↓reduceIte,reduceLT,reduceEqDiff,reduceAdd]
  refine endn_ok (k:=k+3) r10 ?_
  by_cases he0:endN (dpS W).fin=0
  case neg=>
   simp only [KK,↓reduceIte,reduceLT,reduceEqDiff,reduceAdd,he0,u10,fz_r]
   exact out g10 _ (by unfold decP;rw [if_pos (.inr (.inr (.inr he0)))]) he0 F10
  have z0:¬((0:Int)≠0):=by decide
  simp only [KK,↓reduceIte,reduceLT,reduceEqDiff,reduceAdd,he0]
  have w10:Ow g10 1 w (T.map eN):=(w2.mono f9 (fun j hj e=>by have:=w3' j hj;omega)).mono f10 (fun j hj e=>by have:=w3' j hj;omega)
  obtain ⟨pk,hpk⟩:∃ pk:Pk,pk=⟨c0,c1,c2,c3,T,(dpS W).data⟩:=⟨_,rfl⟩
  have hm:PkM g10 pk w ud:=by
   rw [hpk]
   refine ⟨w10.sl,?_,k10,hDb⟩
   intro id tok off len c e
   have:=w10.cap _ _ _ _ _ e
   cases this
  have hrow:([.int .i64 (c0:Nat),.int .i64 (c1:Nat),.int .i64 (c2:Nat),.int .i64 (c3:Nat),w,ud]:List CV)=pk.row w ud:=by rw [hpk];rfl
  rw [hrow]
  have hdec:decP W=if pk.ok then some pk else none:=by
   unfold decP
   rw [if_neg (by simp only [not_or,Decidable.not_not];exact ⟨hp16,he2,hdd,he0⟩),hpk,hc0,hc1,hc2,hc3,hTe]
   rfl
  refine rmayP_ok (k:=k+1) hm (by rw [hpk];simp only;omega) ?_
  by_cases hok:pk.ok
  case neg=>
   have d4:decide pk.ok=false:=by simp only [hok,decide_false]
   simp only [KK,↓reduceIte,reduceLT,reduceEqDiff,reduceAdd,d4,u10,fz_r]
   exact out g10 3 (by rw [hdec,if_neg hok]) (by decide) F10
  have d4:decide pk.ok=true:=by simp only [hok,decide_true]
  have hfin2:P (.tup [.agg (pk.row w ud),.c (.int .i64 0)]) (g10.put h.n (.rows true 6 0 0 [pk.row w ud])):=by
   have nw:∀ j,ownId w j→h.n<j:=fun j hj=>by have:=w3' j hj;have:=f1.n;omega
   have nd:∀ j,ownId ud j→h.n<j:=fun j hj=>by have:=p10 j hj;have:=F9.n;omega
   exact h1 pk _ w ud (by rw [hdec,if_pos hok]) ⟨hm.path.off (fp _ _) (fun j hj e=>by have:=nw j hj;omega),hm.cap,hm.data.off (fp _ _) (fun j hj e=>by have:=nd j hj;omega),hm.bytes⟩ (fun j hj=>by have:=nw j hj;omega) (fun j hj=>by have:=nd j hj;omega)
    ((f0.trans F10).fresh (fp _ _) (fun j e=>by omega))
  rw [←hrow] at hfin2 ⊢
  simp only [KK,↓reduceIte,reduceLT,reduceEqDiff,reduceAdd,d4,u10,fz_r]
  exact hfin2
end
end
section
set_option maxHeartbeats 8000000
theorem takeN_c (c:Nat) (B:List Nat):takeN 1 (some (c::B))=(c,some B):=by simp [takeN,beN]
theorem takeN_be (m n:Nat) (B:List Nat):takeN m (some (be m n++B))=(n % 2 ^ (8 * m),some B):=by
 unfold takeN
 simp only
 rw [if_pos (by rw [List.length_append,be_len];omega),List.take_append_of_le_length (by rw [be_len];omega),List.take_of_length_le (by rw [be_len];omega),List.drop_append,be_len,List.drop_of_length_le (by rw [be_len];omega),beN_be]
 simp
theorem textN_app (A B:List Nat):textN A.length (some (A++B))=(A,some B):=by
 unfold textN
 simp only
 rw [if_pos (by rw [List.length_append];omega)]
 simp
theorem decP_rB {p:Pk} (hk:p.ok):decP (rB p)=some p:=by
 have hk':=hk
 obtain ⟨o1,o2,o3,o4,o5,⟨o6,o7,o8⟩,o9,o10⟩:=hk'
 have e0:rB p=p.fr::p.to::(be 6 p.n++(p.li::p.path.length::(p.path++(p.data.length::p.data)))):=by simp [rB]
 have eS:dpS (rB p)=⟨p.fr,p.to,p.n,p.li,p.path.length,p.path,p.data.length,p.data,some p.data,some []⟩:=by
  have ed:textN p.data.length (some p.data)=(p.data,some []):=by
   have:=textN_app p.data []
   rwa [List.append_nil] at this
  unfold dpS
  simp only [e0,takeN_c,takeN_be,textN_app,ed]
  rw [Nat.mod_eq_of_lt (by omega)]
 have hm:endN (some p.data)≠2:=by
  cases p.data <;> simp [endN]
 unfold decP
 rw [eS]
 simp only
 rw [if_neg (by simp only [not_or];exact ⟨by omega,hm,by simp only [Decidable.not_not];exact ⟨o9,o10⟩,by simp [endN]⟩),if_pos hk]
def dropR (id why:Int) (row:List CV):List CV:=.int .i64 5::.int .i64 id::.int .i64 0::.int .i64 why::row
section
variable {k:Nat} {h:Hp} {P:AV→Hp→Prop} {B C:Nat→Prop} {p:Nat} {x:NodeX} {y:ClkX} {Q:List (Int × List Nat)} {E:List (List CV)}
theorem ndrop_ok {why c0 c1 c2 c3:Int} {a d:CV} (hx:NodeAt B C h p x y Q E) (hE:E.length≤100000)
 (hP:∀ h' w,NodeAt B C h' p {x with ev:=w} y Q (E++[dropR x.id why [.int .i64 c0,.int .i64 c1,.int .i64 c2,.int .i64 c3,a,d]])→Fm (fun j=>j=p∨ownId x.ev j) h h'→(∀ j,ownId w j→ownId x.ev j∨h.n≤j)→P (.tup []) h') :
 callW N (k+1) 379 [.c (.ptr p 0 0 0),.agg [.int .i64 c0,.int .i64 c1,.int .i64 c2,.int .i64 c3,a,d],.c (.int .i64 why)] h P:=by
 have hpw:=hx.pe
 have hw:=hx.ev
 have hx':=hx.node
 unfold NdR NodeX.row at hx'
 have hpl:=hx.node.lt
 obtain ⟨h1,hh1⟩:=nm (h.reserve 1)
 have f1:Fn h h1:=by rw [hh1];exact Fm.reserve _ _ _
 have d1:h1.g h.n=some .dead:=by rw [hh1,g_reserve,if_pos (by omega)]
 have x1:=f1.some hx' (fun e=>e)
 obtain ⟨R,hR⟩:∃ R:List CV,R=[.int .i64 5,.int .i64 x.id,.int .i64 0,.int .i64 why,.int .i64 c0,.int .i64 c1,.int .i64 c2,.int .i64 c3,a,d]:=⟨_,rfl⟩
 obtain ⟨h2,hh2⟩:=nm (h1.put h.n (.rows true 10 0 0 [R]))
 have f2:Fm (fun j=>j=h.n) h1 h2:=by rw [hh2];exact Fm.put (S:=fun j=>j=h.n) _ _ rfl
 have e2:h2.g h.n=some (.rows true 10 0 0 [R]):=by rw [hh2,g_put_eq,d1];rfl
 have x2:=f2.some x1 (by omega)
 have F2:Fn h h2:=f1.fresh f2 (fun j e=>by omega)
 have hs:SL h2 10 (.sl h.n 0 0 1 (some 1)) [R]:=⟨true,0,0,_,e2,Nat.le_refl _,Nat.le_refl 1,rfl⟩
 obtain ⟨w,h3,a1,a2,a3,a4⟩:=(hw.new F2).app (lc:=[[.int .i64 c0,.int .i64 c1,.int .i64 c2,.int .i64 c3,a,d]]) (x:=.v (.c (.sl h.n 0 0 1 (some 1)))) (xs:=[R]) hs.read (by simp) (bytes:=112) (by simp only [room,List.length_cons,List.length_nil];omega)
 have x3:=a3.some x2 hpw
 obtain ⟨h4,hh4⟩:∃ g,g=h3.put p (.rows true 32 0 0 [NodeX.row {x with ev:=w}]):=⟨_,rfl⟩
 have hfold:=hh4.symm
 unfold NodeX.row at hfold
 have hfold2:=hh2.symm
 rw [hR] at hfold2
 refine ci rfl ?_
 simp only [KK,↓reduceIte,reduceLT,reduceEqDiff,reduceAdd,reduceLeDiff,reduceCtorEq,hh1.symm,x1,d1,hfold2,a1,x3,hfold]
 have f4:Fm (fun j=>j=p) h3 h4:=by rw [hh4];exact Fm.put (S:=fun j=>j=p) _ _ rfl
 have FF:Fm (fun j=>j=p∨ownId x.ev j) h h4:=(F2.mono (fun _ _ e=>e.elim)).trans ((a3.mono fun j _ e=>.inr e).trans (f4.mono fun j _ e=>.inl e))
 have n2:=F2.n
 refine hP h4 w ⟨?_,FF.some hx.clk ?_,hx.ok,hx.que.keep FF ?_,?_,fun j hj=>Nat.lt_of_lt_of_le (hx.bl j hj) FF.n,fun j hj=>Nat.lt_of_lt_of_le (hx.cl j hj) FF.n,hx.bc,hx.pb,hx.pc,hx.cb,hx.cc,?_⟩ FF ?_
 ·unfold NdR
  rw [hh4,g_put_eq,x3]
  rfl
 ·rintro (e|e)
  ·exact hx.ne e.symm
  ·exact hx.ce e
 ·rintro j hj _ (e|e)
  ·subst e;exact hx.pc hj
  ·exact (hx.eb j e).2 hj
 ·have e:E++[dropR x.id why [.int .i64 c0,.int .i64 c1,.int .i64 c2,.int .i64 c3,a,d]] = E++[R]:=by rw [hR];rfl
  rw [e]
  refine a2.mono f4 ?_
  rintro j hj rfl
  rcases a4 j hj with e|e
  ·exact hpw e
  ·omega
 ·intro j hj
  rcases a4 j hj with e|e
  ·exact hx.eb j e
  ·exact ⟨fun e2=>by have:=hx.bl j e2;omega,fun e2=>by have:=hx.cl j e2;omega⟩
 ·intro j hj
  rcases a4 j hj with e|e
  ·exact .inl e
  ·exact .inr (by omega)
theorem nleaves_ok {z:Int × List Nat} (hx:NodeAt B C h p x y (z::Q) E) (hz:z.2≠[]∧z.2.length≤1000) (hb:∀ c∈z.2,c<256) (hQ:Q.length≤1000)
 (h1:∀ h' pk a d,decP z.2=some pk→NodeAt B C h' p {x with tr:=0} y Q E→PkM h' pk a d→(∀ j,ownId a j→h.n≤j)→(∀ j,ownId d j→h.n≤j)→Fm (fun j=>j=p∨C j) h h'→P (.tup [.agg (pk.row a d),.c (.bool true)]) h')
 (h0:∀ h',decP z.2=none→NodeAt B C h' p {x with tr:=0} y Q E→Fm (fun j=>j=p∨C j) h h'→P (.tup [.agg z6,.c (.bool false)]) h') :
 callW N (k+7) 378 [.c (.ptr p 0 0 0)] h P:=by
 have hx':=hx.node
 unfold NdR NodeX.row at hx'
 have hpl:=hx.node.lt
 refine ci rfl ?_
 rw [a_fin]
 unfold n378b
 obtain ⟨g0,hh0⟩:=nm (h.push (.rows true 6 0 0 [[.int .i64 0,.int .i64 0,.int .i64 0,.int .i64 0,.nils,.nils]]))
 have u0:g0.g h.n=some (.rows true 6 0 0 [[.int .i64 0,.int .i64 0,.int .i64 0,.int .i64 0,.nils,.nils]]):=by rw [hh0,g_push_eq]
 have f0:=pf hh0
 have n0:g0.n=h.n+1:=by rw [hh0,n_push]
 have fp:∀ (g:Hp) row,Fm (fun j=>j=h.n) g (g.put h.n (.rows true 6 0 0 [row])):=fun g row=>Fm.put (S:=fun j=>j=h.n) _ _ rfl
 have x0:=hx.new f0
 have x0':=f0.some hx' (fun e=>e)
 simp only [KK,↓reduceIte,reduceLT,reduceAdd,reduceCtorEq,hh0.symm,x0']
 refine qtake_ok (k:=k+3) x0.que hz hQ fun g1 u q1 k1 p1 c1 f1=>?_
 have hcl:=lt_of_g x0.clk
 have x1:NodeAt B C g1 p x y Q E:=⟨x0.node.keep f1 x0.pc,f1.some x0.clk x0.cc,x0.ok,q1,x0.ev.mono f1 (fun j hj=>(x0.eb j hj).2),fun j hj=>Nat.lt_of_lt_of_le (x0.bl j hj) f1.n,fun j hj=>Nat.lt_of_lt_of_le (x0.cl j hj) f1.n,x0.bc,x0.pb,x0.pc,x0.cb,x0.cc,x0.eb⟩
 have x1':=f1.some x0' x0.pc
 have u1:=f1.some u0 (fun e=>by have:=hx.cl _ e;omega)
 obtain ⟨g2,hh2⟩:∃ g,g=g1.put p (.rows true 32 0 0 [NodeX.row {x with tr:=0}]):=⟨_,rfl⟩
 have f2:Fm (fun j=>j=p) g1 g2:=by rw [hh2];exact Fm.put (S:=fun j=>j=p) _ _ rfl
 have fd2:=hh2.symm
 unfold NodeX.row at fd2
 simp only [KK,↓reduceIte,reduceLT,reduceEqDiff,reduceAdd,reduceLeDiff,reduceCtorEq,x1',fd2]
 have x2:NodeAt B C g2 p {x with tr:=0} y Q E:=by
  refine ⟨?_,f2.some x1.clk (fun e=>x1.ne e.symm),x1.ok,x1.que.keep f2 (fun j hj _ e=>x1.pc (by rw [←e];exact hj)),x1.ev.mono f2 (fun j hj e=>x1.pe (by rw [←e];exact hj)),fun j hj=>Nat.lt_of_lt_of_le (x1.bl j hj) f2.n,fun j hj=>Nat.lt_of_lt_of_le (x1.cl j hj) f2.n,x1.bc,x1.pb,x1.pc,x1.cb,x1.cc,x1.eb⟩
  unfold NdR
  rw [hh2,g_put_eq,x1']
  rfl
 have u2:=f2.some u1 (show ¬h.n=p by omega)
 have k2:SL g2 1 u (z.2.map eB):=k1.off f2 (fun j hj e=>by have:=p1 j hj;omega)
 have F2:Fm (fun j=>j=p∨C j) h g2:=(f0.mono fun _ _ e=>e.elim).trans ((f1.mono fun j _ e=>.inr e).trans (f2.mono fun j _ e=>.inl e))
 have n2:=F2.n
 have put:∀ g row,Fn g2 g→NodeAt B C g p {x with tr:=0} y Q E→NodeAt B C (g.put h.n (.rows true 6 0 0 [row])) p {x with tr:=0} y Q E:=by
  intro g row f xg
  have f:=fp g row
  exact ⟨xg.node.keep f (by omega),f.some xg.clk (by have:=lt_of_g hx.clk;show ¬x.ck=h.n;omega),xg.ok,xg.que.keep f (fun j hj _ e=>by have:=hx.cl j hj;omega),xg.ev.mono f (fun j hj e=>by have:=ow_lt hx.ev j hj;omega),fun j hj=>Nat.lt_of_lt_of_le (xg.bl j hj) f.n,fun j hj=>Nat.lt_of_lt_of_le (xg.cl j hj) f.n,xg.bc,xg.pb,xg.pc,xg.cb,xg.cc,xg.eb⟩
 have FP:∀ g row,Fn g2 g→Fm (fun j=>j=p∨C j) h (g.put h.n (.rows true 6 0 0 [row])):=fun g row f=>
  (F2.trans (f.mono fun _ _ e=>e.elim)).fresh (fp g row) (fun j e=>by omega)
 refine rdec_ok (k:=k) k2 hb (by omega) (fun pk g3 a d hd hm pa pd f3=>?_) (fun g3 e hd he f3=>?_)
 ·have u3:=f3.some u2 (fun e=>e)
  have n3:=f3.n
  have n12:h.n<g2.n:=by have:=f1.n;have:=f2.n;omega
  have hm':∀ row,PkM (g3.put h.n (.rows true 6 0 0 [row])) pk a d:=fun row=>⟨hm.path.off (fp _ _) (fun j hj e=>by have:=pa j hj;omega),hm.cap,hm.data.off (fp _ _) (fun j hj e=>by have:=pd j hj;omega),hm.bytes⟩
  have:=h1 (g3.put h.n (.rows true 6 0 0 [pk.row a d])) pk a d hd (put g3 _ f3 (x2.new f3)) (hm' _) (fun j hj=>by have:=pa j hj;omega) (fun j hj=>by have:=pd j hj;omega) (FP g3 _ f3)
  unfold Pk.row at this ⊢
  simp only [KK,↓reduceIte,reduceLT,reduceEqDiff,reduceAdd,u3,fz_r]
  exact this
 ·have u3:=f3.some u2 (fun e=>e)
  have he2:¬e=0:=he
  have:=h0 (g3.put h.n (.rows true 6 0 0 [z6])) hd (put g3 _ f3 (x2.new f3)) (FP g3 _ f3)
  unfold z6 at this ⊢
  simp only [KK,↓reduceIte,reduceLT,reduceEqDiff,reduceAdd,u3,he2,fz_r]
  exact this
end
end
section
set_option maxHeartbeats 8000000
def lostX (x:NodeX) (t:Int):NodeX:={x with sy:=false,ls:=0,pp:=.nilp,kp:=.nilp,sa:=0,sk:=0,ss:=0,sd:=0,sq:=0,si:=.nils,sx:=.nils,so:=false,tr:=t}
structure DRows (id why:Int) (Q:List (Int × List Nat)) (rows:List (List CV)):Prop where
 le:rows.length≤Q.length
 mem:∀ row∈rows,∃ pk a d,row=dropR id why (Pk.row pk a d)∧∃ z∈Q,decP z.2=some pk
 all:(∀ z∈Q,decP z.2≠none)→rows.length=Q.length
structure QOk (Q:List (Int × List Nat)):Prop where
 len:Q.length≤1000
 mem:∀ z∈Q,z.2≠[]∧z.2.length≤1000∧∀ c∈z.2,c<256
section
variable {k:Nat} {h:Hp} {P:AV→Hp→Prop} {B C:Nat→Prop} {p:Nat} {x:NodeX} {y:ClkX} {Q:List (Int × List Nat)} {E:List (List CV)}
def ElI (n0:Nat) (h0:Hp) (B C:Nat→Prop) (p:Nat) (x:NodeX) (y:ClkX) (Q:List (Int × List Nat)) (m:Nat) (s:St):Prop:=∃ (i:Nat) (l:List (Nat × TV)) (lc:List (List CV)) (h':Hp) (w:CV) (t:Int) (rows:List (List CV)),s=ST 90 l lc h'∧i≤Q.length∧m=Q.length-i∧
 NodeAt B C h' p {lostX x t with ev:=w} y (Q.drop i) (evR 3 x.id 0::rows)∧DRows x.id 3 (Q.take i) rows∧(∀ j,ownId w j→n0≤j)∧Fm (fun j=>j=p∨C j∨n0≤j) h0 h'∧n0≤h0.n∧lk l 0 = .v (.c (.ptr p 0 0 0))
theorem nend_sy {rank ke since now:Int} {L:List Pr} (ha:0≤now∧now<1099511627776) (hx:NodeAt B C h p x y Q []) (hp:ParAt B h x rank L ke since) (hsy:x.sy=true) (hev:x.ev = .nils) (hid:x.id≠0)
 (hlo:x.lo≤1000000) (hQ:QOk Q)
 (h1:∀ h' w B',firstL (keptP L now x.lo)≠64→NodeAt B' C h' p x y Q []→ParAt B' h' x rank (keptP L now x.lo) ke (min (since+1) 1000000)→Ow h' 10 w (folE x.id (firstL L) (firstL (keptP L now x.lo)))→(∀ j,ownId w j→h.n≤j)→
  (∀ j,B' j→B j∨h.n≤j)→Fm (fun j=>j=p∨B j) h h'→P (.c w) h')
 (h2:∀ h' w B' t rows,firstL (keptP L now x.lo)=64→NodeAt B' C h' p (lostX x t) y [] []→Ow h' 10 w (evR 3 x.id 0::rows)→DRows x.id 3 Q rows→(∀ j,ownId w j→h.n≤j)→
  (∀ j,B' j→B j∨h.n≤j)→Fm (fun j=>j=p∨B j∨C j) h h'→P (.c w) h') :
 callW N (k+9) 345 [.c (.ptr p 0 0 0),.c (.int .i64 now)] h P:=by
 have e1:decide (0≤now∧now<1099511627776)=true:=by simp;omega
 have hx':=hx.node
 unfold NdR NodeX.row at hx'
 obtain ⟨⟨s,kc,v,a1,a2,a3,a4,a5,a6,a7⟩,iv,rk,si⟩:=id hp
 rw [hsy,a1,a2] at hx'
 have own0:∀ j,¬ownId x.ev j:=by intro j;rw [hev];exact id
 refine ci rfl ?_
 simp only [KK,↓reduceIte,reduceLT,reduceEqDiff,reduceAdd,reduceCtorEq]
 refine nasn_ok (k:=k+7) ?_
 simp only [KK,↓reduceIte,reduceLT,reduceEqDiff,reduceCtorEq,e1,hx',hid]
 refine kslot_ok (k:=k+7) a4 si fun g1 k1 f1=>?_
 have f1B:∀ j,j=kc→B j:=fun j e=>by rw [e];exact a6
 have x1:=hx.par f1 f1B
 have hsk:s≠kc:=ne_of_g a3.1 a4 (by simp)
 have hvk:¬ownId v kc:=a3.2.1.qne a4 (by intro _ _ _ _ e;simp at e)
 have s1:=a3.mono f1 hsk (fun j hj e=>hvk (by rw [←e];exact hj))
 have p1:ParAt (Bx B h g1) g1 x rank L ke (min (since+1) 1000000):=⟨⟨s,kc,v,a1,a2,s1,k1,.inl a5,.inl a6,fun j hj=>.inl (a7 j hj)⟩,iv,rk,by omega⟩
 have x1':=f1.some hx' (fun e=>hx.pb (by rw [e];exact a6))
 simp only [KK,↓reduceIte,reduceLT,reduceEqDiff,reduceCtorEq]
 refine pfirst_ok (k:=k+6) x1 p1 ?_
 simp only [KK,↓reduceIte,reduceLT,reduceEqDiff,reduceCtorEq,x1']
 refine old_ok (k:=k+1) s1 iv (by omega) (by omega) fun g2 v2 w2 T2 s2 _ _ _ f2 q2 _=>?_
 have f2B:∀ j,(j=s∨ownId v j)→Bx B h g1 j:=fun j e=>.inl (e.elim (fun e=>by rw [e];exact a5) (a7 j))
 have x2:=x1.par f2 f2B
 have n1:=f1.n
 have n2:=f2.n
 have p2:ParAt (Bx (Bx B h g1) g1 g2) g2 x rank (keptP L now x.lo) ke (min (since+1) 1000000):=by
  refine ⟨⟨s,kc,v2,a1,a2,s2,f2.some k1 ?_,.inl (.inl a5),.inl (.inl a6),?_⟩,Ivt.kept iv now x.lo,rk,by omega⟩
  ·rintro (e|e)
   ·exact hsk e.symm
   ·exact hvk e
  ·intro j hj
   rcases q2 j hj with e|e
   ·exact .inl (.inl (a7 j e))
   ·exact .inr ⟨e,s2.2.1.lt hj⟩
 have b2:∀ j,Bx (Bx B h g1) g1 g2 j→B j∨h.n≤j:=by
  rintro j ((e|e)|e)
  ·exact .inl e
  ·exact .inr e.1
  ·exact .inr (by omega)
 have F2:Fm (fun j=>j=p∨B j) h g2:=(f1.mono fun j _ e=>.inr (f1B j e)).trans (f2.mono fun j _ e=>.inr (e.elim (fun e=>by rw [e];exact a5) (a7 j)))
 generalize hB2:Bx (Bx B h g1) g1 g2=B2 at *
 have x2':=f2.some x1' (fun e=>hx.pb (e.elim (fun e=>by rw [e];exact a5) (a7 p)))
 simp only [KK,↓reduceIte,reduceLT,reduceEqDiff,reduceCtorEq]
 refine pfirst_ok (k:=k+6) x2 p2 ?_
 by_cases hf:firstL (keptP L now x.lo)=64
 case neg=>
  simp only [KK,↓reduceIte,reduceLT,reduceEqDiff,reduceCtorEq,hf]
  refine nfollows_ok (k:=k+5) (was:=firstL L) x2 p2 (by simp) fun g3 w3 x3 p3 f3 q3=>?_
  simp only [KK,↓reduceIte,reduceLT,reduceCtorEq]
  refine ntells_ok (k:=k+7) x3 fun g4 x4 w4 f4=>?_
  simp only [KK,↓reduceIte,reduceLT]
  have xe:({({x with ev:=w3}:NodeX) with ev:=.nils}:NodeX)=x:=by rw [←hev]
  rw [xe] at x4
  refine h1 g4 w3 B2 hf x4 (p3.keep f4 (fun j hj e=>x2.pb (by rw [←e];exact hj)) rfl rfl rfl) w4 (fun j hj=>(q3 j hj).elim (fun e=>absurd e (own0 j)) (fun e=>by have:=F2.n;omega)) b2 ?_
  exact F2.trans ((f3.mono fun j _ e=>e.elim .inl (fun e=>absurd e (own0 j))).trans (f4.mono fun j _ e=>.inl e))
 have d64:decide (firstL (keptP L now x.lo)=64)=true:=by simp [hf]
 obtain ⟨g3,hh3⟩:∃ g,g=g2.put p (.rows true 32 0 0 [NodeX.row {x with sy:=false,pp:=.ptr s 0 0 0,kp:=.ptr kc 0 0 0}]):=⟨_,rfl⟩
 have fd3:=hh3.symm
 have y3:g3.g p=some (.rows true 32 0 0 [NodeX.row {x with sy:=false,pp:=.ptr s 0 0 0,kp:=.ptr kc 0 0 0}]):=by rw [hh3,g_put_eq,x2'];rfl
 obtain ⟨g4,hh4⟩:∃ g,g=g3.put p (.rows true 32 0 0 [NodeX.row {x with sy:=false,ls:=0,pp:=.ptr s 0 0 0,kp:=.ptr kc 0 0 0}]):=⟨_,rfl⟩
 have fd4:=hh4.symm
 have y4:g4.g p=some (.rows true 32 0 0 [NodeX.row {x with sy:=false,ls:=0,pp:=.ptr s 0 0 0,kp:=.ptr kc 0 0 0}]):=by rw [hh4,g_put_eq,y3];rfl
 obtain ⟨g5,hh5⟩:∃ g,g=g4.put p (.rows true 32 0 0 [NodeX.row {x with sy:=false,ls:=0,pp:=.nilp,kp:=.ptr kc 0 0 0}]):=⟨_,rfl⟩
 have fd5:=hh5.symm
 have y5:g5.g p=some (.rows true 32 0 0 [NodeX.row {x with sy:=false,ls:=0,pp:=.nilp,kp:=.ptr kc 0 0 0}]):=by rw [hh5,g_put_eq,y4];rfl
 obtain ⟨g6,hh6⟩:∃ g,g=g5.put p (.rows true 32 0 0 [NodeX.row {x with sy:=false,ls:=0,pp:=.nilp,kp:=.nilp}]):=⟨_,rfl⟩
 have fd6:=hh6.symm
 have y6:g6.g p=some (.rows true 32 0 0 [NodeX.row {x with sy:=false,ls:=0,pp:=.nilp,kp:=.nilp}]):=by rw [hh6,g_put_eq,y5];rfl
 obtain ⟨g7,hh7⟩:=nm (g6.put p (.rows true 32 0 0 [NodeX.row (lostX x x.tr)]))
 have fd7:=hh7.symm
 have y7:g7.g p=some (.rows true 32 0 0 [NodeX.row (lostX x x.tr)]):=by rw [hh7,g_put_eq,y6];rfl
 have f7:Fm (fun j=>j=p) g2 g7:=by
  rw [hh7,hh6,hh5,hh4,hh3]
  exact (((Fm.put (S:=fun j=>j=p) _ _ rfl).trans (Fm.put (S:=fun j=>j=p) _ _ rfl)).trans ((Fm.put (S:=fun j=>j=p) _ _ rfl).trans (Fm.put (S:=fun j=>j=p) _ _ rfl))).trans (Fm.put (S:=fun j=>j=p) _ _ rfl)
 have x7:NodeAt B2 C g7 p (lostX x x.tr) y Q []:=⟨y7,f7.some x2.clk (fun e=>x2.ne e.symm),x2.ok,x2.que.keep f7 (fun j hj _ e=>x2.pc (by rw [←e];exact hj)),by show Ow g7 10 x.ev [];rw [hev];rfl,fun j hj=>Nat.lt_of_lt_of_le (x2.bl j hj) f7.n,fun j hj=>Nat.lt_of_lt_of_le (x2.cl j hj) f7.n,x2.bc,x2.pb,x2.pc,x2.cb,x2.cc,fun j hj=>absurd hj (own0 j)⟩
 have hne64:¬((64:Int)≠64):=by decide
 unfold NodeX.row at fd3 y3 fd4 y4 fd5 y5 fd6 y6 fd7
 unfold lostX at fd7
 simp only [KK,↓reduceIte,reduceLT,reduceEqDiff,reduceAdd,reduceLeDiff,reduceCtorEq,d64,x2',fd3,y3,fd4,y4,fd5,y5,fd6,y6,fd7]
 refine nevent_ok (k:=k+7) x7 (by simp) fun g8 w8 x8 f8 q8=>?_
 have own7:∀ j,¬ownId (lostX x x.tr).ev j:=own0
 have n7:=f7.n
 have n8:=f8.n
 have F8:Fm (fun j=>j=p∨C j∨h.n≤j) g2 g8:=(f7.mono fun j _ e=>.inl e).trans (f8.mono fun j _ e=>e.elim .inl (fun e=>absurd e (own7 j)))
 simp only [KK,↓reduceIte,reduceLT,reduceCtorEq]
 have ow8:∀ j,ownId w8 j→h.n≤j:=fun j hj=>(q8 j hj).elim (fun e=>absurd e (own7 j)) (fun e=>by omega)
 refine loop_rd (callW_mono N _) (ElI h.n g2 B2 C p x y Q) (n:=Q.length) ⟨0,_,_,g8,w8,x.tr,[],rfl,by omega,by omega,x8,⟨by simp,by simp,by simp⟩,ow8,F8,by omega,rfl⟩ ?_
 rintro m st ⟨i,l,lc,g9,w9,t,rows,rfl,hi,hm,x9,dr,ow9,f9,hn0,e0⟩
 have x9':=x9.node
 unfold NdR NodeX.row lostX at x9'
 simp only [KK,↓reduceIte,reduceLT,e0,x9']
 refine qlen_ok (k:=k+7) x9.que ?_
 by_cases hlt:i<Q.length
 ·obtain ⟨z,hz⟩:∃ z,Q[i]? = some z:=⟨_,List.getElem?_eq_getElem hlt⟩
  have hzm:=List.mem_of_getElem? hz
  have hdrop:Q.drop i=z::Q.drop (i+1):=by
   obtain ⟨h3,h4⟩:=List.getElem?_eq_some_iff.mp hz
   rw [←h4,←List.drop_eq_getElem_cons h3]
  obtain ⟨z1,z2,z3⟩:=hQ.mem z hzm
  have hQl:=hQ.len
  rw [hdrop] at x9 ⊢
  have c1:(0:Int)<(((Q.drop (i+1)).length+1:Nat):Int):=by omega
  have hrl:=dr.le
  rw [List.length_take] at hrl
  simp only [KK,↓reduceIte,reduceLT,reduceCtorEq,c1]
  refine nleaves_ok (k:=k+1) x9 ⟨z1,z2⟩ z3 (by rw [List.length_drop];omega) (fun g10 pk a d hd x10 hm10 pa pd f10=>?_) (fun g10 hd x10 f10=>?_)
  ·simp only [Pk.row]
   have own10:∀ j,ownId w9 j→h.n≤j:=ow9
   simp only [KK,↓reduceIte,reduceLT,reduceEqDiff,reduceAdd,reduceCtorEq]
   refine ndrop_ok (k:=k+7) x10 (by simp only [List.length_cons];omega) fun g11 w11 x11 f11 q11=>?_
   simp only [KK,rd_n]
   refine ⟨m-1,by omega,i+1,_,_,g11,w11,0,rows++[dropR x.id 3 (pk.row a d)],rfl,by omega,by omega,x11,?_,?_,?_,hn0,rfl⟩
   ·rw [take_snoc hz]
    refine ⟨by rw [List.length_append,List.length_append,List.length_take];simp;omega,?_,?_⟩
    ·intro row hrow
     rcases List.mem_append.mp hrow with hrow|hrow
     ·obtain ⟨pk',a',d',e1,z',hz',e2⟩:=dr.mem row hrow
      exact ⟨pk',a',d',e1,z',List.mem_append_left _ hz',e2⟩
     ·rw [List.mem_singleton] at hrow
      exact ⟨pk,a,d,hrow,z,by simp,hd⟩
    ·intro hall
     have:=dr.all (fun z' hz'=>hall z' (List.mem_append_left _ hz'))
     rw [List.length_append,List.length_append,this]
     rfl
   ·intro j hj
    rcases q11 j hj with e|e
    ·exact ow9 j e
    ·have:=f9.n;have:=f10.n;omega
   ·refine f9.trans ((f10.mono fun j _ e=>e.elim .inl (fun e=>.inr (.inl e))).trans (f11.mono fun j _ e=>e.elim .inl (fun e=>.inr (.inr (ow9 j e)))))
  ·simp only [z6]
   simp only [KK,↓reduceIte,reduceLT,reduceEqDiff,reduceAdd,reduceCtorEq,rd_n]
   refine ⟨m-1,by omega,i+1,_,_,g10,w9,0,rows,rfl,by omega,by omega,x10,?_,ow9,f9.trans (f10.mono fun j _ e=>e.elim .inl (fun e=>.inr (.inl e))),hn0,rfl⟩
   rw [take_snoc hz]
   refine ⟨by rw [List.length_append,List.length_take];simp;omega,?_,?_⟩
   ·intro row hrow
    obtain ⟨pk',a',d',e1,z',hz',e2⟩:=dr.mem row hrow
    exact ⟨pk',a',d',e1,z',List.mem_append_left _ hz',e2⟩
   ·intro hall
    exact absurd hd (hall z (by simp))
 ·have hi2:i=Q.length:=by omega
  subst hi2
  rw [List.drop_length] at x9 ⊢
  rw [List.take_length] at dr
  have c1:¬(0:Int)<((0:Nat):Int):=by decide
  simp only [KK,↓reduceIte,reduceLT,reduceCtorEq,c1]
  refine ntells_ok (k:=k+7) x9 fun g10 x10 w10 f10=>?_
  simp only [KK,↓reduceIte,reduceLT]
  have xe:({({lostX x t with ev:=w9}:NodeX) with ev:=.nils}:NodeX)=lostX x t:=by unfold lostX;rw [←hev]
  rw [xe] at x10
  refine h2 g10 w9 B2 t rows hf x10 w10 dr ow9 b2 ?_
  refine (F2.mono fun j _ e=>e.elim .inl (fun e=>.inr (.inl e))).comp (f9.trans (f10.mono fun j _ e=>.inl e)) (fun j hj e=>?_)
  rcases e with e|e|e
  ·exact .inl e
  ·exact .inr (.inr e)
  ·omega
end
end
section
set_option maxHeartbeats 8000000
def Q2 (Q:List (Int × List Nat)):Prop:=∀ z∈Q,∃ pk:Pk,pk.ok∧pk.fr=2∧(∀ c∈pk.data,c<256)∧z.2=rB pk
theorem Q2.ok {Q:List (Int × List Nat)} (k:Q2 Q) (hl:Q.length≤1000):QOk Q:=by
 refine ⟨hl,fun z hz=>?_⟩
 obtain ⟨pk,h1,h2,h3,h4⟩:=k z hz
 rw [h4]
 refine ⟨by simp [rB],?_,rB_lt h1 h3⟩
 rw [rB_len]
 have:=h1.2.2.2.2.2.1.2.2
 have:=h1.2.2.2.2.2.2.2
 omega
theorem kept1 {t now lo:Int} (hn:0≤now) (hlo:1≤lo):keptP [⟨1,1,t⟩] now lo=if now-t<lo then [⟨1,1,t⟩] else []:=by
 unfold keptP lastP
 rw [if_neg (by omega)]
 by_cases h:now-t<lo
 ·rw [if_pos h]
  have:¬t≤now-max 1 lo:=by omega
  simp [this]
 ·rw [if_neg h]
  have:t≤now-max 1 lo:=by omega
  simp [this]
section
variable {k:Nat} {h:Hp} {P:AV→Hp→Prop} {B C:Nat→Prop} {p:Nat} {x:NodeX} {y:ClkX} {Q:List (Int × List Nat)} {E:List (List CV)} {base lo q:Nat} {xs:List Nat}
theorem awakeL_ok (hP:P (.c (.bool true)) h):callW N (k+1) 258 [] h P:=⟨awakeN,rfl,by simp,[],.c (.bool true),rfl,rfl,rfl,.inr rfl,_,rfl,hP⟩
theorem nwaiting_ok (hx:NodeAt B C h p x y Q E) (hP:P (.c (.int .i64 (Q.length:Int))) h):callW N (k+2) 263 [.c (.ptr p 0 0 0)] h P:=by
 have hx':=hx.node
 unfold NdR NodeX.row at hx'
 refine ci rfl ?_
 simp only [KK,↓reduceIte,reduceLT,reduceCtorEq,hx']
 refine qlen_ok (k:=k) hx.que ?_
 simp only [KK,↓reduceIte,reduceLT]
 exact hP
theorem endI_ok {a:Nat} {t since:Int} (ha:a<1099511627776) (hx:InT base h p x y Q lo q xs t since B C) (hb:base≤h.n) (hlo:1≤lo∧lo≤1000) (hQ:QOk Q)
 (h1:∀ h' w B' since',(a:Int)-t<lo→InT base h' p x y Q lo q xs t since' B' C→Ow h' 10 w []→Fm (fun j=>base≤j) h h'→P (.c w) h')
 (h2:∀ h' w B' tr rows,¬(a:Int)-t<lo→NodeAt B' C h' p (lostX x tr) y [] []→Ow h' 10 w (evR 3 2 0::rows)→DRows 2 3 Q rows→P (.c w) h') :
 callW N (k+9) 345 [.c (.ptr p 0 0 0),.c (.int .i64 (a:Int))] h P:=by
 obtain ⟨q1,q2,q3,q4,q5,q6,q7⟩:=hx.ok.eq
 have hk:=kept1 (t:=t) (now:=(a:Int)) (lo:=x.lo) (by omega) (by rw [q5];omega)
 rw [q5] at hk
 refine nend_sy (k:=k) (by omega) hx.ok.at_ hx.par hx.sy hx.ev (by rw [hx.id];decide) (by rw [q5];omega) hQ (fun h5 w B' hf x5 p5 w5 o5 b5 f5=>?_) (fun h5 w B' tr rows hf x5 w5 dr o5 b5 f5=>?_)
 ·rw [q5,hk] at hf p5 w5
  by_cases hc:(a:Int)-t<lo
  ·rw [if_pos hc] at hf p5 w5
   have he:folE x.id (firstL [⟨1,1,t⟩]) (firstL [⟨1,1,t⟩])=[]:=by simp [folE]
   rw [he] at w5
   refine h1 h5 w B' _ hc ⟨hx.ok.step x5 f5 (fun j e=>e.elim .inl (fun e=>.inr (.inr (.inl e)))) b5 (fun j e=>.inl e) ⟨rfl,rfl,rfl,rfl,rfl,rfl,rfl,rfl,rfl,rfl⟩ hb,p5,hx.id,hx.sy,hx.ev⟩ w5 ?_
   exact hx.ok.fm hx.ev f5 (fun j e=>e.elim .inl (fun e=>.inr (.inr (.inl e))))
  ·rw [if_neg hc] at hf
   exact absurd rfl hf
 ·rw [q5,hk] at hf
  by_cases hc:(a:Int)-t<lo
  ·rw [if_pos hc] at hf
   simp [firstL] at hf
  ·rw [hx.id] at w5 dr
   exact h2 h5 w B' tr rows hc x5 w5 dr
end
end
section
set_option maxHeartbeats 8000000
def eBo (b:Bool):List CV:=[.bool b]
theorem InT.new' {base lo q p:Nat} {xs:List Nat} {x:NodeX} {y:ClkX} {Q:List (Int × List Nat)} {t since:Int} {B C:Nat→Prop} {h h':Hp} (k:InT base h p x y Q lo q xs t since B C) (f:Fn h h') (hb:base≤h.n):InT base h' p x y Q lo q xs t since B C:=
 ⟨k.ok.step (k.ok.at_.new f) f (fun j e=>e.elim) (fun j e=>.inl e) (fun j e=>.inl e) ⟨rfl,rfl,rfl,rfl,rfl,rfl,rfl,rfl,rfl,rfl⟩ hb,k.par.keep f (fun _ _ e=>e) rfl rfl rfl,k.id,k.sy,k.ev⟩
section
variable {k:Nat} {h:Hp} {P:AV→Hp→Prop} {v:CV} {H:List Bool}
def LsI (b0:Nat) (h0:Hp) (nr hp lo q p sd:Nat) (xs:List Nat) (sends:Int) (v:CV) (m:Nat) (s:St):Prop:=∃ (i:Nat) (l:List (Nat × TV)) (h':Hp) (x:NodeX) (y:ClkX) (Q:List (Int × List Nat)) (B C:Nat→Prop),s=ST 156 l [CfgC nr hp 5 lo q] h'∧i≤sd∧m=sd-i∧
 InT b0 h' p x y Q lo q xs (lo:Int) 0 B C∧Q.length=min i q∧Q2 Q∧(-1≤x.last∧x.last≤(lo:Int) * 64+i)∧(0≤x.ls∧x.ls≤1000)∧Fm (fun j=>b0≤j) h0 h'∧
 lk l 2 = .v (.c (.int .i64 sends))∧lk l 3 = .v (.c v)∧lk l 9 = .lp 0 0∧lk l 10 = .v (.c (.ptr p 0 0 0))∧lk l 11 = .v (.c (.int .i64 (lo:Int)))∧lk l 12 = .v (.c (.int .i64 (lo:Int)))∧lk l 13 = .v (.c (.int .i64 ((min i q:Nat):Int)))∧lk l 39 = .v (.c (.int .i64 (sd:Int)))∧lk l 40 = .v (.c (.int .i64 (i:Int)))
def LoI (b0:Nat) (h0:Hp) (nr hp lo q p:Nat) (xs:List Nat) (v:CV) (x:NodeX) (Q:List (Int × List Nat)) (m:Nat) (s:St):Prop:=∃ (i:Nat) (l:List (Nat × TV)) (h':Hp) (y:ClkX) (B C:Nat→Prop) (t:Nat) (since:Int),s=ST 156 l [CfgC nr hp 5 lo q] h'∧i≤200∧m=200-i∧
 InT b0 h' p x y Q lo q xs (t:Int) since B C∧lo≤t∧t≤lo+i∧Fm (fun j=>b0≤j) h0 h'∧
 lk l 3 = .v (.c v)∧lk l 9 = .lp 0 0∧lk l 10 = .v (.c (.ptr p 0 0 0))∧lk l 11 = .v (.c (.int .i64 ((lo+i:Nat):Int)))∧lk l 12 = .v (.c (.int .i64 (t:Int)))∧lk l 13 = .v (.c (.int .i64 (Q.length:Int)))∧lk l 69 = .v (.c (.int .i64 (i:Int)))
def LrI (h':Hp) (u:CV) (rows:List (List CV)) (m:Nat) (s:St):Prop:=∃ (i:Nat) (l:List (Nat × TV)) (lc:List (List CV)),s=ST 156 l lc h'∧i≤rows.length∧m=rows.length-i∧
 lk l 132 = .v (.c u)∧lk l 133 = .v (.c (.int .i64 (rows.length:Int)))∧lk l 134 = .v (.c (.int .i64 (i:Int)))
theorem nodeLoses_ok {loss queue sends:Int} (hv:SL h 1 v (H.map eBo)) (hP:∀ h',P (.c (.bool true)) h'):callW N (k+14) 442 [.c (.int .i64 loss),.c (.int .i64 queue),.c (.int .i64 sends),.c v] h P:=by
 have hlen:=hv.lm
 obtain ⟨s0,hs0⟩:=wrap_pos sends
 obtain ⟨sd,hsd⟩:∃ sd,sd=s0 % 10:=⟨_,rfl⟩
 have t10:Int.tmod (s0:Int) 10=(sd:Int):=by rw [hsd];exact tmod_nat s0 10
 have wsd:IntKind.wrap .u64 (sd:Int)=(sd:Int):=wrap_u64 (by omega)
 have wsd2:IntKind.wrap .i64 (sd:Int)=(sd:Int):=wrap_i64 (by omega)
 have z10:¬((10:Int)=0):=by decide
 refine ci rfl ?_
 simp only [KK,↓reduceIte,reduceLT,reduceEqDiff,reduceAdd,reduceCtorEq]
 refine config_ok (k:=k+12) fun h1 nr hp n lo q xs hn hlo hq h3 g1 nk g2 f1=>?_
 have hn5:n=5:=by have:=h3 3 (by decide) (by decide) rfl;omega
 subst hn5
 have cm:=cfgM_of hn hlo hq g1 nk g2
 unfold CfgC
 simp only [KK,↓reduceIte,reduceLT,reduceEqDiff,reduceAdd,reduceCtorEq]
 refine joined_ok (k:=k+1) (nr:=nr) (hp:=hp) (by omega) cm fun h2 p x y B C i2 la2 ls2 f2=>?_
 simp only [KK,↓reduceIte,reduceLT,reduceEqDiff]
 refine nsynced_ok (k:=k+12) i2.ok.at_.node ?_
 have n12:=f1.n
 have hvl:∀ j,ownId v j→j<h1.n:=by
  intro j hj
  have:=sl_lt hv j hj
  omega
 have hv2:=hv.new (f1.trans f2)
 have hsy2:=i2.sy
 simp only [KK,↓reduceIte,reduceLT,reduceEqDiff,hsy2,hs0,t10,z10,wsd2]
 refine loop_rd (callW_mono N _) (LsI h1.n h2 nr hp lo q p sd xs sends v) (n:=sd) ⟨0,_,h2,x,y,[],B,C,rfl,by omega,by omega,i2,by simp,by intro z hz;simp at hz,by omega,by omega,Fm.refl _ _,rfl,rfl,rfl,rfl,rfl,rfl,by simp;rfl,rfl,rfl⟩ ?_
 clear i2 la2 ls2 hsy2
 rintro m s ⟨i,l,h3',x,y,Q,B,C,rfl,hi,hm,i3,hQl,hQ2,hla,hls,f3,e2,e3,e9,e10,e11,e12,e13,e39,e40⟩
 have n3:h1.n≤h3'.n:=Nat.le_trans f2.n f3.n
 by_cases hlt:(i:Int)<(sd:Int)
 ·have w4:=wi1 i (by omega)
  obtain ⟨h4,hh4⟩:=nm (h3'.push (.rows true 1 0 0 [[.int .u8 1]]))
  have f4:Fn h3' h4:=by rw [hh4];exact Fm.push _ _ _
  have g4:h4.g h3'.n=some (.rows true 1 0 0 [[.int .u8 1]]):=by rw [hh4,g_push_eq]
  have s4:SL h4 1 (.sl h3'.n 0 0 1 (some 1)) (([1]:List Nat).map eB):=⟨true,0,0,_,g4,Nat.le_refl _,Nat.le_refl 1,rfl⟩
  have i4:=i3.new' f4 n3
  have n4:h1.n≤h4.n:=Nat.le_trans n3 f4.n
  obtain ⟨q1',q2',q3',q4',q5',q6',q7'⟩:=i4.ok.eq
  have hnx:nextN x (lo:Int)≤(lo:Int) * 64+(i+1:Nat)∧-1≤nextN x (lo:Int):=by unfold nextN;omega
  simp only [KK,↓reduceIte,reduceLT,reduceEqDiff,e2,e3,e9,e10,e11,e12,e13,e39,e40,hlt,chunks,hh4.symm]
  refine nsend_ok (k:=k+7) (now:=(lo:Int)) (to:=0) (D:=[1]) (by omega) i4.ok.at_ i4.par i4.sy (by rw [q1'];decide) (by rw [i4.id];decide) (by rw [q7'];decide) (by omega) (by rw [q6'];omega) (by omega) s4 (by simp) (by simp)
   (fun h5 e he hn ⟨C5,a5,c5⟩ p5 f5=>?_) (fun h5 hc ⟨C5,a5,c5⟩ p5 f5=>?_)
  ·have hfull:¬Q.length<q:=fun hlt=>hn ⟨⟨by omega,by rw [q1'];decide⟩,by rw [i4.id];decide,by decide,by simp [firstL],by omega,by rw [q6'];omega⟩
   have he2:¬e=0:=he
   simp only [KK,↓reduceIte,reduceLT,reduceEqDiff,he2,w4,rd_n]
   refine ⟨m-1,by omega,i+1,_,h5,x,y,Q,B,C5,rfl,by omega,by omega,⟨i4.ok.step a5 f5 (fun j e=>.inr (.inr (.inr (.inl e)))) (fun j e=>.inl e) c5 ⟨rfl,rfl,rfl,rfl,rfl,rfl,rfl,rfl,rfl,rfl⟩ n4,p5,i4.id,i4.sy,i4.ev⟩,by omega,hQ2,by omega,hls,?_,rfl,rfl,rfl,rfl,rfl,rfl,?_,rfl,rfl⟩
   ·exact f3.trans ((f4.mono fun _ _ e=>e.elim).trans (f5.mono fun j _ e=>i4.ok.bc j e))
   ·show TV.v (AV.c (CV.int IntKind.i64 ((min i q:Nat):Int)))=_
    rw [show min i q=min (i+1) q by omega]
  ·have hroom:Q.length<q:=by have:=hc.room;rw [q6'] at this;omega
   have w5:IntKind.wrap .i64 (((min i q:Nat):Int)+1)=((min (i+1) q:Nat):Int):=by rw [wrap_i64 (by omega)];omega
   have z0:decide ((0:Int)=0)=true:=by decide
   simp only [KK,↓reduceIte,reduceLT,reduceEqDiff,w5,w4,rd_n]
   refine ⟨m-1,by omega,i+1,_,h5,{x with last:=nextN x (lo:Int)},y,_,B,C5,rfl,by omega,by omega,⟨i4.ok.step a5 f5 (fun j e=>e.elim .inl (fun e=>.inr (.inr (.inr (.inl e))))) (fun j e=>.inl e) c5 ⟨rfl,rfl,rfl,rfl,rfl,rfl,rfl,rfl,rfl,rfl⟩ n4,p5,i4.id,i4.sy,i4.ev⟩,by rw [List.length_append,List.length_singleton];omega,?_,⟨hnx.2,hnx.1⟩,hls,?_,rfl,rfl,rfl,rfl,rfl,rfl,rfl,rfl,rfl⟩
   ·intro z hz
    rcases List.mem_append.mp hz with hz|hz
    ·exact hQ2 z hz
    ·rw [List.mem_singleton] at hz
     subst hz
     have i1:x.id.toNat=2:=by rw [i4.id];rfl
     have hli:x.li.toNat=6:=by rw [q7'];rfl
     refine ⟨sendP x (lo:Int) 0 [1],?_,by simp [sendP,i1],by simp [sendP],rfl⟩
     refine ⟨by simp [sendP,i1],by simp [sendP],by simp [sendP,i1],by simp only [sendP];omega,by simp [sendP,hli],⟨by simp [sendP,i1],by simp [sendP],by simp [sendP]⟩,by simp [sendP],by simp [sendP]⟩
   ·exact f3.trans ((f4.mono fun _ _ e=>e.elim).trans (f5.mono fun j _ e=>e.elim (fun e=>by rw [e];exact i4.ok.bp) (fun e=>i4.ok.bc j e)))
 have hi2:i=sd:=by omega
 subst hi2
 have hmin:min (i:Int) (q:Int)=((min i q:Nat):Int):=by omega
 have hQle:Q.length≤10:=by omega
 have dd:decide (((min i q:Nat):Int)=((min i q:Nat):Int))=true:=by simp
 simp only [KK,↓reduceIte,reduceLT,reduceEqDiff,e2,e3,e9,e10,e11,e12,e13,e39,e40,hlt,hs0,t10,z10,wsd2,CfgC,hmin]
 refine nwaiting_ok (k:=k+11) i3.ok.at_ ?_
 rw [hQl]
 simp only [KK,↓reduceIte,reduceLT,reduceEqDiff]
 have hQOk:=hQ2.ok (by omega)
 refine loop_rd (callW_mono N _) (LoI h1.n h2 nr hp lo q p xs v x Q) (n:=200) ⟨0,_,h3',y,B,C,lo,0,rfl,by omega,by omega,i3,by omega,by omega,f3,rfl,rfl,rfl,rfl,rfl,by rw [hQl];rfl,rfl⟩ ?_
 clear e2 e3 e9 e10 e11 e12 e13 e39 e40 i3 f3 n3
 rintro m s ⟨j,l,h4,y,B,C,t,since,rfl,hj,hm,i4,ht1,ht2,f4,e3,e9,e10,e11,e12,e13,e69⟩
 have n4:h1.n≤h4.n:=Nat.le_trans f2.n f4.n
 by_cases hlt2:(j:Int)<200
 case neg=>
  simp only [KK,↓reduceIte,reduceLT,reduceEqDiff,e3,e9,e10,e11,e12,e13,e69,hlt2]
  refine awakeL_ok (k:=k+12) ?_
  simp only [KK,↓reduceIte,reduceLT]
  exact hP _
 have w4:=wi1 j (by omega)
 have w11:IntKind.wrap .i64 (((lo+j:Nat):Int)+1)=((lo+(j+1):Nat):Int):=by rw [wrap_i64 (by omega)];omega
 simp only [KK,↓reduceIte,reduceLT,reduceEqDiff,e3,e9,e10,e11,e12,e13,e69,hlt2,w11]
 refine slotI_ok (k:=k+10) (a:=lo+(j+1)) (by omega) i4 n4 (by omega) fun h5 y5 i5 f5=>?_
 have n5:h1.n≤h5.n:=Nat.le_trans n4 f5.n
 have tail:∀ (t':Nat) (h6:Hp) (y6:ClkX) (B6:Nat→Prop) (since6:Int) (l:List (Nat × TV)),InT h1.n h6 p x y6 Q lo q xs (t':Int) since6 B6 C→lo≤t'→t'≤lo+(j+1)→Fm (fun j=>h1.n≤j) h2 h6→True:=fun _ _ _ _ _ _ _ _ _ _=>trivial
 have hvh:∀ h6,Fm (fun j=>h1.n≤j) h2 h6→SL h6 1 v (H.map eBo):=fun h6 f6=>hv2.off f6 (fun j hj e=>by have:=hvl j hj;omega)
 have f25:Fm (fun j=>h1.n≤j) h2 h5:=f4.trans f5
 have q1:((1:Nat):Int)=1:=rfl
 obtain ⟨hb,hhb⟩:∃ hb:Bool,hb=(H[j]?).getD false:=⟨_,rfl⟩
 cases hb with
 | true=>
  have hjl:j<H.length:=by
   rcases Nat.lt_or_ge j H.length with h|h
   ·exact h
   ·rw [List.getElem?_eq_none h] at hhb;cases hhb
  have hHj:H[j]? = some true:=by
   rw [List.getElem?_eq_getElem hjl] at hhb ⊢
   rw [Option.getD_some] at hhb
   rw [←hhb]
  obtain ⟨id,tok,jj,a1,a2⟩:=(hvh h5 f25).at (i:=(j:Int)) (r:=eBo true) (by omega) (by simp [hHj])
  unfold eBo at a2
  have cl:(j:Int)<(H.length:Int):=by omega
  simp only [KK,↓reduceIte,reduceLT,reduceEqDiff,hlen,cl,a1,a2]
  refine beacon_ok (k:=k+8) (s:=1) (r:=1) (a:=lo+(j+1)) (by omega) (by omega) (by omega) fun h6 u6 k6 cu6 f6=>?_
  simp only [KK,↓reduceIte,reduceLT,reduceEqDiff]
  refine again_ok (k:=k+2) (a:=lo+(j+1)) (i5.new' f6 n5) (Nat.le_trans n5 f6.n) (by omega) k6 cu6 fun h7 y7 B7 w7 i7 f7=>?_
  have n7:h1.n≤h7.n:=Nat.le_trans n5 (Nat.le_trans f6.n f7.n)
  simp only [KK,↓reduceIte,reduceLT,reduceEqDiff]
  refine endI_ok (k:=k+4) (a:=lo+(j+1)) (by omega) i7 n7 (by omega) hQOk (fun h8 w8 B8 since8 hc i8 w8' f8=>?_) (fun h8 w8 B8 tr rows hc _ _ _=>?_)
  case refine_2=>omega
  have hl8:∀ h':Hp,lenT h' .sl (.v (.c w8))=some 0:=fun h'=>by rw [w8'.sl.len h'];rfl
  have ws:IntKind.wrap .i64 (((lo+(j+1):Nat):Int)-((lo+(j+1):Nat):Int))=0:=by rw [Int.sub_self];decide
  have c0:(0:Int)<(lo:Int):=by omega
  have z00:decide ((0:Int)=0)=true:=by decide
  simp only [KK,↓reduceIte,reduceLT,reduceEqDiff,CfgC,ws,c0,hl8]
  refine nsynced_ok (k:=k+12) i8.ok.at_.node ?_
  have hsy8:=i8.sy
  simp only [KK,↓reduceIte,reduceLT,reduceEqDiff,hsy8,w4,rd_n]
  exact ⟨m-1,by omega,j+1,_,h8,y7,B8,C,lo+(j+1),since8,rfl,by omega,by omega,i8,by omega,by omega,f25.trans ((f6.mono fun _ _ e=>e.elim).trans (f7.trans f8)),rfl,rfl,rfl,rfl,rfl,rfl,rfl⟩
 | false=>
  have skip:(¬(j:Int)<(H.length:Int))∨((j:Int)<(H.length:Int)∧∃ id tok jj,iaddrT h5 1 (.v (.c v)) (j:Int)=some (.v (.c (.ptr id tok jj 0)))∧rowO (h5.g id) tok jj=some [.bool false]):=by
   rcases Nat.lt_or_ge j H.length with hl|hl
   ·refine .inr ⟨by omega,?_⟩
    have hHj:H[j]? = some false:=by
     rw [List.getElem?_eq_getElem hl] at hhb ⊢
     rw [Option.getD_some] at hhb
     rw [←hhb]
    exact (hvh h5 f25).at (i:=(j:Int)) (r:=eBo false) (by omega) (by simp [hHj])
   ·exact .inl (by omega)
  have f25':=f25
  rcases skip with cl|⟨cl,id,tok,jj,a1,a2⟩
  case' inl=>simp only [KK,↓reduceIte,reduceLT,reduceEqDiff,hlen,cl]
  case' inr=>simp only [KK,↓reduceIte,reduceLT,reduceEqDiff,hlen,cl,a1,a2]
  all_goals
   refine endI_ok (k:=k+4) (a:=lo+(j+1)) (by omega) i5 n5 (by omega) hQOk (fun h8 w8 B8 since8 hc i8 w8' f8=>?_) (fun h8 w8 B8 tr rows hc x8 w8' dr=>?_)
   ·have hl8:∀ h':Hp,lenT h' .sl (.v (.c w8))=some 0:=fun h'=>by rw [w8'.sl.len h'];rfl
    have ws:IntKind.wrap .i64 (((lo+(j+1):Nat):Int)-(t:Int))=((lo+(j+1):Nat):Int)-(t:Int):=wrap_i64 (by omega)
    have z00:decide ((0:Int)=0)=true:=by decide
    simp only [KK,↓reduceIte,reduceLT,reduceEqDiff,CfgC,ws,hc,hl8]
    refine nsynced_ok (k:=k+12) i8.ok.at_.node ?_
    have hsy8:=i8.sy
    simp only [KK,↓reduceIte,reduceLT,reduceEqDiff,hsy8,w4,rd_n]
    exact ⟨m-1,by omega,j+1,_,h8,y5,B8,C,t,since8,rfl,by omega,by omega,i8,by omega,by omega,f25.trans f8,rfl,rfl,rfl,rfl,rfl,rfl,rfl⟩
   ·have hall:rows.length=Q.length:=dr.all (fun z hz=>by
     obtain ⟨pk,k1,k2,k3,k4⟩:=hQ2 z hz
     rw [k4,decP_rB k1]
     simp)
    have hl8:∀ h':Hp,lenT h' .sl (.v (.c w8))=some ((Q.length+1:Nat):Int):=fun h'=>by rw [w8'.sl.len h',List.length_cons,hall]
    have ws:IntKind.wrap .i64 (((lo+(j+1):Nat):Int)-(t:Int))=((lo+(j+1):Nat):Int)-(t:Int):=wrap_i64 (by omega)
    have wq:IntKind.wrap .i64 (1+(Q.length:Int))=((Q.length+1:Nat):Int):=by rw [wrap_i64 (by omega)];omega
    have dq:decide (((Q.length+1:Nat):Int)=((Q.length+1:Nat):Int))=true:=by simp
    obtain ⟨id0,tok0,j0,b1,b2⟩:=w8'.sl.at (i:=0) (r:=evR 3 2 0) (by omega) rfl
    unfold evR at b2
    have z33:decide ((3:Int)=3)=true:=by decide
    simp only [KK,↓reduceIte,reduceLT,reduceEqDiff,CfgC,ws,hc,hl8,wq,b1,b2]
    refine nsynced_ok (k:=k+12) x8.node ?_
    have hsy8:(lostX x tr).sy=false:=rfl
    simp only [KK,↓reduceIte,reduceLT,reduceEqDiff,hsy8]
    refine nwaiting_ok (k:=k+11) x8 ?_
    have z00:decide (((0:Nat):Int)=0)=true:=by decide
    have cw:CapL w8:=by
     intro id tok off len c e
     have:=w8'.cap _ _ _ _ _ e
     cases this
    obtain ⟨u,s1,s2,s3,s4⟩:=w8'.sl.rest cw (by decide) (m:=1) (by rw [List.length_cons];omega)
    have s2:SL h8 10 u rows:=s2
    have hlu:∀ h':Hp,lenT h' .sl (.v (.c u))=some (rows.length:Int):=fun h'=>s2.len h'
    simp only [KK,↓reduceIte,reduceLT,reduceEqDiff,z00,s1,hlu]
    refine loop_rd (callW_mono N _) (LrI h8 u rows) (n:=rows.length) ⟨0,_,_,rfl,by omega,by omega,rfl,rfl,rfl⟩ ?_
    rintro mm st ⟨ii,ll,lc,rfl,hii,hmm,e132,e133,e134⟩
    by_cases hlt3:(ii:Int)<(rows.length:Int)
    ·obtain ⟨row,hrow⟩:∃ row,rows[ii]? = some row:=⟨_,List.getElem?_eq_getElem (by omega)⟩
     obtain ⟨pk,ra,rd,hr,z,hz,hd⟩:=dr.mem row (List.mem_of_getElem? hrow)
     have hfr:(pk.fr:Int)=2:=by
      obtain ⟨pk',k1,k2,k3,k4⟩:=hQ2 z hz
      rw [k4,decP_rB k1] at hd
      injection hd with hd
      rw [←hd,k2]
      rfl
     obtain ⟨id1,tok1,j1,c1,c2⟩:=s2.at (i:=(ii:Int)) (r:=row) (by omega) (by simp [hrow])
     rw [hr] at c2
     unfold dropR Pk.row at c2
     rw [hfr] at c2
     have w6:=wi1 ii (by omega)
     simp only [KK,↓reduceIte,reduceLT,reduceEqDiff,reduceAdd,e132,e133,e134,hlt3,c1,c2,w6,rd_n]
     exact ⟨mm-1,by omega,ii+1,_,_,rfl,by omega,by omega,rfl,rfl,rfl⟩
    ·simp only [KK,↓reduceIte,reduceLT,reduceEqDiff,e132,e133,e134,hlt3]
     refine awakeL_ok (k:=k+12) ?_
     simp only [KK,↓reduceIte,reduceLT]
     exact hP _
end
end
section
theorem sl_take {h:Hp} {sz id n:Nat} {rows:List (List CV)} (e:h.obs[id]? = some (.rows false sz 0 0 rows)) (hn:n≤rows.length) (c:Option Nat):SL h sz (.sl id 0 0 n c) (rows.take n):=
 ⟨false,0,0,rows,e,Nat.le_refl _,by omega,by simp⟩
theorem wtr_bo {hp:Hp} {rows:List (List CV)} {b:Nat} (h:WTR hp [.bool] rows b):∃ L:List Bool,rows=L.map eBo:=by
 induction rows generalizing b with
 | nil=>exact ⟨[],rfl⟩
 | cons r rs ih=>
  cases h with
  | cons h1 h2=>
   obtain ⟨L,rfl⟩:=ih h2
   cases h1 with
   | bool h1=>
    cases h1
    exact ⟨_::L,rfl⟩
theorem wt_bo {hp:Hp} {w:CV} {b:Nat} (h:WT hp [.sl [.bool]] [w] b):∃ L:List Bool,SL hp 1 w (L.map eBo):=by
 cases h with
 | nils h=>exact ⟨[],rfl⟩
 | sl g hn hr h=>
  rename_i id n c rows b'
  obtain ⟨L,rfl⟩:=wtr_bo hr
  refine ⟨L.take n,?_⟩
  rw [List.map_take]
  exact sl_take g hn _
end
end Camp
