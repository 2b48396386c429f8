/- What code must bring about: the machine's steps as claims on what follows. One operation in a frame: what the model does when the machine's claim holds. Regions of fixed order, and code. Code and functions: the machine's claim is the model's. Functions: what the machine claims of a call, the model's call does. Allocations at ids that were kept for them. One operation in a region of drawn order. What an operation does not look at, it does not need: dead objects. Dead objects: every operation. Dead objects: one operation, a region, code, a call. Dead objects: regions, code, calls. Dead objects: regions of drawn order, code, calls. Dead objects: code and calls. -/
import Derived.Test.YtjcbeikfobfjmaaGreatEngC
import Derived.LoopN
import Derived.Laws.Sem
set_option linter.unnecessarySimpa false
set_option linter.unusedVariables false
set_option linter.unusedSimpArgs false
set_option linter.unusedSectionVars false
namespace Camp
open Go Go.RowKit
section
abbrev CallW:=Nat→List AV→Hp→(AV→Hp→Prop)→Prop
def noCall:CallF:=fun _ _ _=>none
def nopW (call:CallW) (s:St) (op:NO) (post:Res→Prop):Prop:=
 match op with
 | .call f args=>∃ l,evL s.tm args=some l∧call f l s.hp fun r h=>post ⟨.v r,s.lc,h⟩
 | .dyn f args=>∃ l g caps,evL s.tm args=some l∧f.ev s.tm = .v (.c (.fn g caps))∧call g (l++caps.map .c) s.hp fun r h=>post ⟨.v r,s.lc,h⟩
 | .inv tb x args=>∃ l g v,evL s.tm args=some l∧methodV tb (x.ev s.tm)=some (g,v)∧call g (v::l) s.hp fun r h=>post ⟨.v r,s.lc,h⟩
 | .next str x=>∀ o:Nat→Nat,∃ q,nop noCall o s (.next str x)=some q∧post q
 | op=>∃ q,nop noCall (fun _=>0) s op=some q∧post q
def allocAt (s:St) (id:Nat):NO→Option Res
 | .box false sz x=>(asV (x.ev s.tm)).bind fun a=>if a.cells.length=sz then some ⟨ptrTo id,s.lc,s.hp.put id (.rows true sz 0 0 [a.cells])⟩ else none
 | .bslice false sz n zero ps=>(evP s.tm ps).bind fun l=>(fillCells (List.replicate n zero).flatten l).map fun cs=>
  ⟨.v (.c (.sl id 0 0 n (some n))),s.lc,s.hp.put id (.rows true sz 0 0 (chunks sz n cs))⟩
 | .mkmap=>some ⟨.v (.c (.map id)),s.lc,s.hp.put id (.map true [] 0)⟩
 | .mkslice sz bytes zero len cap=>
  (asI (len.ev s.tm)).bind fun l=>(asI (cap.ev s.tm)).bind fun c=>
   if 0≤l.2∧l.2≤c.2∧c.2 * bytes≤70368744177664∧c.2≤70368744177664 then
    some ⟨.v (.c (.sl id 0 0 l.2.toNat (some c.2.toNat))),s.lc,s.hp.put id (.rows true sz 0 0 (List.replicate c.2.toNat zero))⟩
   else none
 | _=>none
def after (r:NR) (s:St) (q:Res):St:=⟨putT s.tm r.dst q.v,q.lc,q.hp⟩
def stepW (call:CallW) (r:NR) (s:St) (post:St→Prop):Prop:=
 match wanted s.tm r.guard with
 | some true=>nopW call s r.op fun q=>post (after r s q)
 | some false=>post { s with tm:=putT s.tm r.dst .un }
 | none=>False
def runW (call:CallW):List NR→St→(St→Prop)→Prop
 | [],s,post=>post s
 | r::l,s,post=>stepW call r s fun s'=>runW call l s' post
def stepD (call:CallW) (base:Nat) (al:Option Nat) (r:NR) (s:St) (post:St→Prop):Prop:=
 match al with
 | none=>stepW call r s post
 | some k=>match wanted s.tm r.guard with
  | some true=>s.hp.obs[base+k]? = some .dead∧∃ q,allocAt s (base+k) r.op=some q∧post (after r s q)
  | some false=>post { s with tm:=putT s.tm r.dst .un }
  | none=>False
def val (r:NR) (s:St):Option TV:=
 match wanted s.tm r.guard with
 | some true=>(nop noCall (fun _=>0) s r.op).map (·.v)
 | some false=>some .un
 | none=>none
def again (r:NR) (s:St):Prop:=∃ d,r.dst=some d∧val r s=some (gt s.tm d)
def againL:List (Nat × NR)→St→Prop
 | [],_=>True
 | c::l,s=>again c.2 s∧againL l s
def drawW (call:CallW) (base:Nat):List DI→St→(St→Prop)→Prop
 | [],s,post=>post s
 | d::l,s,post=>stepD call base d.al d.r s fun s'=>againL d.chk s'∧drawW call base l s' post
def loopW (f:St→(Ex→St→Prop)→Prop):Nat→St→(Ex→St→Prop)→Prop
 | 0,_,_=>False
 | n+1,s,Q=>f s fun e s'=>match e with
  | .normal=>loopW f n s' Q
  | e=>Q e s'
def okLive (nlc:Nat):TV→Bool
 | .lp k _=>decide (k<nlc)
 | .lsl k _=>decide (k<nlc)
 | _=>true
def keepLive (live:List Nat) (tm:List TV):List TV:=(List.range tm.length).map fun i=>if live.contains i then gt tm i else .u
def awp (call:CallW):Code→St→(Ex→St→Prop)→Prop
 | .skip,s,Q=>Q .normal s
 | .kill live nlc,s,Q=>nlc≤s.lc.length∧(keepLive live s.tm).all (okLive nlc)=true∧Q .normal ⟨keepLive live s.tm,s.lc.take nlc,s.hp⟩
 | .region ops,s,Q=>runW call ops s (Q .normal)
 | .draw nal ord,s,Q=>drawW call s.hp.obs.length ord { s with hp:={ s.hp with obs:=s.hp.obs++List.replicate nal .dead } } (Q .normal)
 | .seq a b,s,Q=>awp call a s fun e s'=>match e with
  | .normal=>awp call b s' Q
  | e=>Q e s'
 | .cond c a b,s,Q=>match c.ev s.tm with
  | .v (.c (.bool true))=>awp call a s Q
  | .v (.c (.bool false))=>awp call b s Q
  | _=>False
 | .block id b,s,Q=>awp call b s fun e s'=>match e with
  | .exit i=>if i=id then Q .normal s' else Q (.exit i) s'
  | e=>Q e s'
 | .loop b,s,Q=>∃ n,loopW (awp call b) n s Q
 | .exit id,s,Q=>Q (.exit id) s
 | .ret,s,Q=>Q .ret s
 | .prim F n,s,Q=>∃ l r,s.tm[n]? = some .u∧evL s.tm ((List.range n).map .t)=some l∧F l=some r∧Q .ret ⟨s.tm.set n (.v r),s.lc,s.hp⟩
 | .fin b ops,s,Q=>awp call b s fun e s'=>(e = .normal∨e = .ret)∧runW call ops s' (Q .ret)
def results? (tm:List TV) (rs:List Nat):Option AV:=
 match rs with
 | [r]=>asV (gt tm r)
 | rs=>(evL tm (rs.map .t)).map .tup
def callW (N:Nat→Option NF):Nat→CallW
 | 0=>fun _ _ _ _=>False
 | k+1=>fun f args hp post=>∃ nf,N f=some nf∧args.length≤nf.ntmps∧
  awp (callW N k) nf.body ⟨args.map .v++List.replicate (nf.ntmps-args.length) .u,[],hp⟩ fun e s=>(e = .normal∨e = .ret)∧∃ r,results? s.tm nf.results=some r∧post r s.hp
def CallW.Mono (call:CallW):Prop:=∀ f args hp (p p':AV→Hp→Prop),(∀ r h,p r h→p' r h)→call f args hp p→call f args hp p'
theorem nopW_mono {call:CallW} (hc:call.Mono) {s:St} {op:NO} {p p':Res→Prop} (h:∀ q,p q→p' q) (k:nopW call s op p):nopW call s op p':=by
 cases op <;> simp only [nopW] at k ⊢
 case call f args=>
  obtain ⟨l,h1,h2⟩:=k
  exact ⟨l,h1,hc _ _ _ _ _ (fun _ _=>h _) h2⟩
 case dyn f args=>
  obtain ⟨l,g,caps,h1,h2,h3⟩:=k
  exact ⟨l,g,caps,h1,h2,hc _ _ _ _ _ (fun _ _=>h _) h3⟩
 case inv tb f args=>
  obtain ⟨l,g,caps,h1,h2,h3⟩:=k
  exact ⟨l,g,caps,h1,h2,hc _ _ _ _ _ (fun _ _=>h _) h3⟩
 case next str x=>
  intro o
  obtain ⟨q,h1,h2⟩:=k o
  exact ⟨q,h1,h _ h2⟩
 all_goals
  obtain ⟨q,h1,h2⟩:=k
  exact ⟨q,h1,h _ h2⟩
theorem stepW_mono {call:CallW} (hc:call.Mono) {r:NR} {s:St} {p p':St→Prop} (h:∀ s,p s→p' s) (k:stepW call r s p):stepW call r s p':=by
 unfold stepW at *
 split <;> rename_i hw <;> rw [hw] at k <;> simp only at k
 ·exact nopW_mono hc (fun q=>h _) k
 ·exact h _ k
theorem runW_mono {call:CallW} (hc:call.Mono):∀ {l:List NR} {s:St} {p p':St→Prop},(∀ s,p s→p' s)→runW call l s p→runW call l s p'
 | [],s,p,p',h,k=>h _ k
 | r::l,s,p,p',h,k=>stepW_mono hc (fun s'=>runW_mono hc h) k
theorem stepD_mono {call:CallW} (hc:call.Mono) {base:Nat} {al:Option Nat} {r:NR} {s:St} {p p':St→Prop} (h:∀ s,p s→p' s) (k:stepD call base al r s p):stepD call base al r s p':=by
 cases al with
 | none=>exact stepW_mono hc h k
 | some i=>
  simp only [stepD] at k ⊢
  split <;> rename_i hw <;> rw [hw] at k <;> simp only at k
  ·obtain ⟨h1,q,h2,h3⟩:=k
   exact ⟨h1,q,h2,h _ h3⟩
  ·exact h _ k
theorem drawW_mono {call:CallW} (hc:call.Mono) {base:Nat}:∀ {l:List DI} {s:St} {p p':St→Prop},(∀ s,p s→p' s)→drawW call base l s p→drawW call base l s p'
 | [],s,p,p',h,k=>h _ k
 | d::l,s,p,p',h,k=>stepD_mono hc (fun s' k'=>⟨k'.1,drawW_mono hc h k'.2⟩) k
theorem loopW_mono {f:St→(Ex→St→Prop)→Prop} (hf:∀ s (Q Q':Ex→St→Prop),(∀ e s,Q e s→Q' e s)→f s Q→f s Q'):∀ (n:Nat) (s:St) (Q Q':Ex→St→Prop),(∀ e s,Q e s→Q' e s)→loopW f n s Q→loopW f n s Q'
 | 0,_,_,_,_,k=>k
 | n+1,s,Q,Q',h,k=>hf _ _ _ (fun e s'=>by
  cases e with
  | normal=>exact loopW_mono hf n s' Q Q' h
  | exit i=>exact h _ _
  | ret=>exact h _ _) k
theorem awp_mono {call:CallW} (hc:call.Mono):∀ (c:Code) (s:St) (Q Q':Ex→St→Prop),(∀ e s,Q e s→Q' e s)→awp call c s Q→awp call c s Q':=by
 intro c
 induction c with
 | skip=>exact fun s Q Q' h k=>h _ _ k
 | kill live nlc=>exact fun s Q Q' h k=>⟨k.1,k.2.1,h _ _ k.2.2⟩
 | region ops=>exact fun s Q Q' h k=>runW_mono hc (fun s=>h _ s) k
 | draw nal ord=>exact fun s Q Q' h k=>drawW_mono hc (fun s=>h _ s) k
 | seq a b iha ihb=>
  intro s Q Q' h k
  refine iha s _ _ (fun e s'=>?_) k
  cases e with
  | normal=>exact ihb s' Q Q' h
  | exit i=>exact h _ _
  | ret=>exact h _ _
 | cond c a b iha ihb=>
  intro s Q Q' h k
  simp only [awp] at k ⊢
  split <;> rename_i hw <;> simp only [hw] at k
  ·exact iha s Q Q' h k
  ·exact ihb s Q Q' h k
 | block id b ih=>
  intro s Q Q' h k
  refine ih s _ _ (fun e s'=>?_) k
  cases e with
  | normal=>exact h _ _
  | exit i=>simp only;split <;> exact h _ _
  | ret=>exact h _ _
 | loop b ih=>
  intro s Q Q' h ⟨n,k⟩
  exact ⟨n,loopW_mono ih n s Q Q' h k⟩
 | exit id=>exact fun s Q Q' h k=>h _ _ k
 | ret=>exact fun s Q Q' h k=>h _ _ k
 | prim F n=>exact fun s Q Q' h ⟨l,r,h0,h1,h2,k⟩=>⟨l,r,h0,h1,h2,h _ _ k⟩
 | fin b ops ih=>exact fun s Q Q' h k=>ih s _ _ (fun e s' k'=>⟨k'.1,runW_mono hc (fun s=>h _ s) k'.2⟩) k
theorem callW_mono (N:Nat→Option NF):∀ k,(callW N k).Mono
 | 0,_,_,_,_,_,_,k=>k
 | n+1,f,args,hp,p,p',h,⟨nf,h1,h2,h3⟩=>
  ⟨nf,h1,h2,awp_mono (callW_mono N n) _ _ _ _ (fun e s ⟨k1,r,k2,k3⟩=>⟨k1,r,k2,h _ _ k3⟩) h3⟩
end
section
theorem compCall_still {P:Program} {rn:FuncId→Nat} {c:Call} {b:Builtin} {n:NO} (hb:c.callee = .builtin b) (h:compCall P rn c=some n):n.still=true:=by
 unfold compCall at h
 rw [Option.bind_eq_some_iff] at h
 obtain ⟨args,hx,h⟩:=h
 rw [hb] at h
 simp only at h
 (repeat' split at h) <;> first
  | (injection h with h;subst h;rfl)
  | (cases h;done)
  | (simp only [Option.map_eq_some_iff] at h;obtain ⟨_,_,rfl⟩:=h;rfl)
  | (simp only [Option.bind_eq_some_iff] at h;obtain ⟨_,_,_,_,h⟩:=h;split at h <;> first|(injection h with h;subst h;rfl)|(cases h;done))
theorem compOp_still {P:Program} {rn:FuncId→Nat} {loc:Bool} {op:Op} {n:NO} (hop:∀ c,op≠.call c) (h:compOp P rn loc op=some n):n.still=true:=by
 unfold compOp at h
 split at h
 all_goals try (exfalso;exact hop _ rfl)
 all_goals repeat' (first
  | (injection h with h;subst h;rfl)
  | (cases h;done)
  | (rw [Option.bind_eq_some_iff] at h;obtain ⟨_,_,h⟩:=h)
  | (rw [Option.map_eq_some_iff] at h;obtain ⟨_,_,h⟩:=h;subst h;rfl)
  | split at h)
theorem compOp_call {P:Program} {rn:FuncId→Nat} {loc:Bool} {op:Op} {n:NO} (h:compOp P rn loc op=some n) (hs:n.still=false) :
 ∃ c args,op = .call c∧compXs rn c.args.toList=some args∧((∃ g,c.callee = .value (.func g)∧n = .call (rn g) args)∨(∃ t,c.callee = .value (.tmp t)∧n = .dyn (.t t) args)∨∃ x nm nx,c.callee = .invoke x nm∧compX rn x=some nx∧n = .inv (tbOf P rn nm) nx args):=by
 by_cases hop:∀ c,op≠.call c
 ·rw [compOp_still hop h] at hs;cases hs
 ·simp only [ne_eq,Classical.not_forall,Classical.not_not] at hop
  obtain ⟨c,rfl⟩:=hop
  simp only [compOp] at h
  cases hcal:c.callee with
  | builtin b=>rw [compCall_still hcal h] at hs;cases hs
  | value x=>
   unfold compCall at h
   rw [Option.bind_eq_some_iff] at h
   obtain ⟨args,hx,h⟩:=h
   rw [hcal] at h
   refine ⟨c,args,rfl,hx,?_⟩
   cases x with
   | func f=>simp only [Option.some.injEq] at h;exact .inl ⟨f,hcal,h.symm⟩
   | tmp t=>simp only [Option.some.injEq] at h;exact .inr (.inl ⟨t,hcal,h.symm⟩)
   | _=>cases h
  | invoke r f=>
   unfold compCall at h
   rw [Option.bind_eq_some_iff] at h
   obtain ⟨args,hx,h⟩:=h
   rw [hcal] at h
   simp only [Option.map_eq_some_iff] at h
   obtain ⟨nx,h1,rfl⟩:=h
   exact ⟨c,args,rfl,hx,.inr (.inr ⟨r,f,nx,hcal,h1,rfl⟩)⟩
def Top (G:Gh) (hp:Hp):Prop:=∀ id,(hp.f id=some .dead∨hp.obs.length≤id)→(∀ tok,G.rows id tok=none)∧G.obj id=none
structure Inv (E:Env) (B:Nat) (G:Gh) (m:Mu) (s:St) (a:Act) (w:World):Prop where
 tm:RTm E G m s.tm a.tmps
 hp:RH E G B s.hp.f w
 lc:RLc E G B s.hp.f m s.lc w
 free:Top G s.hp
 freem:∀ k,s.lc.length≤k→m k=none
 noDef:a.defers=[]
 size:s.tm.length≤a.tmps.size
structure Mv (B:Nat) (G:Gh) (m:Mu) (hp:Hp) (lc:List (List CV)) (w:World) (G':Gh) (m':Mu) (hp':Hp) (lc':List (List CV)) (w':World):Prop where
 ext:Ext G G' hp'.obs.length
 fr:Fr (fun b=>(Owned G hp.f b∨Loc m lc b)∧B≤b) w w'
 own:∀ b,Owned G' hp'.f b→Owned G hp.f b∨w.heap.size≤b
 lown:∀ b,Loc m' lc' b→Loc m lc b∨w.heap.size≤b
 grow:hp.obs.length≤hp'.obs.length
 dead:DeadOk G G' hp hp'
section
variable {P:Program} {E:Env} {G G' G'':Gh} {B:Nat} {m m' m'':Mu} {s s' s'':St} {a:Act} {w w' w'' w1:World}
variable {call:CallW} {o:Oper} {q:Res}
theorem Mv.refl:Mv B G m s.hp s.lc w G m s.hp s.lc w:=⟨Ext.refl _ _,Fr.refl _ _,fun _ h=>.inl h,fun _ h=>.inl h,Nat.le_refl _,fun _ h=>⟨.inl h,rfl,rfl⟩⟩
theorem Mv.trans {hp hp' hp'':Hp} {lc lc' lc'':List (List CV)} (h:Mv B G m hp lc w G' m' hp' lc' w') (k:Mv B G' m' hp' lc' w' G'' m'' hp'' lc'' w''):Mv B G m hp lc w G'' m'' hp'' lc'' w'':=by
 refine ⟨h.ext.trans k.ext k.grow,h.fr.trans k.fr ?_,?_,?_,Nat.le_trans h.grow k.grow,?_⟩
 ·rintro b ⟨hb|hb,hB⟩
  ·exact (h.own b hb).imp (fun h=>⟨.inl h,hB⟩) id
  ·exact (h.lown b hb).imp (fun h=>⟨.inr h,hB⟩) id
 ·intro b hb
  rcases k.own b hb with h1|h1
  ·exact h.own b h1
  ·exact .inr (Nat.le_trans h.fr.size h1)
 ·intro b hb
  rcases k.lown b hb with h1|h1
  ·exact h.lown b h1
  ·exact .inr (Nat.le_trans h.fr.size h1)
 ·intro id hid
  obtain ⟨h1,h2,h3⟩:=k.dead id hid
  rcases h1 with h1|h1
  ·obtain ⟨k1,k2,k3⟩:=h.dead id h1
   exact ⟨k1,h2.trans k2,h3.trans k3⟩
  ·obtain ⟨k2,k3⟩:=h.ext.above id h1
   exact ⟨.inr (Nat.le_trans h.grow h1),h2.trans k2,h3.trans k3⟩
theorem gt_putT (tm:List TV) (dst:Option Nat) (v:TV) (i:Nat):gt (putT tm dst v) i=if dst=some i∧i<tm.length then v else gt tm i:=by
 cases dst with
 | none=>simp [putT]
 | some d=>
  simp only [putT,gt,List.getElem?_set]
  by_cases h:d=i
  ·subst h
   by_cases hl:d<tm.length
   ·simp [hl]
   ·simp [hl]
  ·simp [h]
theorem put_getD (a:Act) (dst:Option Tmp) (v:Value) (i:Nat):(a.put dst v).tmps.getD i undef=if dst=some i∧i<a.tmps.size then v else a.tmps.getD i undef:=by
 cases dst with
 | none=>simp [Act.put]
 | some d=>
  simp only [Act.put,Array.getD_eq_getD_getElem?,Array.getElem?_setIfInBounds]
  by_cases h:d=i
  ·subst h
   by_cases hl:d<a.tmps.size
   ·simp [hl]
   ·simp [hl]
  ·simp [h]
theorem put_defers (a:Act) (dst:Option Tmp) (v:Value):(a.put dst v).defers=a.defers:=by cases dst <;> rfl
theorem put_size (a:Act) (dst:Option Tmp) (v:Value):(a.put dst v).tmps.size=a.tmps.size:=by cases dst <;> simp [Act.put]
theorem putT_len (tm:List TV) (dst:Option Nat) (v:TV):(putT tm dst v).length=tm.length:=by cases dst <;> simp [putT]
theorem RTm.put {tm:List TV} (h:RTm E G m tm a.tmps) (hs:tm.length≤a.tmps.size) {tv:TV} {v:Value} (r:RT E G m tv v) (dst:Option Nat):RTm E G m (putT tm dst tv) (a.put dst v).tmps:=by
 intro i
 rw [gt_putT,put_getD]
 by_cases hd:dst=some i
 ·by_cases hl:i<tm.length
  ·rw [if_pos ⟨hd,hl⟩,if_pos ⟨hd,by omega⟩];exact r
  ·rw [if_neg (by simp [hl])]
   have:gt tm i = .u:=by simp [gt,List.getElem?_eq_none (show tm.length≤i by omega)]
   rw [this];trivial
 ·rw [if_neg (by simp [hd]),if_neg (by simp [hd])];exact h i
theorem RTm.ext {tm:List TV} {tmps:Array Value} {hi:Nat} (h:RTm E G m tm tmps) (hx:Ext G G' hi) (hm:∀ k b,m k=some b→m' k=some b):RTm E G' m' tm tmps:=fun i=>RT.ext hx hm (h i)
theorem Inv.step {dst:Option Nat} {v:Value} (hI:Inv E B G m s a w) (h:Step E B G m s.hp s.lc w q v w' G' m') :
 Inv E B G' m' ⟨putT s.tm dst q.v,q.lc,q.hp⟩ (a.put dst v) w'∧Mv B G m s.hp s.lc w G' m' q.hp q.lc w':=by
 refine ⟨⟨(hI.tm.ext h.ext h.mext.1).put hI.size h.val dst,h.heap,h.loc,?_,?_,by rw [put_defers];exact hI.noDef,by rw [put_size];simpa [putT_len] using hI.size⟩,⟨h.ext,h.fr,h.own,h.lown,h.grow.1,h.dead⟩⟩
 ·intro id hid
  rcases hid with hid|hid
  ·obtain ⟨h1,h2,h3⟩:=h.dead id hid
   rw [h2,h3]
   exact hI.free id h1
  ·obtain ⟨h1,h2⟩:=h.ext.above id hid
   rw [h1,h2]
   exact hI.free id (.inr (Nat.le_trans h.grow.1 hid))
 ·intro k hk
  rw [h.mext.2 k hk]
  exact hI.freem k (Nat.le_trans h.grow.2 hk)
structure Ret (E:Env) (B:Nat) (G:Gh) (hp:Hp) (w:World) (r:AV) (hp':Hp) (v:Value) (w':World) (G':Gh):Prop where
 val:RA E G' r v
 heap:RH E G' B hp'.f w'
 ext:Ext G G' hp'.obs.length
 fr:Fr (fun b=>Owned G hp.f b∧B≤b) w w'
 own:∀ b,Owned G' hp'.f b→Owned G hp.f b∨w.heap.size≤b
 grow:hp.obs.length≤hp'.obs.length
 dead:DeadOk G G' hp hp'
def CallsOk (P:Program) (E:Env) (B:Nat) (call:CallW):Prop:=
 ∀ g args hp post G w vs,call (E.rn g) args hp post→RAL E G args vs→RH E G B hp.f w→Top G hp→
  (∃ fn, P.funcs[g]? = some fn ∧ (fn.name == "runtime.NumGoroutine") = false ∧ fn.body.isSome = true) ∧
  Calls P g vs.toArray w fun e w'=>∃ v r hp' G',e = .returned v∧post r hp'∧Ret E B G hp w r hp' v w' G'
theorem run_callFunc {g : FuncId} {args : Array Value} {fn : Func} (h1 : P.funcs[g]? = some fn) (h2 : (fn.name == "runtime.NumGoroutine") = false) (h3 : fn.body.isSome = true) : (callFunc g args).run P w = .ok (.enter g args) w := by
 have h4:fn.body≠none:=by intro hb;simp [hb] at h3
 have h5 : ¬ fn.name = "runtime.NumGoroutine" := by simpa using h2
 simp [callFunc,program,Sem.run_bind,Sem.run,h1,h4,h5]
theorem run_static {c : Call} {g : FuncId} {fn : Func} (ho : o.op = .call c) (hc : c.callee = .value (.func g)) (h1 : P.funcs[g]? = some fn) (h2 : (fn.name == "runtime.NumGoroutine") = false) (h3 : fn.body.isSome = true) :
 (execOp a.eval o).run P w = .ok (.enter g (c.args.map a.eval)) w:=by
 simp only [execOp,ho,resolve,hc,Act.eval,Deferred.ofValue,Sem.run_bind,Sem.run_pure,Result.andThen_ok,invoke]
 simp only [Array.empty_append,Array.append_empty]
 exact run_callFunc h1 h2 h3
theorem run_dyn {c : Call} {x : Operand} {g : FuncId} {caps : Array Value} {fn : Func} (ho : o.op = .call c) (hc : c.callee = .value x) (hx : a.eval x = .func (.func g) #[] caps) (h1 : P.funcs[g]? = some fn) (h2 : (fn.name == "runtime.NumGoroutine") = false) (h3 : fn.body.isSome = true) :
 (execOp a.eval o).run P w = .ok (.enter g (c.args.map a.eval++caps)) w:=by
 simp only [execOp,ho,resolve,hc,hx,Deferred.ofValue,Sem.run_bind,Sem.run_pure,Result.andThen_ok,invoke]
 simp only [Array.empty_append]
 exact run_callFunc h1 h2 h3
theorem tbAt_mem:∀ {l:List (Nat × Nat)} {t f:Nat},tbAt l t=some f→(t,f)∈l
 | [],t,f,h=>by cases h
 | p::l,t,f,h=>by
  unfold tbAt at h
  split at h
  ·rename_i e
   injection h with h
   subst e h
   exact List.mem_cons_self
  ·exact List.mem_cons_of_mem _ (tbAt_mem h)
theorem methodV_rel {E:Env} {G:Gh} {m:Mu} {name:String} {x:TV} {y:Value} {g:Nat} {v:AV} (h:methodV (tbOf P E.rn name) x=some (g,v)) (r:RT E G m x y) :
 ∃ t u gf,y = .iface t u∧methodOf P name t=some gf∧E.rn gf=g∧RA E G v u:=by
 unfold methodV at h
 split at h
 rotate_left
 ·cases h
 rename_i t ag cs
 simp only [Option.bind_eq_some_iff,Option.map_eq_some_iff] at h
 obtain ⟨f,h1,v',h2,h3⟩:=h
 injection h3 with h3 h4
 subst h3 h4
 simp only [RT,RA,RC] at r
 obtain ⟨t2,vs,rfl,r1,r2,r3⟩:=r
 have hm:=tbAt_mem h1
 unfold tbOf at hm
 rw [List.mem_filterMap] at hm
 obtain ⟨t',_,hm⟩:=hm
 simp only [Option.map_eq_some_iff,Prod.mk.injEq] at hm
 obtain ⟨gf,m1,rfl,m2⟩:=hm
 refine ⟨t',_,gf,r1,m1,m2,?_⟩
 unfold unI at h2
 split at h2
 ·injection h2 with h2
  subst h2
  simp only [RA]
  exact ⟨vs,by simp,r3⟩
 ·rename_i z
  injection h2 with h2
  subst h2
  simp only [RL] at r3
  obtain ⟨v1,ws,e1,e2,rfl⟩:=r3
  simp only [RA]
  have:vs = #[v1]:=Array.toList_inj.mp (by simpa using e1)
  subst this
  simpa using e2
 ·cases h2
theorem run_method {name:String} {t:TypeId} {u:Value} {g:FuncId} (h:methodOf P name t=some g) (n:Nat):(method (n+1) t u name).run P w = .ok (g,u) w:=by
 unfold methodOf at h
 split at h
 rotate_left
 ·cases h
 rename_i i d hi hd
 split at h
 ·cases h
 ·cases h
 rename_i hnp hni
 split at h
 rotate_left
 ·cases h
 rename_i mm hf
 split at h
 rotate_left
 ·cases h
 rename_i hp
 split at h
 rotate_left
 ·cases h
 rename_i f hfn
 injection h with h
 subst h
 have hp:mm.path.toList=[]:=List.eq_nil_of_length_eq_zero (by simpa using hp)
 simp [method,typeInfo,hi,hf,hp,follow,hfn,receiverAt,run_und hd,Place.get]
theorem run_inv {c : Call} {x : Operand} {name : String} {t : TypeId} {u : Value} {g : FuncId} {fn : Func} (ho : o.op = .call c) (hc : c.callee = .invoke x name) (hx : a.eval x = .iface t u) (hm : methodOf P name t = some g) (h1 : P.funcs[g]? = some fn) (h2 : (fn.name == "runtime.NumGoroutine") = false) (h3 : fn.body.isSome = true) :
 (execOp a.eval o).run P w = .ok (.enter g (#[u]++c.args.map a.eval)) w:=by
 have h0:(#[Value.iface t u]++c.args.map a.eval)[0]? = some (.iface t u):=by simp [Array.getElem?_append]
 have h5:(#[Value.iface t u]++c.args.map a.eval).extract 1 (#[Value.iface t u]++c.args.map a.eval).size=c.args.map a.eval:=by
  apply Array.toList_inj.mp
  simp
  exact List.take_of_length_le (by simp)
 obtain ⟨n,hn⟩:∃ n,P.types.size+Made.depth=n+1:=⟨P.types.size+(Made.depth-1),rfl⟩
 have e0:(execOp a.eval o).run P w=(invoke (.fn (.method name) #[]) (#[Value.iface t u]++c.args.map a.eval)).run P w:=by
  simp only [execOp,ho,resolve,hc,Act.eval,Sem.run_bind,Sem.run_pure,Result.andThen_ok]
  have hx':a.eval x = .iface t u:=hx
  unfold Act.eval at hx'
  rw [hx']
 rw [e0]
 unfold invoke
 simp only [h0,h5]
 unfold callMethod
 simp only [Sem.run_bind,run_program,Result.andThen_ok,hn,run_method hm,run_callFunc h1 h2 h3]
theorem RAL.append:∀ {x y:List AV} {u v:List Value},RAL E G x u→RAL E G y v→RAL E G (x++y) (u++v)
 | [],y,u,v,h,k=>by simp only [RAL] at h;subst h;simpa using k
 | a::x,y,u,v,h,k=>by
  simp only [RAL] at h
  obtain ⟨b,ws,rfl,h1,h2⟩:=h
  simp only [List.cons_append,RAL]
  exact ⟨b,ws++v,rfl,h1,RAL.append h2 k⟩
theorem RL.ral:∀ {x:List CV} {u:List Value},RL E G x u→RAL E G (x.map .c) u
 | [],u,h=>by simp only [RL] at h;subst h;simp [RAL]
 | a::x,u,h=>by
  simp only [RL] at h
  obtain ⟨b,ws,rfl,h1,h2⟩:=h
  simp only [List.map_cons,RAL,RA]
  exact ⟨b,ws,rfl,h1,RL.ral h2⟩
theorem Ret.step {r:AV} {hp':Hp} {v:Value} (hI:Inv E B G m s a w) (h:Ret E B G s.hp w r hp' v w' G'):Step E B G m s.hp s.lc w ⟨.v r,s.lc,hp'⟩ v w' G' m:=by
 refine ⟨h.val,h.heap,?_,h.ext,⟨fun _ _ h=>h,fun _ _=>rfl⟩,h.fr.mono (fun _ h=>⟨.inl h.1,h.2⟩),h.own,fun b hb=>.inl hb,⟨h.grow,Nat.le_refl _⟩,h.dead⟩
 refine RLc.keep hI.lc h.ext (fun _ _ h=>h) ?_ ?_
 ·intro b hb
  refine h.fr.block b (Loc.lt hI.lc hb) ?_
  obtain ⟨k,hk,hm⟩:=hb
  obtain ⟨cs,hcs⟩:∃ cs,s.lc[k]? = some cs:=⟨_,List.getElem?_eq_getElem hk⟩
  obtain ⟨b',vs,el,fz,h1,h2,h3,h4,h5,h6⟩:=hI.lc.each k cs hcs
  rw [hm] at h1;injection h1 with h1;subst h1
  exact fun hh=>h5 hh.1
 ·intro b hb ho
  exact (h.own b ho).elim id (fun h'=>by omega)
theorem op_wp (hI:Inv E B G m s a w) {loc:Bool} {n:NO} (hc:compOp P E.rn loc o.op=some n) (hcall:CallsOk P E B call) {post:Res→Prop} (hn:nopW call s n post)
 {next:Act→World→Prop} {Q:Exit→Act→World→Prop}
 (hk:∀ q v w' G' m',post q→Inv E B G' m' ⟨putT s.tm o.dst q.v,q.lc,q.hp⟩ (a.put o.dst v) w'→Mv B G m s.hp s.lc w G' m' q.hp q.lc w'→next (a.put o.dst v) w') :
 o.wp P a w next Q:=by
 have fin:∀ q,post q→OpOk P E B G m s a w o q→o.wp P a w next Q:=by
  intro q hp hok
  obtain ⟨n',v,w',G',m',h1,h2,h3⟩:=hok (fun id h1 _=>hI.free id (.inr h1)) (fun k h1 _=>hI.freem k h1)
  obtain ⟨h4,h5⟩:=hI.step (dst:=o.dst) h3
  unfold Oper.wp
  rw [h1]
  rcases h2 with rfl|⟨rfl,rfl⟩
  ·exact hk q v w' G' m' hp h4 h5
  ·exact hk q _ w' G' m' hp h4 h5
 have ret : ∀ g args (vs : List Value), RAL E G args vs → call (E.rn g) args s.hp (fun r h => post ⟨.v r, s.lc, h⟩) → (∀ fn, P.funcs[g]? = some fn → (fn.name == "runtime.NumGoroutine") = false → fn.body.isSome = true → (execOp a.eval o).run P w = .ok (.enter g vs.toArray) w) → o.wp P a w next Q := by
  intro g args vs hr hcl hrun
  obtain ⟨⟨fn,h1,h2,h3⟩,h4⟩:=hcall g args s.hp _ G w vs hcl hr hI.hp hI.free
  unfold Oper.wp
  rw [hrun fn h1 h2 h3,Oper.upon_enter]
  refine Calls.mono h4 ?_
  rintro e w' ⟨v,r,hp',G',rfl,hpost,hret⟩
  obtain ⟨h5,h6⟩:=hI.step (dst:=o.dst) (hret.step hI)
  exact hk _ v w' G' m hpost h5 h6
 have plain:n.still=true→(∀ str x,n≠.next str x)→(∃ q,nop noCall (fun _=>0) s n=some q∧post q)→o.wp P a w next Q:=by
  rintro hs hnx ⟨q,h1,h2⟩
  exact fin q h2 (op_ok (orc:=fun _=>0) hI.tm hI.hp hI.lc hc hs (by intro str x _ _ _ _ _ _ _ _ he;exact absurd he (hnx str x)) h1)
 cases n with
 | next str x=>
  simp only [nopW] at hn
  by_cases hx:∃ id mm since seen last wr es clock,x.ev s.tm = .v (.c (.it id))∧s.hp.obs[id]? = some (.miter (some mm) since seen last)∧s.hp.obs[mm]? = some (.map wr es clock)
  ·obtain ⟨id,mm,since,seen,last,wr,es,clock,e1,e2,e3⟩:=hx
   obtain ⟨q,h1,h2⟩:=hn (fun _=>w.tape w.drawn (.mapNext (candOf es since seen).length))
   refine fin q h2 (op_ok hI.tm hI.hp hI.lc hc rfl ?_ h1)
   intro str' x' id' mm' since' seen' last' wr' es' clock' he k1 k2 k3
   injection he with he1 he2
   subst he2
   rw [e1] at k1
   simp only [TV.v.injEq,AV.c.injEq,CV.it.injEq] at k1
   subst k1
   rw [e2] at k2
   simp only [Option.some.injEq,AO.miter.injEq] at k2
   obtain ⟨rfl,rfl,rfl,rfl⟩:=k2
   rw [e3] at k3
   simp only [Option.some.injEq,AO.map.injEq] at k3
   obtain ⟨rfl,rfl,rfl⟩:=k3
   rfl
  ·obtain ⟨q,h1,h2⟩:=hn (fun _=>0)
   refine fin q h2 (op_ok hI.tm hI.hp hI.lc hc rfl ?_ h1)
   intro str' x' id' mm' since' seen' last' wr' es' clock' he k1 k2 k3
   injection he with he1 he2
   subst he2
   exact absurd ⟨_,_,_,_,_,_,_,_,k1,k2,k3⟩ hx
 | call f args=>
  simp only [nopW] at hn
  obtain ⟨l,h1,h2⟩:=hn
  obtain ⟨c,args',e1,e2,⟨g,e3,e4⟩|⟨t,e3,e4⟩|⟨y,nm,ny,e3,e5,e4⟩⟩:=compOp_call hc rfl
  ·simp only [NO.call.injEq] at e4
   obtain ⟨rfl,rfl⟩:=e4
   refine ret g l _ (evL_rel hI.tm e2 h1) h2 (fun fn k1 k2 k3=>?_)
   have:=run_static (a:=a) (w:=w) e1 e3 k1 k2 k3
   rw [this,←Array.toList_map]
  ·cases e4
  ·cases e4
 | dyn f args=>
  simp only [nopW] at hn
  obtain ⟨l,g,caps,h1,h2,h3⟩:=hn
  obtain ⟨c,args',e1,e2,⟨g',e3,e4⟩|⟨t,e3,e4⟩|⟨y,nm,ny,e3,e5,e4⟩⟩:=compOp_call hc rfl
  ·cases e4
  ·simp only [NO.dyn.injEq] at e4
   obtain ⟨rfl,rfl⟩:=e4
   have r:=compX_rel hI.tm (x:=.tmp t) rfl
   rw [h2] at r
   simp only [RT,RA,RC] at r
   obtain ⟨g',vs,rfl,k4,k5⟩:=r
   refine ret g' _ (c.args.toList.map a.eval++vs.toList) ((evL_rel hI.tm e2 h1).append (RL.ral k5)) h3 (fun fn k1 k2 k3=>?_)
   have:=run_dyn (a:=a) (w:=w) e1 e3 k4 k1 k2 k3
   rw [this]
   congr 2
   apply Array.toList_inj.mp
   simp
  ·cases e4
 | inv tb x args=>
  simp only [nopW] at hn
  obtain ⟨l,g,v,h1,h2,h3⟩:=hn
  obtain ⟨c,args',e1,e2,⟨g',e3,e4⟩|⟨t,e3,e4⟩|⟨y,nm,ny,e3,e5,e4⟩⟩:=compOp_call hc rfl
  ·cases e4
  ·cases e4
  ·simp only [NO.inv.injEq] at e4
   obtain ⟨rfl,rfl,rfl⟩:=e4
   have r:=compX_rel hI.tm e5
   obtain ⟨t,u,gf,q1,q2,rfl,q4⟩:=methodV_rel h2 r
   refine ret gf _ (u::c.args.toList.map a.eval) ?_ h3 (fun fn k1 k2 k3=>?_)
   ·simp only [RAL]
    exact ⟨_,_,rfl,q4,evL_rel hI.tm e2 h1⟩
   ·have:=run_inv (a:=a) (w:=w) e1 e3 q1 q2 k1 k2 k3
    rw [this]
    congr 2
    apply Array.toList_inj.mp
    simp
 | _=>exact plain rfl (by intros;simp) hn
end
end
section
section
variable {P:Program} {E:Env} {G G' G'':Gh} {B:Nat} {m m' m'':Mu} {s s' s'':St} {a:Act} {w w' w'' w1:World}
variable {call:CallW} {o:Oper} {q:Res} {ops:Array Oper} {locs:List Nat}
theorem wanted_rel (ht:RTm E G m s.tm a.tmps) {g:Option (Nat × Bool)} {b:Bool} (hg:compGuard ops o.guard=some g) (hw:wanted s.tm g=some b):Region.wanted o (yielded ops a.tmps)=b:=by
 unfold Region.wanted
 cases hgd:o.guard with
 | none=>
  rw [hgd] at hg
  simp only [compGuard,Option.some.injEq] at hg
  subst hg
  simp only [wanted,Option.some.injEq] at hw
  exact hw
 | some jb=>
  obtain ⟨j,want⟩:=jb
  rw [hgd] at hg
  simp only [compGuard,Option.map_eq_some_iff] at hg
  obtain ⟨t,h1,rfl⟩:=hg
  have r:=ht t
  simp only [wanted] at hw
  simp only [yielded,h1,Option.bind_some]
  split at hw
  ·rename_i b' he
   rw [he] at r
   simp only [RT,RA,RC] at r
   have h2:a.tmps[t]? = some (.bool b'):=by
    rw [Array.getD_eq_getD_getElem?] at r
    cases hx:a.tmps[t]? with
    | none=>rw [hx] at r;simp [undef] at r
    | some v=>rw [hx] at r;simp at r;rw [r]
   injection hw with hw
   rw [h2]
   simp only
   rw [←hw]
   cases b' <;> cases want <;> rfl
  ·rename_i he
   rw [he] at r
   simp only [RT] at r
   injection hw with hw
   subst hw
   rw [Array.getD_eq_getD_getElem?] at r
   cases hx:a.tmps[t]? with
   | none=>rfl
   | some v=>rw [hx] at r;simp at r;rw [r];rfl
  ·cases hw
theorem step_wp (hI:Inv E B G m s a w) {r:NR} (hr:compR P E.rn locs ops o=some r) (hcall:CallsOk P E B call) {post:St→Prop} (hn:stepW call r s post)
 {next:Act→World→Prop} {Q:Exit→Act→World→Prop}
 (hk:∀ s' a' w' G' m',post s'→Inv E B G' m' s' a' w'→Mv B G m s.hp s.lc w G' m' s'.hp s'.lc w'→next a' w') :
 if Region.wanted o (yielded ops a.tmps)=true then o.wp P a w next Q else next (a.put o.dst undef) w:=by
 unfold compR at hr
 rw [Option.bind_eq_some_iff] at hr
 obtain ⟨g,hg,hr⟩:=hr
 rw [Option.map_eq_some_iff] at hr
 obtain ⟨n,hc,rfl⟩:=hr
 unfold stepW at hn
 split at hn
 ·rename_i hw
  rw [wanted_rel hI.tm hg hw,if_pos rfl]
  exact op_wp hI hc hcall hn (fun q v w' G' m' hp h1 h2=>hk _ _ _ _ _ hp h1 h2)
 ·rename_i hw
  rw [wanted_rel hI.tm hg hw,if_neg (by simp)]
  refine hk _ _ w G m hn ⟨hI.tm.put hI.size (by simp [RT]) _,hI.hp,hI.lc,hI.free,hI.freem,by rw [put_defers];exact hI.noDef,by rw [put_size];simpa [putT_len] using hI.size⟩ ?_
  exact Mv.refl
 ·exact hn.elim
def compRs (P:Program) (rn:FuncId→Nat) (locs:List Nat) (ops:Array Oper):List Oper→Option (List NR)
 | []=>some []
 | o::l=>(compR P rn locs ops o).bind fun r=>(compRs P rn locs ops l).bind fun rs=>some (r::rs)
theorem run_wp (hcall:CallsOk P E B call):∀ {l:List Oper} {rs:List NR} {G:Gh} {m:Mu} {s:St} {a:Act} {w:World},Inv E B G m s a w→compRs P E.rn locs ops l=some rs→∀ {post:St→Prop},runW call rs s post→
 ∀ {Q:Exit→Act→World→Prop},(∀ s' a' w' G' m',post s'→Inv E B G' m' s' a' w'→Mv B G m s.hp s.lc w G' m' s'.hp s'.lc w'→Q .normal a' w')→wpList P ops Q l a w:=by
 intro l
 induction l with
 | nil=>
  intro rs G m s a w hI hc post hn Q hk
  simp only [compRs,Option.some.injEq] at hc
  subst hc
  exact hk s a w G m hn hI Mv.refl
 | cons o l ih=>
  intro rs G m s a w hI hc post hn Q hk
  simp only [compRs,Option.bind_eq_some_iff,Option.some.injEq] at hc
  obtain ⟨r,hr,rs',hrs,rfl⟩:=hc
  simp only [runW] at hn
  have:=step_wp (Q:=Q) (next:=wpList P ops Q l) hI hr hcall hn (fun s' a' w' G' m' h1 h2 h3=>ih h2 hrs h1 (fun s2 a2 w2 G2 m2 k1 k2 k3=>hk s2 a2 w2 G2 m2 k1 k2 (h3.trans k3)))
  unfold wpList
  split
  ·rename_i hw;rw [if_pos hw] at this;exact .inl this
  ·rename_i hw;rw [if_neg hw] at this;exact this
def CC (P:Program) (rn:FuncId→Nat) (locs:List Nat) (D:Array Oper→Nat→List DI→Prop):Go.Code→Code→Prop
 | c,.seq (.kill _ _) c'=>CC P rn locs D c c'
 | .skip,.skip=>True
 | .region _ ops false,.region l=>compRs P rn locs ops ops.toList=some l
 | .region _ ops true,.draw nal ord=>D ops nal ord
 | .seq a b,.seq a' b'=>CC P rn locs D a a'∧CC P rn locs D b b'
 | .cond c a b,.cond c' a' b'=>compX rn c=some c'∧CC P rn locs D a a'∧CC P rn locs D b b'
 | .block id b,.block id' b'=>id=id'∧CC P rn locs D b b'
 | .loop b,.loop b'=>CC P rn locs D b b'
 | .exit i,.exit j=>i=j
 | .ret,.ret=>True
 | _,_=>False
def ExR:Ex→Exit→Prop
 | .normal,e=>e = .normal
 | .exit i,e=>e = .exit i
 | .ret,e=>e = .ret
def At (E:Env) (B:Nat) (G:Gh) (m:Mu) (hp:Hp) (lc:List (List CV)) (w:World) (Q:Ex→St→Prop) (e:Exit) (a:Act) (w':World):Prop:=
 ∃ e' s' G' m',ExR e' e∧Q e' s'∧Inv E B G' m' s' a w'∧Mv B G m hp lc w G' m' s'.hp s'.lc w'
def DrawsOk (P:Program) (E:Env) (B:Nat) (call:CallW) (D:Array Oper→Nat→List DI→Prop):Prop:=
 ∀ ops nal ord id,D ops nal ord→∀ G m s a w post,Inv E B G m s a w→drawW call s.hp.obs.length ord { s with hp:={ s.hp with obs:=s.hp.obs++List.replicate nal .dead } } post→
  ∀ Q:Exit→Act→World→Prop,(∀ s' a' w' G' m',post s'→Inv E B G' m' s' a' w'→Mv B G m s.hp s.lc w G' m' s'.hp s'.lc w'→Q .normal a' w')→(Go.Code.region id ops true).wp P Q a w
theorem keep_live (hI:Inv E B G m s a w) {live:List Nat} {nlc:Nat} (h1:nlc≤s.lc.length) (h2:(keepLive live s.tm).all (okLive nlc)=true) :
 ∃ m',Inv E B G m' ⟨keepLive live s.tm,s.lc.take nlc,s.hp⟩ a w∧Mv B G m s.hp s.lc w G m' s.hp (s.lc.take nlc) w:=by
 have hlen:(s.lc.take nlc).length=nlc:=by simp [h1]
 have hloc:∀ b,Loc (fun k=>if k<nlc then m k else none) (s.lc.take nlc) b→Loc m s.lc b:=by
  rintro b ⟨k,hk,hm⟩
  rw [hlen] at hk
  simp only [hk,if_true] at hm
  exact ⟨k,by omega,hm⟩
 refine ⟨fun k=>if k<nlc then m k else none,⟨?_,hI.hp,?_,hI.free,?_,hI.noDef,?_⟩,⟨Ext.refl _ _,Fr.refl _ _,fun b h=>.inl h,fun b h=>.inl (hloc b h),Nat.le_refl _,fun _ h=>⟨.inl h,rfl,rfl⟩⟩⟩
 ·intro i
  by_cases hi:i<s.tm.length
  ·have hg:gt (keepLive live s.tm) i=if live.contains i then gt s.tm i else .u:=by simp [gt,keepLive,hi]
   have hmem:gt (keepLive live s.tm) i∈keepLive live s.tm:=by
    have:(keepLive live s.tm)[i]? = some (gt (keepLive live s.tm) i):=by simp [gt,keepLive,hi]
    exact List.mem_of_getElem? this
   have hok:=List.all_eq_true.mp h2 _ hmem
   rw [hg] at hok ⊢
   split at hok
   ·rename_i hl
    rw [if_pos hl]
    have r:=hI.tm i
    revert r hok
    cases gt s.tm i with
    | v x=>exact fun _ r=>r
    | un=>exact fun _ r=>r
    | u=>exact fun _ r=>r
    | lp k j=>intro hok r;simp only [okLive,decide_eq_true_eq] at hok;simpa [RT,hok] using r
    | lsl k n=>intro hok r;simp only [okLive,decide_eq_true_eq] at hok;simpa [RT,hok] using r
   ·rename_i hl
    rw [if_neg hl]
    trivial
  ·have:gt (keepLive live s.tm) i = .u:=by simp [gt,keepLive,List.getElem?_eq_none (show ((List.range s.tm.length).map fun i=>if live.contains i then gt s.tm i else .u).length≤i by simp;omega),hi]
   rw [this];trivial
 ·constructor
  ·intro k cs hk
   have hkl:k<nlc:=by
    rcases Nat.lt_or_ge k nlc with h|h
    ·exact h
    ·rw [List.getElem?_eq_none (by rw [hlen];exact h)] at hk;cases hk
   rw [List.getElem?_take,if_pos hkl] at hk
   simpa [hkl] using hI.lc.each k cs hk
  ·intro i j b hi hj h3 h4
   simp only [hlen] at hi hj
   simp only [hi,hj,if_true] at h3 h4
   exact hI.lc.inj i j b (by omega) (by omega) h3 h4
 ·intro k hk
  simp only [hlen] at hk
  simp [show ¬k<nlc by omega]
 ·simpa [keepLive] using hI.size
end
end
section
section
variable {P:Program} {E:Env} {G G' G'':Gh} {B:Nat} {m m' m'':Mu} {s s' s'':St} {a:Act} {w w' w'' w1:World}
variable {call:CallW} {locs:List Nat} {D:Array Oper→Nat→List DI→Prop}
theorem CC_kill {rn:FuncId→Nat} {c:Go.Code} {l:List Nat} {n:Nat} {y:Code} (h:CC P rn locs D c (.seq (.kill l n) y)):CC P rn locs D c y:=by
 cases c <;> simpa only [CC] using h
theorem CC_seq {rn:FuncId→Nat} {c:Go.Code} {x y:Code} (hx:∀ l n,x≠.kill l n) (h:CC P rn locs D c (.seq x y)):∃ p q,c = .seq p q∧CC P rn locs D p x∧CC P rn locs D q y:=by
 cases x <;> first
  | exact absurd rfl (hx _ _)
  | (cases c <;> first|(simp only [CC] at h;done)|(simp only [CC] at h;exact ⟨_,_,rfl,h⟩))
theorem At.from {Q:Ex→St→Prop} {hp hp':Hp} {lc lc':List (List CV)} {e:Exit} {a':Act} (k:Mv B G m hp lc w G' m' hp' lc' w') (h:At E B G' m' hp' lc' w' Q e a' w''):At E B G m hp lc w Q e a' w'':=by
 obtain ⟨e',s',G',m',h1,h2,h3,h4⟩:=h
 exact ⟨e',s',G',m',h1,h2,h3,k.trans h4⟩
theorem code_wp (hcall:CallsOk P E B call) (hD:DrawsOk P E B call D):∀ (c':Code) (c:Go.Code) (G:Gh) (m:Mu) (s:St) (a:Act) (w:World) (Q:Ex→St→Prop),CC P E.rn locs D c c'→Inv E B G m s a w→awp call c' s Q→
 ∀ R:Exit→Act→World→Prop,(∀ e a' w',At E B G m s.hp s.lc w Q e a' w'→R e a' w')→c.wp P R a w:=by
 intro c'
 induction c' with
 | skip=>
  intro c G m s a w Q hc hI hn R hR
  cases c <;> simp only [CC] at hc
  exact wp_skip (hR _ _ _ ⟨.normal,s,G,m,rfl,hn,hI,Mv.refl⟩)
 | kill l n=>
  intro c G m s a w Q hc hI hn R hR
  cases c <;> simp only [CC] at hc
 | region ops=>
  intro c G m s a w Q hc hI hn R hR
  cases c with
  | region id gops d=>
   cases d with
   | false=>
    simp only [CC] at hc
    refine wp_region_list (run_wp hcall hI hc hn ?_)
    intro s' a' w' G' m' h1 h2 h3
    exact hR _ _ _ ⟨.normal,s',G',m',rfl,h1,h2,h3⟩
   | true=>simp only [CC] at hc
  | _=>simp only [CC] at hc
 | draw nal ord=>
  intro c G m s a w Q hc hI hn R hR
  cases c with
  | region id gops d=>
   cases d with
   | true=>
    simp only [CC] at hc
    refine hD gops nal ord id hc G m s a w _ hI hn R ?_
    intro s' a' w' G' m' h1 h2 h3
    exact hR _ _ _ ⟨.normal,s',G',m',rfl,h1,h2,h3⟩
   | false=>simp only [CC] at hc
  | _=>simp only [CC] at hc
 | seq x y ihx ihy=>
  intro c G m s a w Q hc hI hn R hR
  by_cases hx:∃ l n,x = .kill l n
  ·obtain ⟨l,n,rfl⟩:=hx
   obtain ⟨h1,h2,h3⟩:=hn
   obtain ⟨m',hI',hm⟩:=keep_live hI h1 h2
   exact ihy c G m' _ a w Q (CC_kill hc) hI' h3 R (fun e a' w' h=>hR e a' w' (h.from hm))
  ·obtain ⟨p,q,rfl,hp,hq⟩:=CC_seq (fun l n h=>hx ⟨l,n,h⟩) hc
   simp only [awp] at hn
   refine wp_seq (ihx p G m s a w _ hp hI hn _ ?_)
   rintro e a' w' ⟨e',s',G',m',h1,h2,h3,h4⟩
   cases e' with
   | normal=>
    simp only [ExR] at h1
    subst h1
    exact ihy q G' m' s' a' w' Q hq h3 h2 R (fun e a' w' h=>hR e a' w' (h.from h4))
   | exit i=>simp only [ExR] at h1;subst h1;exact hR _ _ _ ⟨.exit i,s',G',m',rfl,h2,h3,h4⟩
   | ret=>simp only [ExR] at h1;subst h1;exact hR _ _ _ ⟨.ret,s',G',m',rfl,h2,h3,h4⟩
 | cond x p q ihp ihq=>
  intro c G m s a w Q hc hI hn R hR
  cases c with
  | cond c0 p0 q0=>
   simp only [CC] at hc
   obtain ⟨h1,h2,h3⟩:=hc
   have r:=compX_rel hI.tm h1
   simp only [awp] at hn
   split at hn
   ·rename_i he
    rw [he] at r
    simp only [RT,RA,RC] at r
    exact wp_cond_true r (ihp p0 G m s a w Q h2 hI hn R hR)
   ·rename_i he
    rw [he] at r
    simp only [RT,RA,RC] at r
    exact wp_cond_false r (ihq q0 G m s a w Q h3 hI hn R hR)
   ·exact hn.elim
  | _=>simp only [CC] at hc
 | block id b ih=>
  intro c G m s a w Q hc hI hn R hR
  cases c with
  | block id0 b0=>
   simp only [CC] at hc
   obtain ⟨rfl,h2⟩:=hc
   simp only [awp] at hn
   refine wp_block (ih b0 G m s a w _ h2 hI hn _ ?_)
   rintro e a' w' ⟨e',s',G',m',h1,h2,h3,h4⟩
   cases e' with
   | normal=>simp only [ExR] at h1;subst h1;exact hR _ _ _ ⟨.normal,s',G',m',rfl,h2,h3,h4⟩
   | exit i=>
    simp only [ExR] at h1;subst h1
    simp only [Exit.inBlock]
    simp only at h2
    split
    ·rename_i he;rw [if_pos he] at h2;exact hR _ _ _ ⟨.normal,s',G',m',rfl,h2,h3,h4⟩
    ·rename_i he;rw [if_neg he] at h2;exact hR _ _ _ ⟨.exit i,s',G',m',rfl,h2,h3,h4⟩
   | ret=>simp only [ExR] at h1;subst h1;exact hR _ _ _ ⟨.ret,s',G',m',rfl,h2,h3,h4⟩
  | _=>simp only [CC] at hc
 | loop b ih=>
  intro c G m s a w Q hc hI hn R hR
  cases c with
  | loop b0=>
   simp only [CC] at hc
   obtain ⟨n,hn⟩:=hn
   refine wp_loop_rounds n ?_
   induction n generalizing G m s a w with
   | zero=>exact hn.elim
   | succ n ihn=>
    rw [rounds_succ]
    refine ih b0 G m s a w _ hc hI hn _ ?_
    rintro e a' w' ⟨e',s',G',m',h1,h2,h3,h4⟩
    cases e' with
    | normal=>
     simp only [ExR] at h1;subst h1
     exact ihn G' m' s' a' w' h3 (fun e a' w' h=>hR e a' w' (h.from h4)) h2
    | exit i=>simp only [ExR] at h1;subst h1;exact hR _ _ _ ⟨.exit i,s',G',m',rfl,h2,h3,h4⟩
    | ret=>simp only [ExR] at h1;subst h1;exact hR _ _ _ ⟨.ret,s',G',m',rfl,h2,h3,h4⟩
  | _=>simp only [CC] at hc
 | exit i=>
  intro c G m s a w Q hc hI hn R hR
  cases c <;> simp only [CC] at hc
  subst hc
  exact wp_exit (hR _ _ _ ⟨.exit _,s,G,m,rfl,hn,hI,Mv.refl⟩)
 | ret=>
  intro c G m s a w Q hc hI hn R hR
  cases c <;> simp only [CC] at hc
  exact wp_ret (hR _ _ _ ⟨.ret,s,G,m,rfl,hn,hI,Mv.refl⟩)
 | prim F n=>
  intro c G m s a w Q hc hI hn R hR
  cases c <;> simp only [CC] at hc
 | fin b ops ih=>
  intro c G m s a w Q hc hI hn R hR
  cases c <;> simp only [CC] at hc
end
end
section
section
variable {P:Program} {E:Env} {G G' G'':Gh} {B:Nat} {m m' m'':Mu} {s s' s'':St} {a:Act} {w w' w'' w1:World}
variable {call:CallW} {locs:List Nat} {D:Array Oper→Nat→List DI→Prop}
theorem mapM_tmp {f:ResultVar→Sem Value} {g:Nat→Value} (hf:∀ t,f (.tmp t)=pure (g t)):∀ rs:List Nat,(rs.map ResultVar.tmp).mapM f=pure (rs.map g)
 | []=>rfl
 | r::rs=>by
  rw [List.map_cons,List.mapM_cons,mapM_tmp hf rs,hf]
  simp
def resV (tmps:Array Value) (rs:List Nat):Value:=match rs with | [r]=>tmps.getD r undef|rs=>.tuple (rs.map fun t=>tmps.getD t undef).toArray
theorem results_run {fn:Func} {rs:List Nat} (h:fn.results.toList=rs.map ResultVar.tmp) (tmps:Array Value) (P:Program) (w:World) :
 (results fn tmps).run P w = .ok (resV tmps rs) w:=by
 have hr:fn.results=(rs.map ResultVar.tmp).toArray:=by apply Array.toList_inj.mp;simpa using h
 unfold results
 rw [hr,List.mapM_toArray,mapM_tmp (g:=fun t=>tmps.getD t undef) (fun _=>rfl)]
 simp only [map_pure,pure_bind,Sem.run_pure]
 match rs with
 | []=>rfl
 | [r]=>rfl
 | r::q::rs=>simp [resV]
theorem results_rel {tm:List TV} {tmps:Array Value} (ht:RTm E G m tm tmps) {rs:List Nat} {r:AV} (h:results? tm rs=some r) :
 RA E G r (resV tmps rs):=by
 have key:∀ {rs:List Nat} {l:List AV},evL tm (rs.map .t)=some l→RAL E G l (rs.map fun t=>tmps.getD t undef):=by
  intro rs
  induction rs with
  | nil=>intro l h;simp [evL] at h;subst h;simp [RAL]
  | cons x rs ih=>
   intro l h
   simp only [List.map_cons,evL,Option.bind_eq_some_iff,Option.some.injEq] at h
   obtain ⟨v,h1,l',h2,rfl⟩:=h
   simp only [List.map_cons,RAL]
   exact ⟨_,_,rfl,(asV_rel h1 (ht x)).1,ih h2⟩
 match rs,h with
 | [],h=>
  simp only [results?,Option.map_eq_some_iff] at h
  obtain ⟨l,h1,rfl⟩:=h
  simp only [RA]
  exact ⟨_,rfl,by simpa using key h1⟩
 | [x],h=>
  simp only [results?] at h
  exact (asV_rel h (ht x)).1
 | x::y::rs,h=>
  simp only [results?,Option.map_eq_some_iff] at h
  obtain ⟨l,h1,rfl⟩:=h
  simp only [RA]
  exact ⟨_,rfl,by simpa using key h1⟩
def CFn (P:Program) (rn:FuncId→Nat) (D:Array Oper→Nat→List DI→Prop) (fn:Func) (nf:NF):Prop:=
 (fn.name == "runtime.NumGoroutine") = false ∧ fn.ntmps = nf.ntmps ∧ fn.results.toList = nf.results.map ResultVar.tmp ∧ ∃ c locs, fn.body = some c ∧ CC P rn locs D c nf.body
def PrimFn (P:Program) (g:FuncId) (fn:Func) (nf:NF):Prop:=
 (fn.name == "runtime.NumGoroutine") = false ∧ fn.body.isSome = true ∧ ∃ F n, nf = ⟨n + 1, [n], .prim F n⟩ ∧
  ∀ (E:Env) (G:Gh) (l:List AV) (r:AV) (vs:List Value) (w:World),F l=some r→RAL E G l vs→Calls P g vs.toArray w fun e w'=>∃ v,e = .returned v∧RA E G r v∧Fr (fun _=>False) w w'
def CFnC (P:Program) (rn:FuncId→Nat) (D:Array Oper→Nat→List DI→Prop) (fn:Func) (nf:NF):Prop:=
 (fn.name == "runtime.NumGoroutine") = false ∧ fn.ntmps = nf.ntmps ∧ ∃ (pre : List Nat) (a : Nat) (t : TypeId) (sh : Option Nat) (post : List Nat) (b : Code) (c : Go.Code) (locs : List Nat),
  fn.results.toList=pre.map ResultVar.tmp++ResultVar.cell a t::post.map ResultVar.tmp∧nf.results=pre++a::post∧a∉pre∧a∉post∧shapeOf P t=some sh∧
  nf.body = .fin b [⟨some a,.load sh (.t a),none⟩]∧fn.body=some c∧CC P rn locs D c b
def GFn (P:Program) (rn:FuncId→Nat) (D:Array Oper→Nat→List DI→Prop) (g:FuncId) (fn:Func) (nf:NF):Prop:=CFn P rn D fn nf∨PrimFn P g fn nf∨CFnC P rn D fn nf
def HProg (P:Program) (rn:FuncId→Nat) (D:Array Oper→Nat→List DI→Prop) (N:Nat→Option NF):Prop:=
 ∀ g nf,N (rn g)=some nf→∃ fn,P.funcs[g]? = some fn∧GFn P rn D g fn nf
theorem RAL.len:∀ {x:List AV} {u:List Value},RAL E G x u→u.length=x.length
 | [],u,h=>by simp only [RAL] at h;subst h;rfl
 | a::x,u,h=>by
  simp only [RAL] at h
  obtain ⟨b,ws,rfl,h1,h2⟩:=h
  simp [RAL.len h2]
theorem RAL.get:∀ {x:List AV} {u:List Value} {i:Nat} {c:AV},RAL E G x u→x[i]? = some c→∃ v,u[i]? = some v∧RA E G c v
 | [],u,i,c,_,e=>by simp at e
 | a::x,u,i,c,h,e=>by
  simp only [RAL] at h
  obtain ⟨b,ws,rfl,h1,h2⟩:=h
  cases i with
  | zero=>simp at e;subst e;exact ⟨b,rfl,h1⟩
  | succ i=>simpa using RAL.get h2 (by simpa using e)
theorem enter_inv {hp:Hp} {args:List AV} {vs:List Value} {n:Nat} (hr:RAL E G args vs) (hH:RH E G B hp.f w) (ht:Top G hp) :
 Inv E B G (fun _=>none) ⟨args.map .v++List.replicate (n-args.length) .u,[],hp⟩ { tmps:=vs.toArray++Array.replicate (n-vs.toArray.size) undef,defers:=[] } w:=by
 have hl:=RAL.len hr
 refine ⟨?_,hH,⟨fun k cs h=>by simp at h,fun i j b hi=>by simp at hi⟩,ht,fun _ _=>rfl,rfl,?_⟩
 ·intro i
  rw [Array.getD_eq_getD_getElem?]
  simp only [gt,List.getElem?_append,List.length_map,Array.getElem?_append,List.size_toArray,hl]
  by_cases hi:i<args.length
  ·rw [if_pos hi,if_pos hi,List.getElem?_map]
   obtain ⟨v,h1,h2⟩:=RAL.get hr (List.getElem?_eq_getElem hi)
   rw [List.getElem?_eq_getElem hi]
   simp only [Option.map_some,Option.getD_some,List.getElem?_toArray,h1,RT]
   exact h2
  ·rw [if_neg hi,if_neg hi]
   by_cases hj:i-args.length<n-args.length
   ·simp [List.getElem?_replicate,Array.getElem?_replicate,hj,RT]
   ·simp [List.getElem?_replicate,Array.getElem?_replicate,hj,RT]
 ·simp [hl]
theorem evL_get {tm:List TV}:∀ {xs:List NX} {l:List AV},evL tm xs=some l→l.length=xs.length∧∀ (i:Nat) (x:NX),xs[i]? = some x→∃ a,l[i]? = some a∧asV (x.ev tm)=some a
 | [],l,h=>by simp only [evL,Option.some.injEq] at h;subst h;exact ⟨rfl,by simp⟩
 | y::xs,l,h=>by
  simp only [evL,Option.bind_eq_some_iff,Option.some.injEq] at h
  obtain ⟨a,h1,l',h2,rfl⟩:=h
  obtain ⟨k1,k2⟩:=evL_get h2
  refine ⟨by simp [k1],fun i x hx=>?_⟩
  cases i with
  | zero=>simp at hx;subst hx;exact ⟨a,rfl,h1⟩
  | succ i=>exact k2 i x (by simpa using hx)
theorem asV_v {a b:AV} (h:asV (.v a)=some b):b=a:=by
 cases a <;> simp [asV] at h
 ·exact h.symm
 ·exact h.symm
theorem prim_args {args l:List AV} {n:Nat} (h0:(args.map TV.v++List.replicate (n+1-args.length) TV.u)[n]? = some .u) (h:evL (args.map .v++List.replicate (n+1-args.length) .u) ((List.range n).map .t)=some l):l=args:=by
 obtain ⟨h1,h2⟩:=evL_get h
 rw [List.length_map,List.length_range] at h1
 have hx:∀ i,i<n→(List.map NX.t (List.range n))[i]? = some (.t i):=fun i hi=>by simp [hi]
 have hle:args.length≤n:=by
  rcases Nat.lt_or_ge n args.length with hlt|hge
  ·rw [List.getElem?_append_left (by simpa using hlt),List.getElem?_map,List.getElem?_eq_getElem hlt] at h0
   simp at h0
  ·exact hge
 have hlen:args.length=n:=by
  rcases Nat.lt_or_ge args.length n with hlt|hge
  ·obtain ⟨a,_,k⟩:=h2 args.length _ (hx _ hlt)
   simp only [NX.ev,gt] at k
   rw [List.getElem?_append_right (by simp)] at k
   simp only [List.length_map,Nat.sub_self] at k
   rw [List.getElem?_replicate,if_pos (by omega)] at k
   simp [asV] at k
  ·omega
 refine List.ext_getElem? fun i=>?_
 rcases Nat.lt_or_ge i n with hi|hi
 ·obtain ⟨a,k1,k2⟩:=h2 i _ (hx i hi)
  simp only [NX.ev,gt] at k2
  rw [List.getElem?_append_left (by simp [hlen,hi]),List.getElem?_map,List.getElem?_eq_getElem (by omega)] at k2
  simp only [Option.map_some,Option.getD_some] at k2
  rw [k1,asV_v k2,List.getElem?_eq_getElem (by omega)]
 ·rw [List.getElem?_eq_none (by omega),List.getElem?_eq_none (by omega)]
theorem mapM_run {f:ResultVar→Sem Value}:∀ (l:List ResultVar) (vs:List Value),l.length=vs.length→(∀ (i:Nat) (x:ResultVar) (v:Value),l[i]? = some x→vs[i]? = some v→(f x).run P w = .ok v w)→(l.mapM f).run P w = .ok vs w
 | [],[],_,_=>rfl
 | x::l,v::vs,hl,h=>by
  rw [List.mapM_cons]
  simp only [Sem.run_bind,h 0 x v rfl rfl,Result.andThen_ok,mapM_run l vs (by simpa using hl) (fun i y u h1 h2=>h (i+1) y u (by simpa using h1) (by simpa using h2)),Sem.run_pure]
 | [],_::_,hl,_=>by simp at hl
 | _::_,[],hl,_=>by simp at hl
theorem run_loadVar {t:TypeId} {sh:Option Nat} {tv:TV} {val:Value} {v:AV} (hs:shapeOf P t=some sh) (hH:RH E G B s.hp.f w) (hL:RLc E G B s.hp.f m s.lc w) (r:RT E G m tv val) (h:loadAt s sh tv=some v) :
 ∃ a u,val = .pointer (some a)∧(loadVar t a).run P w = .ok u w∧RA E G v u:=by
 unfold loadAt at h
 split at h
 ·rename_i id tok i j
  simp only [RT,RA,RC] at r
  obtain ⟨rr,h1,h2,h3,h4⟩:=r
  simp only [Option.bind_eq_some_iff] at h
  obtain ⟨row,hrow,htk⟩:=h
  obtain ⟨cs,el,fz,hb,hri,hle,_⟩:=row_at hH hrow h1 h2 h3
  obtain ⟨u,hu,ru⟩:=load_ok (P:=P) (j:=j) hs hb hri hle htk
  have:rr.pos i 0+j=rr.pos i j:=by simp [Rec.pos]
  rw [this] at hu
  exact ⟨_,u,h4,by simpa [Instr.loadAt,Instr.sureAddr] using hu,ru⟩
 ·rename_i k j
  simp only [RT] at r
  obtain ⟨b,h1,h2⟩:=r
  simp only [Option.bind_eq_some_iff] at h
  obtain ⟨row,hrow,htk⟩:=h
  obtain ⟨b',vs,el,fz,hb1,hb2,hrl,_⟩:=hL.each k row hrow
  rw [h1] at hb1
  injection hb1 with hb1
  subst hb1
  have hri:RowIn E G vs 0 row:=fun j x hx=>by
   obtain ⟨u,hu,ru⟩:=hrl.get hx
   exact ⟨u,by simpa using hu,ru⟩
  have hlen:=hrl.length
  obtain ⟨u,hu,ru⟩:=load_ok (P:=P) (p:=0) (j:=j) hs hb2 hri (by simp at hlen;omega) htk
  rw [Nat.zero_add] at hu
  exact ⟨_,u,h2,by simpa [Instr.loadAt,Instr.sureAddr] using hu,ru⟩
 ·cases h
def valOf:List Value→Value
 | [v]=>v
 | vs=>.tuple vs.toArray
theorem results_cell {fn:Func} {pre post:List Nat} {a:Nat} {t:TypeId} {tmps:Array Value} {ad:Addr} {u:Value} (h:fn.results.toList=pre.map ResultVar.tmp++ResultVar.cell a t::post.map ResultVar.tmp)
 (ha:tmps.getD a undef = .pointer (some ad)) (hu:(loadVar t ad).run P w = .ok u w) :
 (results fn tmps).run P w = .ok (valOf ((pre.map fun t=>tmps.getD t undef)++u::post.map fun t=>tmps.getD t undef)) w:=by
 have hr:fn.results=(pre.map ResultVar.tmp++ResultVar.cell a t::post.map ResultVar.tmp).toArray:=by apply Array.toList_inj.mp;simpa using h
 unfold results
 rw [hr,List.mapM_toArray,Sem.run_bind,Sem.run_map]
 rw [mapM_run (vs:=(pre.map fun t=>tmps.getD t undef)++u::post.map fun t=>tmps.getD t undef)]
 ·simp only [Result.andThen_ok,Sem.run_pure]
  generalize (pre.map fun t=>tmps.getD t undef)++u::post.map (fun t=>tmps.getD t undef)=L
  match L with
  | []=>rfl
  | [v]=>rfl
  | v1::v2::l=>rw [dif_neg (by simp)];rfl
 ·simp
 ·intro i x v h1 h2
  rcases Nat.lt_trichotomy i pre.length with hi|hi|hi
  ·rw [List.getElem?_append_left (by simpa using hi),List.getElem?_map] at h1 h2
   rw [List.getElem?_eq_getElem hi] at h1 h2
   simp at h1 h2
   subst h1 h2
   simp [Array.getD_eq_getD_getElem?]
  ·subst hi
   rw [List.getElem?_append_right (by simp)] at h1 h2
   simp at h1 h2
   subst h1 h2
   simp only [ha,asAddr,Sem.run_bind,Sem.run_pure,Result.andThen_ok,hu]
  ·rw [List.getElem?_append_right (by simp;omega)] at h1 h2
   simp only [List.length_map] at h1 h2
   obtain ⟨j,hj⟩:∃ j,i-pre.length=j+1:=⟨i-pre.length-1,by omega⟩
   rw [hj,List.getElem?_cons_succ,List.getElem?_map] at h1 h2
   cases hp:post[j]? with
   | none=>rw [hp] at h1;cases h1
   | some y=>
    rw [hp] at h1 h2
    simp at h1 h2
    subst h1 h2
    simp [Array.getD_eq_getD_getElem?]
theorem calls_ok (N:Nat→Option NF) (hN:HProg P E.rn D N) (hD:∀ k,CallsOk P E B (callW N k)→DrawsOk P E B (callW N k) D):∀ k,CallsOk P E B (callW N k):=by
 intro k
 induction k with
 | zero=>intro g args hp post G w vs h;exact h.elim
 | succ k ih=>
  intro g args hp post G w vs h hr hH ht
  obtain ⟨nf,h1,h2,h3⟩:=h
  obtain ⟨fn,h4,hG⟩:=hN g nf h1
  rcases hG with ⟨h5,h6,h7,c,locs,h8,h9⟩|⟨h5,h6,F,n,rfl,hF⟩|⟨h5,h6,pre,ra,t,sh,pos,bd,c,locs,h7,hrs,hna,hnb,hsh,hbd,h8,h9⟩
  rotate_left
  ·obtain ⟨l,r,k0,k1,k2,_,r',k3,k4⟩:=h3
   have hl:=prim_args k0 k1
   subst hl
   have hr':r'=r:=by
    have hlt:n<(l.map TV.v++List.replicate (n+1-l.length) TV.u).length:=by simp at h2 ⊢;omega
    simp only [results?,gt] at k3
    rw [List.getElem?_set_self hlt] at k3
    exact asV_v k3
   subst hr'
   refine ⟨⟨fn,h4,h5,h6⟩,Calls.mono (hF E G l r' vs w k2 hr) ?_⟩
   rintro e w' ⟨v,rfl,hv,hfr⟩
   refine ⟨v,r',hp,G,rfl,k4,hv,⟨fun id o ho=>?_,fun i j oi oj b wi wj=>hH.apart i j oi oj b wi wj,Nat.le_trans hH.size hfr.size⟩,Ext.refl _ _,hfr.mono (fun _ h=>h.elim),fun b h=>.inl h,Nat.le_refl _,fun id h=>⟨.inl h,rfl,rfl⟩⟩
   exact RO.mono (Ext.refl G hp.obs.length) rfl rfl (fun b wr hb=>hfr.block b (Owns.lt (hH.each id o ho) hb) (fun h=>h)) (hH.each id o ho)
  ·refine ⟨⟨fn,h4,h5,by rw [h8];rfl⟩,calls_of_wp h4 h8 ?_⟩
   rw [h6]
   rw [hbd] at h3
   have hI:=enter_inv (B:=B) (n:=nf.ntmps) hr hH ht
   refine code_wp ih (hD k ih) bd c G _ _ _ w _ h9 hI h3 _ ?_
   rintro e a' w' ⟨e',s',G',m',k1,⟨k2,k3⟩,k5,k6⟩
   simp only [runW,stepW,wanted,nopW,nop,Option.map_eq_some_iff] at k3
   obtain ⟨q,⟨v,hv,rfl⟩,_,r,k3,k4⟩:=k3
   simp only [NX.ev] at hv
   have hrt:=k5.tm ra
   obtain ⟨ad,u,hval,hu,hru⟩:=run_loadVar hsh k5.hp k5.lc hrt hv
   have hlt:ra<s'.tm.length:=by
    rcases Nat.lt_or_ge ra s'.tm.length with h'|h'
    ·exact h'
    ·rw [show gt s'.tm ra = .u by simp [gt,List.getElem?_eq_none h']] at hv
     simp [loadAt] at hv
   have hres:=results_cell (P:=P) (w:=w') h7 hval hu
   have hput:=RTm.put k5.tm k5.size (tv:=.v v) (v:=u) (by simpa only [RT] using hru) (some ra)
   have hrel:=results_rel hput (rs:=nf.results) (r:=r) k3
   have hvals:resV (a'.put (some ra) u).tmps nf.results=valOf ((pre.map fun t=>a'.tmps.getD t undef)++u::pos.map fun t=>a'.tmps.getD t undef):=by
    have hg:∀ i,i≠ra→(a'.put (some ra) u).tmps.getD i undef=a'.tmps.getD i undef:=fun i hi=>by
     rw [put_getD,if_neg (by simp [Ne.symm hi])]
    have hg0:(a'.put (some ra) u).tmps.getD ra undef=u:=by
     rw [put_getD,if_pos ⟨rfl,by have:=k5.size;omega⟩]
    have hm1:nf.results.map (fun t=>(a'.put (some ra) u).tmps.getD t undef)=(pre.map fun t=>a'.tmps.getD t undef)++u::pos.map fun t=>a'.tmps.getD t undef:=by
     rw [hrs,List.map_append,List.map_cons,hg0]
     congr 1
     ·exact List.map_congr_left fun i hi=>hg i (fun e=>hna (e▸hi))
     ·congr 1
      exact List.map_congr_left fun i hi=>hg i (fun e=>hnb (e▸hi))
    rw [←hm1]
    generalize nf.results=rs
    match rs with
    | []=>rfl
    | [x]=>rfl
    | x::y::l=>rfl
   rw [hvals] at hrel
   have hret:Ret E B G hp w r s'.hp (valOf ((pre.map fun t=>a'.tmps.getD t undef)++u::pos.map fun t=>a'.tmps.getD t undef)) w' G':=by
    refine ⟨hrel,k5.hp,k6.ext,k6.fr.mono ?_,k6.own,k6.grow,k6.dead⟩
    rintro b ⟨hb|⟨k,hk,_⟩,hB⟩
    ·exact ⟨hb,hB⟩
    ·simp at hk
   rcases k2 with rfl|rfl
   ·simp only [ExR] at k1;subst k1
    exact ⟨k5.noDef,_,hres,_,r,s'.hp,G',rfl,k4,hret⟩
   ·simp only [ExR] at k1;subst k1
    exact ⟨k5.noDef,_,hres,_,r,s'.hp,G',rfl,k4,hret⟩
  refine ⟨⟨fn,h4,h5,by rw [h8];rfl⟩,calls_of_wp h4 h8 ?_⟩
  rw [h6]
  have hI:=enter_inv (B:=B) (n:=nf.ntmps) hr hH ht
  refine code_wp ih (hD k ih) nf.body c G _ _ _ w _ h9 hI h3 _ ?_
  rintro e a' w' ⟨e',s',G',m',k1,⟨k2,r,k3,k4⟩,k5,k6⟩
  have hres:=results_run (P:=P) (w:=w') h7 a'.tmps
  have hrel:=results_rel k5.tm k3
  have hret:Ret E B G hp w r s'.hp (resV a'.tmps nf.results) w' G':=by
   refine ⟨hrel,k5.hp,k6.ext,k6.fr.mono ?_,k6.own,k6.grow,k6.dead⟩
   rintro b ⟨hb|⟨k,hk,_⟩,hB⟩
   ·exact ⟨hb,hB⟩
   ·simp at hk
  rcases k2 with rfl|rfl
  ·simp only [ExR] at k1;subst k1
   exact ⟨k5.noDef,_,hres,_,r,s'.hp,G',rfl,k4,hret⟩
  ·simp only [ExR] at k1;subst k1
   exact ⟨k5.noDef,_,hres,_,r,s'.hp,G',rfl,k4,hret⟩
end
end
section
section
variable {P:Program} {E:Env} {G G':Gh} {B:Nat} {m:Mu} {s:St} {a:Act} {w w1:World}
variable {o:Oper} {q:Res}
theorem newRowsAt {id:Nat} (hd:s.hp.f id=some .dead) {sz tot:Nat} {rs:List (List CV)} {cs:Array Value} {el:TypeId} {fz:Nat × Nat} (hH:RH E G B s.hp.f w) (hL:RLc E G B s.hp.f m s.lc w)
 (hfree:∀ tok,G.rows id tok=none) (hw:∀ row∈rs,row.length=sz) (hsz:cs.size=tot * sz) (hle:rs.length≤tot) (hfz:∀ o,o<cs.size→¬(fz.1≤o∧o<fz.2))
 (hr:RL E G rs.flatten (cs.toList.take (rs.length * sz))) :
 let G':=gRows G id ⟨w.heap.size,0,0,rs.length,sz,tot⟩
 let hp':=s.hp.put id (.rows true sz 0 0 rs)
 RH E G' B hp'.f (w.alloc (.cells cs el fz))∧RLc E G' B hp'.f m s.lc (w.alloc (.cells cs el fz))∧(∀ b,Owned G' hp'.f b→Owned G s.hp.f b∨w.heap.size≤b)∧Fr (fun _=>False) w (w.alloc (.cells cs el fz))∧Ext G G' hp'.obs.length:=by
 intro G' hp'
 have hx:=gRows_ext hfree ⟨w.heap.size,0,0,rs.length,sz,tot⟩
 have hnew:=alloc_new w (.cells cs el fz)
 have hro:RO E G' B (w.alloc (.cells cs el fz)) id (.rows true sz 0 0 rs):=by
  simp only [RO]
  have hg:∀ tok,G'.rows id tok=if tok=0 then some ⟨w.heap.size,0,0,rs.length,sz,tot⟩ else none:=by
   intro tok;simp [G',gRows]
  refine ⟨Nat.le_refl _,⟨⟨w.heap.size,0,0,rs.length,sz,tot⟩,by rw [hg];simp,rfl⟩,?_,?_,?_⟩
  ·intro tok r h
   rw [hg] at h
   split at h <;> simp at h
   omega
  ·intro tok r _ h
   rw [hg] at h
   split at h <;> simp at h
   subst h
   refine ⟨rfl,Nat.le_refl _,Nat.zero_le _,by simpa using hle,fun i row _ h1 h2=>hw row (List.mem_of_getElem? h2),cs,el,fz,hnew,by simpa using Nat.le_of_eq hsz.symm,fun _=>⟨hH.size,hfz⟩,?_⟩
   intro i row j x _ hi hrow hx'
   have hrl:row.length=sz:=hw row (List.mem_of_getElem? hrow)
   have hj:j<sz:=by
    rcases Nat.lt_or_ge j row.length with h'|h'
    ·omega
    ·simp [List.getElem?_eq_none h'] at hx'
   have hflat:rs.flatten[i * sz+j]? = some x:=by
    have:∀ (l:List (List CV)) (i:Nat),(∀ r∈l,r.length=sz)→l[i]? = some row→l.flatten[i * sz+j]? = some x:=by
     intro l
     induction l with
     | nil=>intro i _ h;simp at h
     | cons y l ih=>
      intro i hl h
      cases i with
      | zero=>
       simp at h
       subst h
       simp [List.getElem?_append_left (show j<y.length by omega)]
       exact hx'
      | succ i=>
       have hy:y.length=sz:=hl y (by simp)
       rw [List.flatten_cons,List.getElem?_append_right (by rw [hy,Nat.add_mul];omega)]
       rw [show (i+1) * sz+j-y.length=i * sz+j by rw [hy,Nat.add_mul];omega]
       exact ih i (fun r hr=>hl r (by simp [hr])) (by simpa using h)
    exact this rs i hw hrow
   obtain ⟨v,hv,rv⟩:=hr.get hflat
   rw [List.getElem?_take] at hv
   split at hv
   ·refine ⟨v,?_,RC.ext hx rv⟩
    simp only [Rec.pos,Nat.sub_zero,Nat.zero_add]
    simpa using hv
   ·simp at hv
  ·intro t1 t2 r1 r2 _ _ h1 h2 _
   rw [hg] at h1 h2
   split at h1 <;> simp at h1
   split at h2 <;> simp at h2
   subst h1 h2
   exact ⟨rfl,rfl,rfl⟩
 have how:∀ b wr,Owns G' id b wr (.rows true sz 0 0 rs)→b=w.heap.size:=by
  rintro b wr ⟨_,tok,r,_,h,rfl⟩
  simp only [G',gRows,if_true] at h
  split at h <;> simp at h
  subst h
  rfl
 have hold:∀ i,i≠id→G'.rows i=G.rows i∧G'.obj i=G.obj i:=by
  intro i hi
  refine ⟨?_,rfl⟩
  funext tok
  simp [G',gRows,hi]
 have hx2:Ext G G' s.hp.obs.length:=⟨hx.rows,hx.obj,fun i hi=>hx.above i (Nat.lt_of_lt_of_le (f_lt hd) hi)⟩
 obtain ⟨k1,k2,k3⟩:=put_ok (w':=w.alloc (.cells cs el fz)) hH hL hd hx2 hold (by simp) (fun b hb _=>Below.heap_alloc w _ b hb) hro (fun b wr h=>.inr (by rw [how b wr h];exact Nat.le_refl _))
 exact ⟨k1,k2,k3,⟨rfl,rfl,rfl,by simp,fun b hb _=>Below.heap_alloc w _ b hb⟩,by simpa [hp',Hp.put] using hx2⟩
theorem boxAt_ok {id:Nat} (hd:s.hp.f id=some .dead) (hfree:∀ tok,G.rows id tok=none) {sz:Nat} {el:TypeId} {x:AV} {v:Value} (hH:RH E G B s.hp.f w) (hL:RLc E G B s.hp.f m s.lc w) (hx:RA E G x v) (hnt:∀ l,x≠.tup l) (hlen:x.cells.length=sz)
 (hrun:(execOp a.eval o).run P w = .ok (.value (.pointer (some ⟨w.heap.size,0,none⟩))) (w.alloc (.cells v.cells el))):OpOk P E B G m s a w o ⟨ptrTo id,s.lc,s.hp.put id (.rows true sz 0 0 [x.cells])⟩:=by
 intro hf hfm
 have rc:=hx.cells hnt
 have hl:=rc.length
 obtain ⟨k1,k2,k3,k4,k5⟩:=newRowsAt hd (sz:=sz) (tot:=1) (rs:=[x.cells]) (cs:=v.cells) (el:=el) (fz:=(0,0)) hH hL hfree (by simp [hlen]) (by simp at hl;omega) (by simp) (by intros;omega)
  (by simp only [List.flatten_cons,List.flatten_nil,List.append_nil,List.length_singleton,Nat.one_mul];rw [List.take_of_length_le (by omega)];exact rc)
 refine ⟨_,_,_,_,_,hrun,.inl rfl,step_new k1 k2 k3 k4 k5 (by simp [Hp.put]) ?_ (dead_put hd (by simp) (fun id hid=>⟨by funext tok;simp [gRows,hid],rfl⟩))⟩
 simp only [ptrTo,RT,RA,RC]
 exact ⟨⟨w.heap.size,0,0,1,sz,1⟩,by simp [gRows],Nat.le_refl _,Nat.zero_lt_one,by simp [Rec.pos]⟩
theorem opAt_alloc {id:Nat} (hd:s.hp.f id=some .dead) (hfree:∀ tok,G.rows id tok=none) (hH:RH E G B s.hp.f w) (hL:RLc E G B s.hp.f m s.lc w) {t:TypeId} {z:AV} {n:Nat} (ho:o.op = .alloc t) (hz:zeroOf P t=some z)
 (hn:allocAt s id (.box false n (.c z))=some q):OpOk P E B G m s a w o q:=by
 obtain ⟨zv,hzv,rz,hnt,_⟩:=run_zero hz w
 simp only [allocAt,Option.bind_eq_some_iff] at hn
 obtain ⟨x,hx,hn⟩:=hn
 split at hn <;> simp at hn
 rename_i hlen
 subst hn
 have hxz:x=z:=by
  simp only [NX.ev] at hx
  cases z <;> simp [asV] at hx <;> exact hx.symm
 subst hxz
 exact boxAt_ok hd hfree (el:=t) (v:=zv) hH hL (rz E G) hnt hlen (by simp [execOp,ho,Instr.alloc,hzv,newVar,run_newRow])
theorem opAt_box {id:Nat} (hd:s.hp.f id=some .dead) (hfree:∀ tok,G.rows id tok=none) (ht:RTm E G m s.tm a.tmps) (hH:RH E G B s.hp.f w) (hL:RLc E G B s.hp.f m s.lc w) {t:TypeId} {y:Operand} {ny:NX} {n:Nat} (ho:o.op = .box t y) (hy:compX E.rn y=some ny)
 (hn:allocAt s id (.box false n ny)=some q):OpOk P E B G m s a w o q:=by
 simp only [allocAt,Option.bind_eq_some_iff] at hn
 obtain ⟨x,hx,hn⟩:=hn
 split at hn <;> simp at hn
 rename_i hlen
 subst hn
 obtain ⟨rx,hnt⟩:=asV_rel hx (compX_rel ht hy)
 exact boxAt_ok hd hfree (el:=t) hH hL rx hnt hlen (by simp [execOp,ho,Instr.box,newVar,run_newRow])
theorem opAt_mkmap {id:Nat} (hd:s.hp.f id=some .dead) (hfree:G.obj id=none) (hH:RH E G B s.hp.f w) (hL:RLc E G B s.hp.f m s.lc w) {t:TypeId} (ho:o.op = .makeMap t none) (hn:allocAt s id .mkmap=some q):OpOk P E B G m s a w o q:=by
 simp only [allocAt,Option.some.injEq] at hn
 subst hn
 intro hf hfm
 have hx:=gObj_ext (b:=w.heap.size) hfree
 have hx2:Ext G (gObj G id w.heap.size) s.hp.obs.length:=⟨hx.rows,hx.obj,fun i hi=>hx.above i (Nat.lt_of_lt_of_le (f_lt hd) hi)⟩
 have hnew:=alloc_new w (.map #[] 0)
 obtain ⟨k1,k2,k3⟩:=put_ok (o':=.map true [] 0) (w':=w.alloc (.map #[] 0)) hH hL hd hx2 (fun i hi=>⟨rfl,by simp [gObj,hi]⟩) (by simp) (fun b hb _=>Below.heap_alloc w _ b hb)
  (by simp only [RO];exact ⟨w.heap.size,#[],by simp [gObj],hnew,by simp [REnts],fun _=>hH.size⟩)
  (by rintro b wr ⟨_,h⟩;simp [gObj] at h;exact .inr (by rw [←h];exact Nat.le_refl _))
 refine ⟨_,.map (some w.heap.size),_,_,_,by simp [execOp,ho,Instr.makeMap],.inl rfl,step_new k1 k2 k3 ⟨rfl,rfl,rfl,by simp,fun b hb _=>Below.heap_alloc w _ b hb⟩ (by simpa [Hp.put] using hx2) (by simp [Hp.put]) ?_ (dead_put hd (by simp) (fun id hid=>⟨rfl,by simp [gObj,hid]⟩))⟩
 simp only [RT,RA,RC]
 exact ⟨w.heap.size,by simp [gObj],rfl⟩
theorem opAt_bslice {id:Nat} (hd:s.hp.f id=some .dead) (hfree:∀ tok,G.rows id tok=none) (ht:RTm E G m s.tm a.tmps) (hH:RH E G B s.hp.f w) (hL:RLc E G B s.hp.f m s.lc w) {t e:TypeId} {ps:Array (Nat × Operand)} {z:AV} {n sz:Nat} {nps:List (Nat × Nat × NX)} (ho:o.op = .buildSlice t n ps)
 (hu:P.underlying t=some (.slice e)) (hz:zeroOf P e=some z) (hs:szOf P e=some sz) (hle:n * sz≤65536) (hpos:0<sz) (hp:partsOf E.rn (fun i=>some (i * sz,sz)) ps.toList=some nps)
 (hn:allocAt s id (.bslice false sz n z.cells nps)=some q):OpOk P E B G m s a w o q:=by
 simp only [allocAt,Option.bind_eq_some_iff,Option.map_eq_some_iff] at hn
 obtain ⟨l,hl,cs,hcs,rfl⟩:=hn
 obtain ⟨zv,hzv,rz,hnt,hzl⟩:=run_zero hz w
 rw [hs] at hzl
 injection hzl with hzl
 have rzc:=(rz E G).cells hnt
 have hrep:=repl_rel rzc hzl.symm n
 obtain ⟨us,hus,rus⟩:=fill_ok ps.toList nps l _ cs _ ht hp hl hrep hcs
 have hrun:(execOp a.eval o).run P w = .ok (.value (.slice (some ⟨w.heap.size,0,none⟩) n n)) (w.alloc (.cells us e)):=by
  simp only [execOp,ho,Instr.buildSlice,Sem.run_bind,run_und hu,Result.andThen_ok,run_size hs]
  rw [if_neg (by omega)]
  simp only [Sem.run_bind,Sem.run_pure,Result.andThen_ok,pure_bind,Array.toList_map]
  by_cases h0:n * sz=0
  ·rw [if_pos h0]
   rw [h0] at hus
   simp only [range0,Array.map_empty] at hus
   simp only [h0,range0,Array.map_empty,hus,Sem.run_bind,run_newRow,Sem.run_pure,Result.andThen_ok]
  ·rw [if_neg h0]
   simp only [Sem.run_bind,hzv,Result.andThen_ok,hus,run_newRow,Sem.run_pure]
 have hlen:cs.length=n * sz:=by
  have:∀ (l:List (Nat × Nat × AV)) (x y:List CV),fillCells x l=some y→y.length=x.length:=by
   intro l
   induction l with
   | nil=>intro x y h;simp [fillCells] at h;rw [h]
   | cons p l ih=>
    intro x y h
    obtain ⟨o1,s1,v1⟩:=p
    simp only [fillCells] at h
    split at h
    ·rename_i hc
     rw [ih _ _ h]
     simp [splice]
     omega
    ·simp at h
  rw [this l _ _ hcs]
  simp [←hzl]
 intro hf hfm
 obtain ⟨c1,c2,c3⟩:=chunks_flatten sz n cs hlen
 have hul:=rus.length
 simp only [Array.length_toList] at hul
 obtain ⟨k1,k2,k3,k4,k5⟩:=newRowsAt hd (sz:=sz) (tot:=n) (rs:=chunks sz n cs) (cs:=us) (el:=e) (fz:=(0,0)) hH hL hfree c3 (by omega) (by omega) (by intros;omega)
  (by rw [c1,c2];rw [List.take_of_length_le (by simp;omega)];exact rus)
 refine ⟨_,_,_,_,_,hrun,.inl rfl,step_new k1 k2 k3 k4 k5 (by simp [Hp.put]) ?_ (dead_put hd (by simp) (fun id hid=>⟨by funext tok;simp [gRows,hid],rfl⟩))⟩
 simp only [RT,RA,RC]
 refine ⟨⟨w.heap.size,0,0,n,sz,n⟩,⟨w.heap.size,0,none⟩,n,by simp [gRows,c2],Nat.le_refl _,by simp,rfl,.inl (by simp [Rec.pos]),Nat.le_refl _,?_⟩
 simp
theorem opAt_mkslice {id:Nat} (hd:s.hp.f id=some .dead) (hfree:∀ tok,G.rows id tok=none) (ht:RTm E G m s.tm a.tmps) (hH:RH E G B s.hp.f w) (hL:RLc E G B s.hp.f m s.lc w) {t e:TypeId} {x y:Operand} {nx ny:NX} {z:AV} {i:TypeInfo} (ho:o.op = .makeSlice t x y)
 (hu:P.underlying t=some (.slice e)) (hz:zeroOf P e=some z) (hi:P.info? e=some i) (hpos:0<i.size) (hx:compX E.rn x=some nx) (hy:compX E.rn y=some ny)
 (hn:allocAt s id (.mkslice i.size i.bytes z.cells nx ny)=some q):OpOk P E B G m s a w o q:=by
 simp only [allocAt,Option.bind_eq_some_iff] at hn
 obtain ⟨l,hl,c,hc,hn⟩:=hn
 split at hn <;> simp at hn
 rename_i hb
 obtain ⟨h0,h1,h2,h3⟩:=hb
 subst hn
 have rl:=asI_rel hl (compX_rel ht hx)
 have rc:=asI_rel hc (compX_rel ht hy)
 obtain ⟨zv,hzv,rz,hnt,hzl⟩:=run_zero hz w
 have hs:szOf P e=some i.size:=by simp [szOf,hi]
 rw [hs] at hzl
 injection hzl with hzl
 have rzc:=(rz E G).cells hnt
 obtain ⟨ln,hln⟩:=Int.eq_ofNat_of_zero_le h0
 obtain ⟨cn,hcn⟩:=Int.eq_ofNat_of_zero_le (Int.le_trans h0 h1)
 have hrep:=repl_rel rzc hzl.symm cn
 have hrun:(execOp a.eval o).run P w = .ok (.value (.slice (some ⟨w.heap.size,0,none⟩) ln cn)) (w.alloc (.cells ((Array.range (cn * i.size)).map (zv.cells[· % zv.cells.size]!)) e)):=by
  have e1:l.2=(ln:Int):=hln
  have e2:c.2=(cn:Int):=hcn
  have w1:IntKind.i64.wrap (ln:Int)=ln:=wrap_id (by omega) (by omega)
  have w2:IntKind.i64.wrap (cn:Int)=cn:=wrap_id (by omega) (by omega)
  have hbig:¬((i.bytes:Int) * (cn:Int) > 2 ^ 48):=by rw [Int.mul_comm];rw [e2] at h2;omega
  simp only [execOp,ho,Instr.makeSlice,Sem.run_bind,run_und hu,Result.andThen_ok,rl,rc,asInt,asIntOf,Sem.run_pure,e1,e2,typeInfo,run_program,hi,w1,w2]
  rw [if_neg (by
   simp only [Bool.or_eq_true,decide_eq_true_eq,not_or]
   refine ⟨⟨⟨by omega,hbig⟩,by omega⟩,by omega⟩)]
  simp only [Sem.run_bind,run_askRoom,Result.andThen_ok,run_size hs,Int.toNat_natCast]
  by_cases h0:cn * i.size=0
  ·rw [if_pos h0]
   simp only [h0,range0,Array.map_empty,Sem.run_bind,run_newRow,Sem.run_pure,Result.andThen_ok,pure_bind]
  ·rw [if_neg h0]
   simp only [Sem.run_bind,hzv,Result.andThen_ok,run_newRow,Sem.run_pure]
 intro hf hfm
 have hw:∀ row∈List.replicate cn z.cells,row.length=i.size:=by
  intro row hr
  rw [List.eq_of_mem_replicate hr,hzl]
 obtain ⟨k1,k2,k3,k4,k5⟩:=newRowsAt hd (sz:=i.size) (tot:=cn) (rs:=List.replicate cn z.cells) (cs:=(Array.range (cn * i.size)).map (zv.cells[· % zv.cells.size]!)) (el:=e) (fz:=(0,0)) hH hL hfree hw (by simp) (by simp) (by intros;omega)
  (by rw [List.take_of_length_le (by simp)];exact hrep)
 have hct:c.2.toNat=cn:=by omega
 have hlt:l.2.toNat=ln:=by omega
 rw [hct,hlt]
 refine ⟨_,_,_,_,_,hrun,.inl rfl,step_new k1 k2 k3 k4 k5 (by simp [Hp.put]) ?_ (dead_put hd (by simp) (fun id hid=>⟨by funext tok;simp [gRows,hid],rfl⟩))⟩
 simp only [RT,RA,RC]
 refine ⟨⟨w.heap.size,0,0,cn,i.size,cn⟩,⟨w.heap.size,0,none⟩,cn,by simp [gRows],Nat.le_refl _,by simp;omega,rfl,.inl (by simp [Rec.pos]),by omega,?_⟩
 simp
end
end
section
section
variable {P:Program} {E:Env} {G G':Gh} {B:Nat} {m:Mu} {s:St} {a:Act} {w w1:World}
variable {o:Oper} {q:Res} {call:CallW} {ops:Array Oper}
theorem opAt_ok {id:Nat} (hd:s.hp.f id=some .dead) (hfree:(∀ tok,G.rows id tok=none)∧G.obj id=none) (ht:RTm E G m s.tm a.tmps) (hH:RH E G B s.hp.f w) (hL:RLc E G B s.hp.f m s.lc w) {n:NO}
 (hc:compOp P E.rn false o.op=some n) (hn:allocAt s id n=some q):OpOk P E B G m s a w o q:=by
 generalize hop:o.op=op at hc
 by_cases hcl:∃ c,op = .call c
 ·obtain ⟨c,rfl⟩:=hcl
  exfalso
  simp only [compOp,compCall] at hc
  rw [Option.bind_eq_some_iff] at hc
  obtain ⟨args,hx,hc⟩:=hc
  (repeat' split at hc) <;> first
   | (injection hc with hc;subst hc;simp [allocAt] at hn;done)
   | (cases hc;done)
   | (simp only [Option.map_eq_some_iff] at hc;obtain ⟨_,_,rfl⟩:=hc;simp [allocAt] at hn;done)
   | (simp only [Option.bind_eq_some_iff] at hc;obtain ⟨_,_,_,_,hc⟩:=hc;split at hc <;> first|(injection hc with hc;subst hc;simp [allocAt] at hn;done)|(cases hc;done))
 ·unfold compOp at hc
  split at hc
  case h_4=>
   simp only [Option.bind_eq_some_iff,Option.map_eq_some_iff] at hc
   obtain ⟨z,hz,k,hk,rfl⟩:=hc
   exact opAt_alloc hd hfree.1 hH hL hop hz hn
  case h_5=>
   simp only [Option.bind_eq_some_iff,Option.map_eq_some_iff] at hc
   obtain ⟨nx,hx,k,hk,rfl⟩:=hc
   exact opAt_box hd hfree.1 ht hH hL hop hx hn
  case h_7=>
   split at hc
   rotate_left
   ·cases hc
   rename_i e hu
   simp only [Option.bind_eq_some_iff] at hc
   obtain ⟨z,hz,k,hk,hc⟩:=hc
   split at hc
   rotate_left
   ·cases hc
   rename_i hcond
   simp only [Option.map_eq_some_iff] at hc
   obtain ⟨l,hl,rfl⟩:=hc
   exact opAt_bslice hd hfree.1 ht hH hL hop hu hz hk hcond.1 hcond.2 hl hn
  case h_16=>
   injection hc with hc
   subst hc
   exact opAt_mkmap hd hfree.2 hH hL hop hn
  case h_17=>
   split at hc
   rotate_left
   ·cases hc
   rename_i e hu
   simp only [Option.bind_eq_some_iff] at hc
   obtain ⟨z,hz,i,hi,nx,hx,ny,hy,hc⟩:=hc
   split at hc
   rotate_left
   ·cases hc
   rename_i hpos
   injection hc with hc
   subst hc
   exact opAt_mkslice hd hfree.1 ht hH hL hop hu hz hi hpos hx hy hn
  all_goals exfalso
  all_goals try (exact hcl ⟨_,rfl⟩)
  all_goals repeat' (first
   | (injection hc with hc;subst hc;simp [allocAt] at hn;done)
   | (cases hc;done)
   | (rw [Option.bind_eq_some_iff] at hc;obtain ⟨_,_,hc⟩:=hc)
   | (rw [Option.map_eq_some_iff] at hc;obtain ⟨_,_,hc⟩:=hc;subst hc;simp [allocAt] at hn;done)
   | split at hc)
theorem stepD_wp (hI:Inv E B G m s a w) {base:Nat} {al:Option Nat} {r:NR} (hr:compR P E.rn [] ops o=some r) (hcall:CallsOk P E B call) {post:St→Prop} (hn:stepD call base al r s post)
 {next:Act→World→Prop} {Q:Exit→Act→World→Prop}
 (hk:∀ s' a' w' G' m',post s'→Inv E B G' m' s' a' w'→Mv B G m s.hp s.lc w G' m' s'.hp s'.lc w'→next a' w') :
 if Region.wanted o (yielded ops a.tmps)=true then o.wp P a w next Q else next (a.put o.dst undef) w:=by
 cases al with
 | none=>exact step_wp hI hr hcall hn hk
 | some k=>
  simp only [stepD] at hn
  have hr0:=hr
  unfold compR at hr
  rw [Option.bind_eq_some_iff] at hr
  obtain ⟨g,hg,hr⟩:=hr
  rw [Option.map_eq_some_iff] at hr
  obtain ⟨n,hc,rfl⟩:=hr
  have hc':compOp P E.rn false o.op=some n:=by
   cases hd:o.dst <;> simpa [hd] using hc
  split at hn
  ·rename_i hw
   rw [wanted_rel hI.tm hg hw,if_pos rfl]
   obtain ⟨h1,q,h2,h3⟩:=hn
   obtain ⟨n',v,w',G',m',k1,k2,k3⟩:=opAt_ok (P:=P) (E:=E) (B:=B) (a:=a) (w:=w) (o:=o) h1 (hI.free _ (.inl h1)) hI.tm hI.hp hI.lc hc' h2 (fun id h1 _=>hI.free id (.inr h1)) (fun k h1 _=>hI.freem k h1)
   obtain ⟨h4,h5⟩:=hI.step (dst:=o.dst) k3
   unfold Oper.wp
   rw [k1]
   rcases k2 with rfl|⟨rfl,rfl⟩
   ·exact hk _ _ _ _ _ h3 h4 h5
   ·exact hk _ _ _ _ _ h3 h4 h5
  ·rename_i hw
   exact step_wp hI hr0 hcall (post:=post) (by simp only [stepW,hw];exact hn) hk
  ·exact hn.elim
end
end
end Camp
namespace Camp
open Go
section
structure Le (T:Nat→Prop) (C H:Hp):Prop where
 len:H.obs.length=C.obs.length
 cnt:H.cnt=C.cnt
 low:∀ id,T id→id<C.obs.length
 obs:∀ id:Nat,(T id∧C.obs[id]? = some AO.dead)∨H.obs[id]? = C.obs[id]?
structure Le2 (T:Nat→Prop) (C H C' H':Hp):Prop where
 le:Le T C' H'
 dead:∀ id:Nat,T id→C.obs[id]? = some AO.dead→C'.obs[id]? = some AO.dead∧H'.obs[id]? = H.obs[id]?
 grow:C.obs.length≤C'.obs.length
theorem Le2.refl {T:Nat→Prop} {C H:Hp} (h:Le T C H):Le2 T C H C H:=⟨h,fun _ _ h=>⟨h,rfl⟩,Nat.le_refl _⟩
theorem Le2.trans {T:Nat→Prop} {C H C' H' C'' H'':Hp} (h:Le2 T C H C' H') (k:Le2 T C' H' C'' H''):Le2 T C H C'' H'':=
 ⟨k.le,fun id hi hd=>by
  obtain ⟨h1,h2⟩:=h.dead id hi hd
  obtain ⟨k1,k2⟩:=k.dead id hi h1
  exact ⟨k1,k2.trans h2⟩,Nat.le_trans h.grow k.grow⟩
theorem Le.get {T:Nat→Prop} {C H:Hp} (h:Le T C H) {id:Nat} {o:AO} (he:C.obs[id]? = some o) (hd:o≠.dead):H.obs[id]? = some o:=by
 rcases h.obs id with ⟨_,h1⟩|h1
 ·rw [h1] at he;injection he with he;exact absurd he.symm hd
 ·rw [h1,he]
theorem Le.push {T:Nat→Prop} {C H:Hp} (h:Le T C H) (o:AO):Le2 T C H (C.push o) (H.push o):=by
 refine ⟨⟨by simp [Hp.push,h.len],h.cnt,fun id hid=>by have:=h.low id hid;simp [Hp.push];omega,fun id=>?_⟩,fun id _ hd=>?_,by simp [Hp.push]⟩
 ·simp only [Hp.push,List.getElem?_append,h.len]
  split
  ·exact h.obs id
  ·exact .inr rfl
 ·have hlt:id<C.obs.length:=by
   rcases Nat.lt_or_ge id C.obs.length with h'|h'
   ·exact h'
   ·rw [List.getElem?_eq_none h'] at hd;cases hd
  simp only [Hp.push,List.getElem?_append,h.len,hlt,if_true]
  exact ⟨hd,trivial⟩
theorem Le.put {T:Nat→Prop} {C H:Hp} (h:Le T C H) {i:Nat} {o0:AO} (he:C.obs[i]? = some o0) (hd0:o0≠.dead) (o:AO):Le2 T C H (C.put i o) (H.put i o):=by
 refine ⟨⟨by simp [Hp.put,h.len],h.cnt,by simpa [Hp.put] using h.low,fun id=>?_⟩,fun id _ hd=>?_,by simp [Hp.put]⟩
 ·simp only [Hp.put,List.getElem?_set,h.len]
  split
  ·exact .inr rfl
  ·exact h.obs id
 ·have hne:i≠id:=by rintro rfl;rw [he] at hd;injection hd with hd;exact hd0 hd
  simp only [Hp.put,List.getElem?_set,hne,if_false]
  exact ⟨hd,trivial⟩
section
variable {T:Nat→Prop} {tm:List TV} {lc:List (List CV)} {C H:Hp} {call:CallF} {orc:Nat→Nat}
theorem row_le (h:Le T C H) {id tok i:Nat} {r:List CV} (k:row? C id tok i=some r):row? H id tok i=some r:=by
 unfold row? at k
 split at k
 ·rename_i he
  simp only [row?,h.get he (by simp)]
  exact k
 ·rename_i he
  simp only [row?,h.get he (by simp)]
  exact k
 ·cases k
theorem sliceRows_le (h:Le T C H) {sz:Nat} {x:TV} {r:List (List CV)} (k:sliceRows C lc sz x=some r):sliceRows H lc sz x=some r:=by
 unfold sliceRows at k
 split at k
 ·simpa [sliceRows] using k
 ·split at k
  ·rename_i he
   simp only [sliceRows,h.get he (by simp)]
   exact k
  ·rename_i he
   simp only [sliceRows,h.get he (by simp)]
   exact k
  ·cases k
 ·simpa [sliceRows] using k
 ·simpa [sliceRows] using k
 ·cases k
theorem loadAt_le (h:Le T C H) {sz:Option Nat} {x:TV} {r:AV} (k:loadAt ⟨tm,lc,C⟩ sz x=some r):loadAt ⟨tm,lc,H⟩ sz x=some r:=by
 unfold loadAt at k
 split at k
 ·simp only [Option.bind_eq_some_iff] at k
  obtain ⟨row,k1,k2⟩:=k
  simp only [loadAt,row_le h k1,Option.bind_some]
  exact k2
 ·simpa [loadAt] using k
 ·cases k
theorem sliceV_le (h:Le T C H) {sz:Nat} {x:TV} {lo hi mx:Option Int} {r:CV} (k:sliceV ⟨tm,lc,C⟩ sz x lo hi mx=some r):sliceV ⟨tm,lc,H⟩ sz x lo hi mx=some r:=by
 unfold sliceV at k
 split at k
 ·simpa [sliceV] using k
 ·simp only at k
  split at k
  ·rename_i he
   simp only [sliceV,h.get he (by simp)]
   exact k
  ·cases k
 ·simpa [sliceV] using k
 ·cases k
theorem iaddrV_le (h:Le T C H) {sz:Nat} {x:TV} {i:Int} {r:TV} (k:iaddrV ⟨tm,lc,C⟩ sz x i=some r):iaddrV ⟨tm,lc,H⟩ sz x i=some r:=by
 unfold iaddrV at k
 split at k
 ·simp only at k
  split at k
  ·rename_i he
   simp only [iaddrV,h.get he (by simp)]
   exact k
  ·rename_i he
   simp only [iaddrV,h.get he (by simp)]
   exact k
  ·cases k
 ·simpa [iaddrV] using k
 ·cases k
theorem mapOf_le (h:Le T C H) {x:CV} {r:List ME} (k:mapOf ⟨tm,lc,C⟩ x=some r):mapOf ⟨tm,lc,H⟩ x=some r:=by
 unfold mapOf at k
 split at k
 ·simpa [mapOf] using k
 ·simp only at k
  split at k
  ·rename_i he
   simp only [mapOf,h.get he (by simp)]
   exact k
  ·cases k
 ·cases k
theorem lenV_le (h:Le T C H) {ty:TK} {x:TV} {r:Int} (k:lenV ⟨tm,lc,C⟩ ty x=some r):lenV ⟨tm,lc,H⟩ ty x=some r:=by
 unfold lenV at k
 split at k
 all_goals first
  | (simpa [lenV] using k;done)
  | (cases k;done)
  | skip
 simp only at k
 split at k
 ·rename_i he
  simp only [lenV,h.get he (by simp)]
  exact k
 ·cases k
theorem Le.putNew {T:Nat→Prop} {C H:Hp} (h:Le T C H) {i:Nat} (hi':¬T i) (o:AO):Le2 T C H (C.put i o) (H.put i o):=by
 refine ⟨⟨by simp [Hp.put,h.len],h.cnt,by simpa [Hp.put] using h.low,fun id=>?_⟩,fun id hlt hd=>?_,by simp [Hp.put]⟩
 ·simp only [Hp.put,List.getElem?_set,h.len]
  split
  ·exact .inr rfl
  ·exact h.obs id
 ·have hne:i≠id:=by rintro rfl;exact hi' hlt
  simp only [Hp.put,List.getElem?_set,hne,if_false]
  exact ⟨hd,trivial⟩
def Twin (T:Nat→Prop) (C H:Hp) (q:Res) (r:Option Res):Prop:=∃ q',r=some q'∧q'.v=q.v∧q'.lc=q.lc∧Le2 T C H q.hp q'.hp
theorem Twin.same (h:Le T C H) (v:TV) (l:List (List CV)):Twin T C H ⟨v,l,C⟩ (some ⟨v,l,H⟩):=⟨_,rfl,rfl,rfl,Le2.refl h⟩
theorem Twin.push (h:Le T C H) (v:TV) (l:List (List CV)) (o:AO):Twin T C H ⟨v,l,C.push o⟩ (some ⟨v,l,H.push o⟩):=⟨_,rfl,rfl,rfl,h.push o⟩
theorem Twin.put (h:Le T C H) (v:TV) (l:List (List CV)) {i:Nat} {o0:AO} (he:C.obs[i]? = some o0) (hd0:o0≠.dead) (o:AO):Twin T C H ⟨v,l,C.put i o⟩ (some ⟨v,l,H.put i o⟩):=⟨_,rfl,rfl,rfl,h.put he hd0 o⟩
theorem storeAt_le (h:Le T C H) {sz:Nat} {x:TV} {cs:List CV} {q:Res} (k:storeAt ⟨tm,lc,C⟩ sz x cs=some q):Twin T C H q (storeAt ⟨tm,lc,H⟩ sz x cs):=by
 unfold storeAt at k
 split at k
 rotate_left
 ·cases k
 rename_i hl
 split at k
 ·simp only at k
  split at k
  rotate_left
  ·cases k
  rename_i he
  split at k
  rotate_left
  ·cases k
  rename_i hc
  split at k
  rotate_left
  ·cases k
  rename_i hrow
  split at k
  rotate_left
  ·cases k
  rename_i hj
  injection k with k
  subst k
  simp only [storeAt,hl,if_true,h.get he (by simp),hc,and_self,hrow,hj]
  exact Twin.put h _ _ he (by simp) _
 ·simp only at k
  split at k
  rotate_left
  ·cases k
  rename_i hrow
  split at k
  rotate_left
  ·cases k
  rename_i hj
  injection k with k
  subst k
  simp only [storeAt,hl,if_true,hrow,hj]
  exact Twin.same h _ _
 ·cases k
theorem copyV_le (h:Le T C H) {sz:Nat} {d x:TV} {q:Res} (k:copyV ⟨tm,lc,C⟩ sz d x=some q):Twin T C H q (copyV ⟨tm,lc,H⟩ sz d x):=by
 unfold copyV at k
 split at k
 ·simp only [Option.map_eq_some_iff] at k
  obtain ⟨rs,k1,rfl⟩:=k
  simp only [copyV,sliceRows_le h k1,Option.map_some]
  exact Twin.same h _ _
 ·simp only [Option.bind_eq_some_iff] at k
  obtain ⟨rs,k1,k2⟩:=k
  split at k2
  rotate_left
  ·cases k2
  rename_i he
  split at k2
  rotate_left
  ·cases k2
  rename_i hc
  injection k2 with k2
  subst k2
  simp only [copyV,sliceRows_le h k1,Option.bind_some,h.get he (by simp),hc,and_self,if_true]
  exact Twin.put h _ _ he (by simp) _
 ·cases k
theorem clearV_le (h:Le T C H) {sz:Nat} {zero:List CV} {x:TV} {q:Res} (k:clearV ⟨tm,lc,C⟩ sz zero x=some q):Twin T C H q (clearV ⟨tm,lc,H⟩ sz zero x):=by
 unfold clearV at k
 split at k
 ·injection k with k
  subst k
  exact Twin.same h _ _
 ·split at k
  ·rename_i h0
   injection k with k
   subst k
   simp only [clearV,h0,if_true]
   exact Twin.same h _ _
  ·rename_i h0
   simp only at k
   split at k
   rotate_left
   ·cases k
   rename_i he
   split at k
   rotate_left
   ·cases k
   rename_i hc
   injection k with k
   subst k
   simp only [clearV,h0,if_false,h.get he (by simp),hc,and_self,if_true]
   exact Twin.put h _ _ he (by simp) _
 ·cases k
end
end
section
section
variable {T:Nat→Prop} {tm:List TV} {lc:List (List CV)} {C H:Hp} {call:CallF} {orc:Nat→Nat}
theorem appRows_le (h:Le T C H) {sz bytes:Nat} {x:CV} {xs:List (List CV)} {r:CV × Hp} (k:appRows C sz bytes x xs=some r):∃ r',appRows H sz bytes x xs=some r'∧r'.1=r.1∧Le2 T C H r.2 r'.2:=by
 unfold appRows at k
 split at k
 ·split at k
  ·injection k with k
   subst k
   exact ⟨_,rfl,rfl,Le2.refl h⟩
  ·split at k
   ·rename_i hb
    injection k with k
    subst k
    refine ⟨⟨.sl H.obs.length 0 0 _ none,H.push _⟩,?_,by rw [h.len],h.push _⟩
    simp only [appRows]
    rw [if_pos hb]
   ·cases k
 ·split at k
  ·injection k with k
   subst k
   exact ⟨_,rfl,rfl,Le2.refl h⟩
  ·split at k
   rotate_left
   ·rename_i he
    have he':=h.get he (by simp)
    split at k
    rotate_left
    ·cases k
    rename_i hc
    split at k
    rotate_left
    ·cases k
    rename_i hv
    split at k
    rotate_left
    ·cases k
    rename_i hl
    injection k with k
    subst k
    refine ⟨⟨_,H.put _ _⟩,?_,rfl,h.put he (by simp) _⟩
    simp only [appRows,he']
    rw [if_pos hc]
    simp only [hv]
    rw [if_pos hl]
   ·cases k
   rename_i he
   have he':=h.get he (by simp)
   split at k
   rotate_left
   ·cases k
   rename_i hc
   split at k
   ·split at k
    ·rename_i hq
     split at k
     rotate_left
     ·cases k
     rename_i hw
     injection k with k
     subst k
     refine ⟨⟨_,H.put _ _⟩,?_,rfl,h.put he (by simp) _⟩
     simp only [appRows,he']
     rw [if_pos hc,if_pos hq,if_pos hw]
    ·rename_i hq
     injection k with k
     subst k
     refine ⟨⟨.sl H.obs.length 0 0 _ none,H.push _⟩,?_,by rw [h.len],h.push _⟩
     simp only [appRows,he']
     rw [if_pos hc,if_neg hq]
   ·split at k
    rotate_left
    ·cases k
    rename_i hw
    split at k
    ·rename_i hg
     injection k with k
     subst k
     refine ⟨⟨_,H.put _ _⟩,?_,rfl,h.put he (by simp) _⟩
     simp only [appRows,he']
     rw [if_pos hc,if_pos hw,if_pos hg]
    ·rename_i hg
     split at k
     ·rename_i hi
      injection k with k
      subst k
      refine ⟨⟨_,H.put _ _⟩,?_,rfl,h.put he (by simp) _⟩
      simp only [appRows,he']
      rw [if_pos hc,if_pos hw,if_neg hg,if_pos hi]
     ·rename_i hi
      injection k with k
      subst k
      refine ⟨⟨_,H.put _ _⟩,?_,rfl,h.put he (by simp) _⟩
      simp only [appRows,he']
      rw [if_pos hc,if_pos hw,if_neg hg,if_neg hi]
 ·cases k
theorem convV_le (h:Le T C H) {c:NC} {x:TV} {q:Res} (k:convV ⟨tm,lc,C⟩ c x=some q):Twin T C H q (convV ⟨tm,lc,H⟩ c x):=by
 unfold convV at k
 split at k
 ·injection k with k;subst k;exact Twin.same h _ _
 ·injection k with k;subst k;exact Twin.same h _ _
 ·split at k
  ·cases k
  ·rename_i hx
   simp only [Option.bind_eq_some_iff,Option.map_eq_some_iff] at k
   obtain ⟨rs,k1,l,k2,rfl⟩:=k
   have:convV ⟨tm,lc,H⟩ .bytesToStr x=some ⟨.v (.c (.str ⟨l.toArray⟩)),lc,H⟩:=by
    simp only [convV,sliceRows_le h k1,Option.bind_some,k2,Option.map_some]
   rw [this]
   exact Twin.same h _ _
 ·split at k
  ·cases k
  ·rename_i hx
   simp only [Option.bind_eq_some_iff,Option.map_eq_some_iff] at k
   obtain ⟨rs,k1,l,k2,rfl⟩:=k
   have:convV ⟨tm,lc,H⟩ .runesToStr x=some ⟨.v (.c (.str l)),lc,H⟩:=by
    simp only [convV,sliceRows_le h k1,Option.bind_some,k2,Option.map_some]
   rw [this]
   exact Twin.same h _ _
 ·injection k with k;subst k
  exact ⟨_,rfl,by simp only [h.len],rfl,h.push _⟩
 ·injection k with k;subst k
  exact ⟨_,rfl,by simp only [h.len],rfl,h.push _⟩
 ·injection k with k;subst k;exact Twin.same h _ _
 ·cases k
theorem entryV_le (h:Le T C H) {x v:TV} (k:entryV ⟨tm,lc,C⟩ x=some v):entryV ⟨tm,lc,H⟩ x=some v:=by
 unfold entryV at k
 simp only at k
 split at k
 rotate_left
 ·cases k
 split at k
 rotate_left
 ·cases k
 rename_i he
 have he':=h.get he (by simp)
 split at k
 rotate_left
 ·cases k
 rename_i hs
 split at k
 rotate_left
 ·cases k
 rename_i hm
 have hm':=h.get hm (by simp)
 simp only [entryV,he',hs,hm']
 exact k
theorem nextM_le (h:Le T C H) {id m since last:Nat} {seen:List Nat} {ob:AO} (hid:C.obs[id]? = some ob) (hob:ob≠.dead) {q:Res} (k:nextM orc ⟨tm,lc,C⟩ id m since seen last=some q):Twin T C H q (nextM orc ⟨tm,lc,H⟩ id m since seen last):=by
 unfold nextM at k
 simp only at k
 split at k
 rotate_left
 ·cases k
 rename_i wr es clock he
 have he':=h.get he (by simp)
 split at k
 ·cases k
 rename_i hc
 split at k
 ·rename_i e hx
  injection k with k
  subst k
  have:nextM orc ⟨tm,lc,H⟩ id m since seen last=some ⟨.v (.tup [.c (.bool true),e.key,e.val]),lc,H.put id (.miter (some m) since (seen++[e.born]) clock)⟩:=by
   simp only [nextM,he',h.cnt]
   rw [if_neg hc,hx]
  rw [this]
  exact Twin.put h _ _ hid hob _
 ·rename_i hx
  injection k with k
  subst k
  have:nextM orc ⟨tm,lc,H⟩ id m since seen last=some ⟨.v (.tup [.c (.bool false)]),lc,H⟩:=by
   simp only [nextM,he',h.cnt]
   rw [if_neg hc,hx]
  rw [this]
  exact Twin.same h _ _
 ·cases k
theorem nextV_le (h:Le T C H) {str:Bool} {x:TV} {q:Res} (k:nextV orc ⟨tm,lc,C⟩ str x=some q):Twin T C H q (nextV orc ⟨tm,lc,H⟩ str x):=by
 unfold nextV at k
 split at k
 rotate_left
 ·cases k
 simp only at k
 split at k
 ·rename_i he
  have he':=h.get he (by simp)
  split at k
  ·rename_i hp
   injection k with k
   subst k
   simp only [nextV,he',hp,if_true]
   exact Twin.put h _ _ he (by simp) _
  ·rename_i hp
   injection k with k
   subst k
   simp only [nextV,he',hp,if_false]
   exact Twin.same h _ _
 ·rename_i he
  have he':=h.get he (by simp)
  injection k with k
  subst k
  simp only [nextV,he']
  exact Twin.same h _ _
 ·rename_i he
  have he':=h.get he (by simp)
  have:=nextM_le h he (by simp) k
  simp only [nextV,he']
  exact this
 ·cases k
end
end
section
section
variable {T:Nat→Prop} {tm:List TV} {lc:List (List CV)} {C H:Hp} {call:CallF} {orc:Nat→Nat}
theorem nop_le (h:Le T C H) {n:NO} (hs:n.still=true) {q:Res} (k:nop call orc ⟨tm,lc,C⟩ n=some q):Twin T C H q (nop call orc ⟨tm,lc,H⟩ n):=by
 cases n with
 | call f args=>cases hs
 | dyn f args=>cases hs
 | inv tb f args=>cases hs
 | next str x=>simp only [nop] at k ⊢;exact nextV_le h k
 | conv c x=>simp only [nop] at k ⊢;exact convV_le h k
 | entry x=>
  simp only [nop,Option.map_eq_some_iff] at k ⊢
  obtain ⟨v,k1,rfl⟩:=k
  rw [entryV_le h k1]
  exact Twin.same h _ _
 | copy sz d x=>simp only [nop] at k ⊢;exact copyV_le h k
 | clear sz z x=>simp only [nop] at k ⊢;exact clearV_le h k
 | load sz x=>
  simp only [nop,Option.map_eq_some_iff] at k ⊢
  obtain ⟨v,k1,rfl⟩:=k
  rw [loadAt_le h k1]
  exact Twin.same h _ _
 | store sz x y=>
  simp only [nop,Option.bind_eq_some_iff] at k ⊢
  obtain ⟨v,k1,k2⟩:=k
  rw [k1,Option.bind_some]
  exact storeAt_le h k2
 | slice sz x lo hi mx=>
  simp only [nop,Option.bind_eq_some_iff,Option.map_eq_some_iff] at k ⊢
  obtain ⟨l,k1,hh,k2,mm,k3,r,k4,rfl⟩:=k
  rw [k1,Option.bind_some,k2,Option.bind_some,k3,Option.bind_some,sliceV_le h k4]
  exact Twin.same h _ _
 | iaddr sz x i=>
  simp only [nop,Option.bind_eq_some_iff,Option.map_eq_some_iff] at k ⊢
  obtain ⟨v,k1,r,k2,rfl⟩:=k
  rw [k1,Option.bind_some,iaddrV_le h k2]
  exact Twin.same h _ _
 | len ty x=>
  simp only [nop,Option.map_eq_some_iff] at k ⊢
  obtain ⟨v,k1,rfl⟩:=k
  rw [lenV_le h k1]
  exact Twin.same h _ _
 | look kt zero ok mm kk=>
  simp only [nop,Option.bind_eq_some_iff] at k ⊢
  obtain ⟨mv,k1,kv,k2,es,k3,k4⟩:=k
  rw [k1,Option.bind_some,k2,Option.bind_some,mapOf_le h k3,Option.bind_some]
  split at k4
  ·rename_i hc
   rw [if_pos hc]
   simp only [Option.map_eq_some_iff] at k4
   obtain ⟨r,k5,rfl⟩:=k4
   rw [k5]
   exact Twin.same h _ _
  ·cases k4
 | app sz bytes x y=>
  simp only [nop,Option.bind_eq_some_iff,Option.map_eq_some_iff] at k ⊢
  obtain ⟨v,k1,xs,k2,r,k3,rfl⟩:=k
  obtain ⟨r',k4,k5,k6⟩:=appRows_le h k3
  rw [k1,Option.bind_some,sliceRows_le h k2,Option.bind_some,k4]
  exact ⟨_,rfl,by simp only [k5],rfl,k6⟩
 | box loc sz x=>
  simp only [nop,Option.bind_eq_some_iff] at k ⊢
  obtain ⟨v,k1,k2⟩:=k
  rw [k1,Option.bind_some]
  split at k2
  ·rename_i hc
   injection k2 with k2
   subst k2
   rw [if_pos hc]
   cases loc with
   | true=>exact Twin.same h _ _
   | false=>exact ⟨_,rfl,by simp only [boxTo,Bool.false_eq_true,if_false,h.len],rfl,h.push _⟩
  ·cases k2
 | bslice loc sz m z ps=>
  simp only [nop,Option.bind_eq_some_iff,Option.map_eq_some_iff] at k ⊢
  obtain ⟨v,k1,cs,k2,rfl⟩:=k
  rw [k1,Option.bind_some,k2,Option.map_some]
  cases loc with
  | true=>exact Twin.same h _ _
  | false=>exact ⟨_,rfl,by simp only [Bool.false_eq_true,if_false,h.len],rfl,h.push _⟩
 | mkmap=>
  simp only [nop,Option.some.injEq] at k ⊢
  subst k
  exact ⟨_,rfl,by simp only [h.len],rfl,h.push _⟩
 | mkslice sz bytes z x y=>
  simp only [nop,Option.bind_eq_some_iff] at k ⊢
  obtain ⟨l,k1,c,k2,k3⟩:=k
  rw [k1,Option.bind_some,k2,Option.bind_some]
  split at k3
  ·rename_i hc
   injection k3 with k3
   subst k3
   rw [if_pos hc]
   exact ⟨_,rfl,by simp only [h.len],rfl,h.push _⟩
  ·cases k3
 | mov x=>simp only [nop,Option.some.injEq] at k ⊢;subst k;exact Twin.same h _ _
 | pick c x y=>
  simp only [nop] at k ⊢
  split at k
  ·injection k with k;subst k;exact Twin.same h _ _
  ·injection k with k;subst k;exact Twin.same h _ _
  ·cases k
 | nilck x=>
  simp only [nop] at k ⊢
  split at k
  ·injection k with k;subst k;exact Twin.same h _ _
  ·injection k with k;subst k;exact Twin.same h _ _
  ·injection k with k;subst k;exact Twin.same h _ _
  ·cases k
 | faddr off x=>
  simp only [nop] at k ⊢
  split at k
  ·injection k with k;subst k;exact Twin.same h _ _
  ·injection k with k;subst k;exact Twin.same h _ _
  ·cases k
 | build z ps=>
  simp only [nop,Option.bind_eq_some_iff,Option.map_eq_some_iff] at k ⊢
  obtain ⟨l,k1,cs,k2,rfl⟩:=k
  rw [k1,Option.bind_some,k2]
  exact Twin.same h _ _
 | bin op ty x y=>
  simp only [nop,Option.bind_eq_some_iff,Option.map_eq_some_iff] at k ⊢
  obtain ⟨u,k1,v,k2,r,k3,rfl⟩:=k
  rw [k1,Option.bind_some,k2,Option.bind_some,k3]
  exact Twin.same h _ _
 | un op x=>
  simp only [nop,Option.bind_eq_some_iff,Option.map_eq_some_iff] at k ⊢
  obtain ⟨u,k1,r,k3,rfl⟩:=k
  rw [k1,Option.bind_some,k3]
  exact Twin.same h _ _
 | mkfn f caps=>
  simp only [nop,Option.map_eq_some_iff] at k ⊢
  obtain ⟨r,k3,rfl⟩:=k
  rw [k3]
  exact Twin.same h _ _
 | field off sz x=>
  simp only [nop,Option.map_eq_some_iff] at k ⊢
  obtain ⟨r,k3,rfl⟩:=k
  rw [k3]
  exact Twin.same h _ _
 | mkif t x=>
  simp only [nop,Option.map_eq_some_iff] at k ⊢
  obtain ⟨r,k3,rfl⟩:=k
  rw [k3]
  exact Twin.same h _ _
 | isnil b x=>
  simp only [nop,Option.map_eq_some_iff] at k ⊢
  obtain ⟨r,k3,rfl⟩:=k
  rw [k3]
  exact Twin.same h _ _
 | assert t z x=>
  simp only [nop,Option.map_eq_some_iff] at k ⊢
  obtain ⟨r,k3,rfl⟩:=k
  rw [k3]
  exact Twin.same h _ _
 | ext x i=>
  simp only [nop,Option.map_eq_some_iff] at k ⊢
  obtain ⟨r,k3,rfl⟩:=k
  rw [k3]
  exact Twin.same h _ _
 | cap x=>
  simp only [nop,Option.map_eq_some_iff] at k ⊢
  obtain ⟨r,k3,rfl⟩:=k
  rw [k3]
  exact Twin.same h _ _
 | iaddrA len sz x i=>
  simp only [nop,Option.bind_eq_some_iff,Option.map_eq_some_iff] at k ⊢
  obtain ⟨u,k1,r,k3,rfl⟩:=k
  rw [k1,Option.bind_some,k3]
  exact Twin.same h _ _
 | index len sz ag x i=>
  simp only [nop,Option.bind_eq_some_iff] at k ⊢
  obtain ⟨u,k1,k2⟩:=k
  rw [k1,Option.bind_some]
  split at k2
  ·rename_i hc
   rw [if_pos hc]
   simp only [Option.map_eq_some_iff] at k2
   obtain ⟨r,k3,rfl⟩:=k2
   rw [k3]
   exact Twin.same h _ _
  ·cases k2
 | indexS x i=>
  simp only [nop,Option.bind_eq_some_iff] at k ⊢
  obtain ⟨u,k1,k2⟩:=k
  rw [k1,Option.bind_some]
  split at k2
  ·split at k2
   ·rename_i hc
    rw [if_pos hc]
    simp only [Option.map_eq_some_iff] at k2
    obtain ⟨r,k3,rfl⟩:=k2
    rw [k3]
    exact Twin.same h _ _
   ·cases k2
  ·cases k2
 | min xs=>
  simp only [nop,Option.bind_eq_some_iff] at k ⊢
  obtain ⟨l,k1,k2⟩:=k
  rw [k1,Option.bind_some]
  split at k2
  ·cases k2
  ·simp only [Option.map_eq_some_iff] at k2
   obtain ⟨r,k3,rfl⟩:=k2
   simp only [k3,Option.map_some]
   exact Twin.same h _ _
 | max xs=>
  simp only [nop,Option.bind_eq_some_iff] at k ⊢
  obtain ⟨l,k1,k2⟩:=k
  rw [k1,Option.bind_some]
  split at k2
  ·cases k2
  ·simp only [Option.map_eq_some_iff] at k2
   obtain ⟨r,k3,rfl⟩:=k2
   simp only [k3,Option.map_some]
   exact Twin.same h _ _
 | mupd kt x kk y=>
  simp only [nop,Option.bind_eq_some_iff] at k ⊢
  obtain ⟨mv,k1,kv,k2,xv,k3,k4⟩:=k
  rw [k1,Option.bind_some,k2,Option.bind_some,k3,Option.bind_some]
  split at k4
  rotate_left
  ·cases k4
  try simp only at k4
  split at k4
  rotate_left
  ·cases k4
  rename_i he
  simp only [h.get he (by simp)]
  split at k4
  ·rename_i hc
   rw [if_pos hc]
   simp only [Option.map_eq_some_iff] at k4
   obtain ⟨r,k5,rfl⟩:=k4
   rw [k5]
   cases r with
   | none=>exact Twin.put h _ _ he (by simp) _
   | some r=>exact Twin.put h _ _ he (by simp) _
  ·cases k4
 | ment kt z x kk=>
  simp only [nop,Option.bind_eq_some_iff] at k ⊢
  obtain ⟨mv,k1,kv,k2,k4⟩:=k
  rw [k1,Option.bind_some,k2,Option.bind_some]
  split at k4
  rotate_left
  ·cases k4
  try simp only at k4
  split at k4
  rotate_left
  ·cases k4
  rename_i he
  simp only [h.get he (by simp)]
  split at k4
  ·rename_i hc
   rw [if_pos hc]
   simp only [Option.map_eq_some_iff] at k4
   obtain ⟨r,k5,rfl⟩:=k4
   rw [k5]
   cases r with
   | none=>exact Twin.put h _ _ he (by simp) _
   | some r=>exact Twin.put h _ _ he (by simp) _
  ·cases k4
 | mest x st y=>
  simp only [nop,Option.bind_eq_some_iff] at k ⊢
  obtain ⟨mv,k1,kv,k2,xv,k3,k4⟩:=k
  rw [k1,Option.bind_some,k2,Option.bind_some,k3,Option.bind_some]
  split at k4
  rotate_left
  ·cases k4
  try simp only at k4
  split at k4
  rotate_left
  ·cases k4
  rename_i he
  simp only [h.get he (by simp)]
  split at k4
  ·rename_i hc
   try rw [hc]
   injection k4 with k4
   subst k4
   exact Twin.put h _ _ he (by simp) _
  ·cases k4
 | mdel kt x kk=>
  simp only [nop,Option.bind_eq_some_iff] at k ⊢
  obtain ⟨mv,k1,kv,k2,k4⟩:=k
  rw [k1,Option.bind_some,k2,Option.bind_some]
  split at k4
  ·split at k4
   ·rename_i hc
    injection k4 with k4
    subst k4
    try simp only
    rw [if_pos hc]
    exact Twin.same h _ _
   ·cases k4
  ·(try simp only at k4)
   split at k4
   rotate_left
   ·cases k4
   rename_i he
   simp only [h.get he (by simp)]
   split at k4
   ·rename_i hc
    rw [if_pos hc]
    simp only [Option.map_eq_some_iff] at k4
    obtain ⟨r,k5,rfl⟩:=k4
    rw [k5]
    cases r with
    | none=>exact Twin.put h _ _ he (by simp) _
    | some r=>exact Twin.put h _ _ he (by simp) _
   ·cases k4
  ·cases k4
 | range ty x=>
  simp only [nop] at k ⊢
  split at k
  ·split at k
   ·cases k
   ·rename_i hc
    injection k with k
    subst k
    rw [if_neg hc]
    exact ⟨_,rfl,by simp only [h.len],rfl,h.push _⟩
  ·split at k
   ·cases k
   ·rename_i hc
    injection k with k
    subst k
    rw [if_neg hc]
    exact ⟨_,rfl,by simp only [h.len],rfl,h.push _⟩
  ·split at k
   ·rename_i he
    split at k
    ·cases k
    ·rename_i hc
     injection k with k
     subst k
     rw [h.get he (by simp)]
     simp only
     rw [if_neg hc]
     exact ⟨_,rfl,by simp only [h.len],rfl,h.push _⟩
   ·cases k
  ·cases k
end
end
section
def CallW.Framed (call:CallW):Prop:=∀ f args (T:Nat→Prop) C H post,Le T C H→call f args C post→call f args H fun r H'=>∃ C',post r C'∧Le2 T C H C' H'
section
variable {T:Nat→Prop} {tm:List TV} {lc:List (List CV)} {C H:Hp} {call:CallW}
theorem nopW_le (hm:call.Mono) (hf:call.Framed) (h:Le T C H) {n:NO} {post:Res→Prop} (k:nopW call ⟨tm,lc,C⟩ n post) :
 nopW call ⟨tm,lc,H⟩ n fun q'=>∃ q,post q∧q'.v=q.v∧q'.lc=q.lc∧Le2 T C H q.hp q'.hp:=by
 have plain:∀ o:Nat→Nat,n.still=true→(∃ q,nop noCall o ⟨tm,lc,C⟩ n=some q∧post q)→∃ q',nop noCall o ⟨tm,lc,H⟩ n=some q'∧∃ q,post q∧q'.v=q.v∧q'.lc=q.lc∧Le2 T C H q.hp q'.hp:=by
  rintro o hs ⟨q,h1,h2⟩
  obtain ⟨q',k1,k2,k3,k4⟩:=nop_le h hs h1
  exact ⟨q',k1,q,h2,k2,k3,k4⟩
 cases n with
 | call f args=>
  simp only [nopW] at k ⊢
  obtain ⟨l,h1,h2⟩:=k
  refine ⟨l,h1,hm _ _ _ _ _ ?_ (hf _ _ _ _ _ _ h h2)⟩
  rintro r H' ⟨C',k1,k2⟩
  exact ⟨_,k1,rfl,rfl,k2⟩
 | dyn f args=>
  simp only [nopW] at k ⊢
  obtain ⟨l,g,caps,h1,h2,h3⟩:=k
  refine ⟨l,g,caps,h1,h2,hm _ _ _ _ _ ?_ (hf _ _ _ _ _ _ h h3)⟩
  rintro r H' ⟨C',k1,k2⟩
  exact ⟨_,k1,rfl,rfl,k2⟩
 | inv tb f args=>
  simp only [nopW] at k ⊢
  obtain ⟨l,g,caps,h1,h2,h3⟩:=k
  refine ⟨l,g,caps,h1,h2,hm _ _ _ _ _ ?_ (hf _ _ _ _ _ _ h h3)⟩
  rintro r H' ⟨C',k1,k2⟩
  exact ⟨_,k1,rfl,rfl,k2⟩
 | next str x=>exact fun o=>plain o rfl (k o)
 | _=>exact plain _ rfl k
def After (T:Nat→Prop) (C H:Hp) (post:St→Prop) (t':St):Prop:=∃ t,post t∧t'.tm=t.tm∧t'.lc=t.lc∧Le2 T C H t.hp t'.hp
theorem After.mono {post post':St→Prop} {t:St} (h:After T C H post t) (k:∀ s,post s→post' s):After T C H post' t:=by
 obtain ⟨s,h1,h2⟩:=h
 exact ⟨s,k s h1,h2⟩
theorem stepW_le (hm:call.Mono) (hf:call.Framed) (h:Le T C H) {r:NR} {post:St→Prop} (k:stepW call r ⟨tm,lc,C⟩ post):stepW call r ⟨tm,lc,H⟩ (After T C H post):=by
 unfold stepW at k ⊢
 simp only at k ⊢
 split <;> rename_i hw <;> rw [hw] at k <;> simp only at k
 ·refine nopW_mono hm ?_ (nopW_le hm hf h k)
  rintro q' ⟨q,h1,h2,h3,h4⟩
  exact ⟨_,h1,by simp only [after,h2],by simp only [after,h3],h4⟩
 ·exact ⟨_,k,rfl,rfl,Le2.refl h⟩
theorem runW_le (hm:call.Mono) (hf:call.Framed):∀ {l:List NR} {tm:List TV} {lc:List (List CV)} {C H:Hp},Le T C H→∀ {post:St→Prop},runW call l ⟨tm,lc,C⟩ post→runW call l ⟨tm,lc,H⟩ (After T C H post)
 | [],tm,lc,C,H,h,post,k=>⟨_,k,rfl,rfl,Le2.refl h⟩
 | r::l,tm,lc,C,H,h,post,k=>by
  refine stepW_mono hm ?_ (stepW_le hm hf h k)
  rintro ⟨tm',lc',H'⟩ ⟨⟨tm1,lc1,C'⟩,h1,h2,h3,h4⟩
  simp only at h2 h3 h4
  subst h2 h3
  refine runW_mono hm ?_ (runW_le hm hf h4.le h1)
  rintro s ⟨t,k1,k2,k3,k4⟩
  exact ⟨t,k1,k2,k3,h4.trans k4⟩
end
end
section
section
variable {T:Nat→Prop} {tm:List TV} {lc:List (List CV)} {C H:Hp} {call:CallW}
theorem allocAt_le (h:Le T C H) {id:Nat} (hid:¬T id) {n:NO} {q:Res} (k:allocAt ⟨tm,lc,C⟩ id n=some q):Twin T C H q (allocAt ⟨tm,lc,H⟩ id n):=by
 unfold allocAt at k
 split at k
 ·simp only [Option.bind_eq_some_iff] at k
  obtain ⟨v,k1,k2⟩:=k
  split at k2
  ·rename_i hc
   injection k2 with k2
   subst k2
   simp only [allocAt,k1,Option.bind_some]
   rw [if_pos hc]
   exact ⟨_,rfl,rfl,rfl,h.putNew hid _⟩
  ·cases k2
 ·simp only [Option.bind_eq_some_iff,Option.map_eq_some_iff] at k
  obtain ⟨v,k1,cs,k2,rfl⟩:=k
  simp only [allocAt,k1,Option.bind_some,k2,Option.map_some]
  exact ⟨_,rfl,rfl,rfl,h.putNew hid _⟩
 ·injection k with k
  subst k
  exact ⟨_,rfl,rfl,rfl,h.putNew hid _⟩
 ·simp only [Option.bind_eq_some_iff] at k
  obtain ⟨l,k1,c,k2,k3⟩:=k
  split at k3
  ·rename_i hc
   injection k3 with k3
   subst k3
   simp only [allocAt,k1,Option.bind_some,k2]
   rw [if_pos hc]
   exact ⟨_,rfl,rfl,rfl,h.putNew hid _⟩
  ·cases k3
 ·cases k
theorem noCall_still {s:St} {n:NO} {orc:Nat→Nat} {q:Res} (k:nop noCall orc s n=some q):n.still=true:=by
 cases n with
 | call f args=>
  simp only [nop,Option.bind_eq_some_iff] at k
  obtain ⟨l,_,k⟩:=k
  simp [viaCall,noCall] at k
 | dyn f args=>
  simp only [nop,Option.bind_eq_some_iff] at k
  obtain ⟨l,_,k⟩:=k
  split at k
  ·simp [viaCall,noCall] at k
  ·cases k
 | inv tb f args=>
  simp only [nop,Option.bind_eq_some_iff] at k
  obtain ⟨l,_,k⟩:=k
  split at k
  ·simp [viaCall,noCall] at k
  ·cases k
 | _=>rfl
theorem val_le (h:Le T C H) {r:NR} {v:TV} (k:val r ⟨tm,lc,C⟩=some v):val r ⟨tm,lc,H⟩=some v:=by
 unfold val at k ⊢
 simp only at k ⊢
 split <;> rename_i hw <;> rw [hw] at k <;> simp only at k
 ·simp only [Option.map_eq_some_iff] at k ⊢
  obtain ⟨q,k1,k2⟩:=k
  obtain ⟨q',e1,e2,_,_⟩:=nop_le h (noCall_still k1) k1
  exact ⟨q',e1,e2.trans k2⟩
 ·exact k
 ·cases k
theorem again_le (h:Le T C H) {r:NR} (k:again r ⟨tm,lc,C⟩):again r ⟨tm,lc,H⟩:=by
 obtain ⟨d,h1,h2⟩:=k
 exact ⟨d,h1,val_le h h2⟩
theorem againL_le (h:Le T C H):∀ {l:List (Nat × NR)},againL l ⟨tm,lc,C⟩→againL l ⟨tm,lc,H⟩
 | [],_=>trivial
 | _::_,k=>⟨again_le h k.1,againL_le h k.2⟩
theorem stepD_le (hm:call.Mono) (hf:call.Framed) (h:Le T C H) {base:Nat} {al:Option Nat} (hb:∀ j,al=some j→¬T (base+j)) {r:NR} {post:St→Prop} (k:stepD call base al r ⟨tm,lc,C⟩ post) :
 stepD call base al r ⟨tm,lc,H⟩ (After T C H post):=by
 cases al with
 | none=>exact stepW_le hm hf h k
 | some i=>
  simp only [stepD] at k ⊢
  split <;> rename_i hw <;> rw [hw] at k <;> simp only at k
  ·obtain ⟨h1,q,h2,h3⟩:=k
   obtain ⟨q',e1,e2,e3,e4⟩:=allocAt_le h (id:=base+i) (hb i rfl) h2
   refine ⟨?_,q',e1,_,h3,by simp only [after,e2],by simp only [after,e3],e4⟩
   rcases h.obs (base+i) with ⟨hl,_⟩|he
   ·exact absurd hl (hb i rfl)
   ·rw [he];exact h1
  ·exact ⟨_,k,rfl,rfl,Le2.refl h⟩
theorem drawW_le (hm:call.Mono) (hf:call.Framed) {base:Nat} (hb:∀ id,T id→id<base):∀ {l:List DI} {tm:List TV} {lc:List (List CV)} {C H:Hp},Le T C H→∀ {post:St→Prop},drawW call base l ⟨tm,lc,C⟩ post→drawW call base l ⟨tm,lc,H⟩ (After T C H post)
 | [],tm,lc,C,H,h,post,k=>⟨_,k,rfl,rfl,Le2.refl h⟩
 | d::l,tm,lc,C,H,h,post,k=>by
  refine stepD_mono hm ?_ (stepD_le hm hf h (fun j _ ht=>by have:=hb _ ht;omega) k)
  rintro ⟨tm',lc',H'⟩ ⟨⟨tm1,lc1,C'⟩,h1,h2,h3,h4⟩
  simp only at h1 h2 h3 h4
  subst h2 h3
  refine ⟨againL_le h4.le h1.1,drawW_mono hm ?_ (drawW_le hm hf hb h4.le h1.2)⟩
  rintro s ⟨t,k1,k2,k3,k4⟩
  exact ⟨t,k1,k2,k3,h4.trans k4⟩
end
end
section
def AfterE (T:Nat→Prop) (C H:Hp) (Q:Ex→St→Prop) (e:Ex) (t':St):Prop:=After T C H (Q e) t'
section
variable {T:Nat→Prop} {C H:Hp} {call:CallW}
theorem Le.reserve (h:Le T C H) (n:Nat):Le2 T C H { C with obs:=C.obs++List.replicate n .dead } { H with obs:=H.obs++List.replicate n .dead }:=by
 refine ⟨⟨by simp [h.len],h.cnt,fun id hid=>by have:=h.low id hid;simp;omega,fun id=>?_⟩,fun id hlt hd=>?_,by simp⟩
 ·simp only [List.getElem?_append,h.len]
  split
  ·exact h.obs id
  ·exact .inr rfl
 ·have hlt':id<C.obs.length:=h.low id hlt
  simp only [List.getElem?_append,h.len,hlt',if_true]
  exact ⟨hd,trivial⟩
theorem awp_le (hm:call.Mono) (hf:call.Framed):∀ (c:Code) (tm:List TV) (lc:List (List CV)) (C H:Hp),Le T C H→∀ Q:Ex→St→Prop,awp call c ⟨tm,lc,C⟩ Q→awp call c ⟨tm,lc,H⟩ (AfterE T C H Q):=by
 have shift:∀ {C H:Hp} {Q:Ex→St→Prop} {t t':St},Le2 T C H t.hp t'.hp→∀ e s,AfterE T t.hp t'.hp Q e s→AfterE T C H Q e s:=by
  rintro C H Q t t' h e s ⟨u,k1,k2,k3,k4⟩
  exact ⟨u,k1,k2,k3,h.trans k4⟩
 intro c
 induction c with
 | skip=>exact fun tm lc C H h Q k=>⟨_,k,rfl,rfl,Le2.refl h⟩
 | kill live nlc=>exact fun tm lc C H h Q k=>⟨k.1,k.2.1,_,k.2.2,rfl,rfl,Le2.refl h⟩
 | region ops=>exact fun tm lc C H h Q k=>runW_le hm hf h k
 | draw nal ord=>
  intro tm lc C H h Q k
  simp only [awp] at k ⊢
  have hr:=h.reserve nal
  rw [h.len]
  refine drawW_mono hm ?_ (drawW_le hm hf h.low hr.le k)
  rintro s ⟨t,k1,k2,k3,k4⟩
  exact ⟨t,k1,k2,k3,hr.trans k4⟩
 | seq a b iha ihb=>
  intro tm lc C H h Q k
  refine awp_mono hm a _ _ _ ?_ (iha tm lc C H h _ k)
  rintro e ⟨tm',lc',H'⟩ ⟨⟨tm1,lc1,C'⟩,h1,h2,h3,h4⟩
  simp only at h2 h3 h4
  subst h2 h3
  cases e with
  | normal=>exact awp_mono hm b _ _ _ (shift (t:=⟨[],[],C'⟩) (t':=⟨[],[],H'⟩) h4) (ihb _ _ C' H' h4.le Q h1)
  | exit i=>exact ⟨_,h1,rfl,rfl,h4⟩
  | ret=>exact ⟨_,h1,rfl,rfl,h4⟩
 | cond c a b iha ihb=>
  intro tm lc C H h Q k
  simp only [awp] at k ⊢
  split <;> rename_i hw <;> simp only [hw] at k
  ·exact iha tm lc C H h Q k
  ·exact ihb tm lc C H h Q k
 | block id b ih=>
  intro tm lc C H h Q k
  refine awp_mono hm b _ _ _ ?_ (ih tm lc C H h _ k)
  rintro e ⟨tm',lc',H'⟩ ⟨⟨tm1,lc1,C'⟩,h1,h2,h3,h4⟩
  simp only at h2 h3 h4
  subst h2 h3
  cases e with
  | normal=>exact ⟨_,h1,rfl,rfl,h4⟩
  | exit i=>
   simp only at h1 ⊢
   split
   ·rename_i he;rw [if_pos he] at h1;exact ⟨_,h1,rfl,rfl,h4⟩
   ·rename_i he;rw [if_neg he] at h1;exact ⟨_,h1,rfl,rfl,h4⟩
  | ret=>exact ⟨_,h1,rfl,rfl,h4⟩
 | loop b ih=>
  intro tm lc C H h Q k
  obtain ⟨n,k⟩:=k
  refine ⟨n,?_⟩
  induction n generalizing tm lc C H with
  | zero=>exact k.elim
  | succ n ihn=>
   refine awp_mono hm b _ _ _ ?_ (ih tm lc C H h _ k)
   rintro e ⟨tm',lc',H'⟩ ⟨⟨tm1,lc1,C'⟩,h1,h2,h3,h4⟩
   simp only at h2 h3 h4
   subst h2 h3
   cases e with
   | normal=>exact loopW_mono (fun s Q Q' hq=>awp_mono hm b s Q Q' hq) n _ _ _ (shift (t:=⟨[],[],C'⟩) (t':=⟨[],[],H'⟩) h4) (ihn _ _ C' H' h4.le h1)
   | exit i=>exact ⟨_,h1,rfl,rfl,h4⟩
   | ret=>exact ⟨_,h1,rfl,rfl,h4⟩
 | exit id=>exact fun tm lc C H h Q k=>⟨_,k,rfl,rfl,Le2.refl h⟩
 | ret=>exact fun tm lc C H h Q k=>⟨_,k,rfl,rfl,Le2.refl h⟩
 | prim F n=>exact fun tm lc C H h Q ⟨l,r,h0,h1,h2,k⟩=>⟨l,r,h0,h1,h2,_,k,rfl,rfl,Le2.refl h⟩
 | fin b ops ih=>
  intro tm lc C H h Q k
  refine awp_mono hm b _ _ _ ?_ (ih tm lc C H h _ k)
  rintro e ⟨tm',lc',H'⟩ ⟨⟨tm1,lc1,C'⟩,h1,h2,h3,h4⟩
  simp only at h2 h3 h4
  subst h2 h3
  refine ⟨h1.1,runW_mono hm ?_ (runW_le hm hf h4.le h1.2)⟩
  rintro s ⟨t,k1,k2,k3,k4⟩
  exact ⟨t,k1,k2,k3,h4.trans k4⟩
end
theorem callW_framed (N:Nat→Option NF):∀ k,(callW N k).Framed
 | 0,_,_,_,_,_,_,_,k=>k.elim
 | n+1,f,args,T,C,H,post,h,⟨nf,h1,h2,h3⟩=>by
  refine ⟨nf,h1,h2,awp_mono (callW_mono N n) _ _ _ _ ?_ (awp_le (callW_mono N n) (callW_framed N n) nf.body _ _ C H h _ h3)⟩
  rintro e ⟨tm',lc',H'⟩ ⟨⟨tm1,lc1,C'⟩,⟨k1,r,k2,k3⟩,e2,e3,e4⟩
  simp only at e2 e3 e4 k2 k3
  subst e2 e3
  exact ⟨k1,r,k2,C',k3,e4⟩
end
end Camp
