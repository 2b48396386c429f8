/- What an operation looks at: its temporaries. An operation's answer depends on the temporaries that it reads. Which operations only read, and which are blind to the heap. Operations that only look. Steps: what they depend on; that a claim has a witness. Two steps in the other order. Regions of drawn order: one order speaks for all. Regions of drawn order: the check, and what it gives. Regions of drawn order: the machine's claim is the model's. -/
import Derived.Test.YtjcbeikfobfjmaaGreatEngD
import Derived.Orders
set_option linter.unnecessarySimpa false
set_option linter.unusedVariables false
set_option linter.unusedSimpArgs false
set_option linter.unusedSectionVars false
namespace Camp
open Go
section
def NX.rd:NX→List Nat
 | .t i=>[i]
 | .c _=>[]
def rdO:Option NX→List Nat
 | none=>[]
 | some x=>x.rd
def rdL (xs:List NX):List Nat:=xs.flatMap NX.rd
def rdP (ps:List (Nat × Nat × NX)):List Nat:=ps.flatMap fun p=>p.2.2.rd
def NO.rd:NO→List Nat
 | .mov x | .box _ _ x | .load _ x | .nilck x | .un _ x | .conv _ x | .faddr _ x | .field _ _ x | .range _ x | .next _ x | .ext x _ | .entry x | .clear _ _ x | .len _ x | .cap x | .mkif _ x | .assert _ _ x | .isnil _ x=>x.rd
 | .pick c a b=>c.rd++a.rd++b.rd
 | .build _ ps | .bslice _ _ _ _ ps=>rdP ps
 | .store _ a x | .bin _ _ a x | .mkslice _ _ _ a x | .iaddr _ a x | .iaddrA _ _ a x | .index _ _ _ a x | .indexS a x | .look _ _ _ a x | .ment _ _ a x | .mdel _ a x | .app _ _ a x | .copy _ a x=>a.rd++x.rd
 | .mupd _ a b c | .mest a b c=>a.rd++b.rd++c.rd
 | .slice _ x lo hi mx=>x.rd++rdO lo++rdO hi++rdO mx
 | .mkfn _ l | .call _ l | .min l | .max l=>rdL l
 | .dyn f l=>f.rd++rdL l
 | .inv _ f l=>f.rd++rdL l
 | .mkmap=>[]
def Same (l:List Nat) (tm tm':List TV):Prop:=∀ t∈l,gt tm' t=gt tm t
section
variable {tm tm':List TV}
theorem Same.left {a b:List Nat} (h:Same (a++b) tm tm'):Same a tm tm':=fun t ht=>h t (List.mem_append_left _ ht)
theorem Same.right {a b:List Nat} (h:Same (a++b) tm tm'):Same b tm tm':=fun t ht=>h t (List.mem_append_right _ ht)
theorem ev_same {x:NX} (h:Same x.rd tm tm'):x.ev tm'=x.ev tm:=by
 cases x with
 | t i=>exact h i (by simp [NX.rd])
 | c v=>rfl
theorem optI_same {x:Option NX} (h:Same (rdO x) tm tm'):optI tm' x=optI tm x:=by
 cases x with
 | none=>rfl
 | some x=>simp only [optI,ev_same h]
theorem evL_same:∀ {l:List NX},Same (rdL l) tm tm'→evL tm' l=evL tm l
 | [],_=>rfl
 | x::l,h=>by
  have h':Same (x.rd++rdL l) tm tm':=by simpa [rdL] using h
  simp only [evL,ev_same h'.left,evL_same h'.right]
theorem evC_same:∀ {l:List NX},Same (rdL l) tm tm'→evC tm' l=evC tm l
 | [],_=>rfl
 | x::l,h=>by
  have h':Same (x.rd++rdL l) tm tm':=by simpa [rdL] using h
  simp only [evC,ev_same h'.left,evC_same h'.right]
theorem evP_same:∀ {l:List (Nat × Nat × NX)},Same (rdP l) tm tm'→evP tm' l=evP tm l
 | [],_=>rfl
 | (o,s,x)::l,h=>by
  have h':Same (x.rd++rdP l) tm tm':=by simpa [rdP] using h
  simp only [evP,ev_same h'.left,evP_same h'.right]
end
end
section
section
variable {tm tm':List TV} {lc:List (List CV)} {h:Hp}
theorem nop_same {call:CallF} {o:Nat→Nat} {n:NO} (hs:Same n.rd tm tm'):nop call o ⟨tm',lc,h⟩ n=nop call o ⟨tm,lc,h⟩ n:=by
 cases n with
 | mov x=>simp only [nop,ev_same (x:=x) hs]
 | box l sz x=>simp only [nop,ev_same (x:=x) hs]
 | load sz x=>simp only [nop,ev_same (x:=x) hs];rfl
 | nilck x=>simp only [nop,ev_same (x:=x) hs]
 | un op x=>simp only [nop,ev_same (x:=x) hs]
 | conv c x=>simp only [nop,ev_same (x:=x) hs];cases c <;> rfl
 | faddr f x=>simp only [nop,ev_same (x:=x) hs]
 | field f sz x=>simp only [nop,ev_same (x:=x) hs]
 | mkif t x=>simp only [nop,ev_same (x:=x) hs]
 | isnil b x=>simp only [nop,ev_same (x:=x) hs]
 | assert t z x=>simp only [nop,ev_same (x:=x) hs]
 | range ty x=>simp only [nop,ev_same (x:=x) hs]
 | next str x=>simp only [nop,ev_same (x:=x) hs];rfl
 | ext x i=>simp only [nop,ev_same (x:=x) hs]
 | entry x=>simp only [nop,ev_same (x:=x) hs];rfl
 | clear sz z x=>simp only [nop,ev_same (x:=x) hs];rfl
 | len ty x=>simp only [nop,ev_same (x:=x) hs];rfl
 | cap x=>simp only [nop,ev_same (x:=x) hs]
 | pick c x y=>simp only [nop,ev_same (x:=c) (Same.left (Same.left hs)),ev_same (x:=x) (Same.right (Same.left hs)),ev_same (x:=y) (Same.right hs)]
 | build z ps=>simp only [nop,evP_same (l:=ps) hs]
 | bslice l sz m z ps=>simp only [nop,evP_same (l:=ps) hs]
 | store sz x y=>simp only [nop,ev_same (x:=x) (Same.left hs),ev_same (x:=y) (Same.right hs)];rfl
 | bin op ty x y=>simp only [nop,ev_same (x:=x) (Same.left hs),ev_same (x:=y) (Same.right hs)]
 | mkslice sz b z x y=>simp only [nop,ev_same (x:=x) (Same.left hs),ev_same (x:=y) (Same.right hs)]
 | iaddr sz x y=>simp only [nop,ev_same (x:=x) (Same.left hs),ev_same (x:=y) (Same.right hs)];rfl
 | iaddrA l sz x y=>simp only [nop,ev_same (x:=x) (Same.left hs),ev_same (x:=y) (Same.right hs)]
 | index l sz ag x y=>simp only [nop,ev_same (x:=x) (Same.left hs),ev_same (x:=y) (Same.right hs)]
 | indexS x y=>simp only [nop,ev_same (x:=x) (Same.left hs),ev_same (x:=y) (Same.right hs)]
 | look kt z ok x y=>simp only [nop,ev_same (x:=x) (Same.left hs),ev_same (x:=y) (Same.right hs)];rfl
 | ment kt z x y=>simp only [nop,ev_same (x:=x) (Same.left hs),ev_same (x:=y) (Same.right hs)]
 | mdel kt x y=>simp only [nop,ev_same (x:=x) (Same.left hs),ev_same (x:=y) (Same.right hs)]
 | app sz b x y=>simp only [nop,ev_same (x:=x) (Same.left hs),ev_same (x:=y) (Same.right hs)]
 | copy sz x y=>simp only [nop,ev_same (x:=x) (Same.left hs),ev_same (x:=y) (Same.right hs)];rfl
 | mupd kt x y z=>simp only [nop,ev_same (x:=x) (Same.left (Same.left hs)),ev_same (x:=y) (Same.right (Same.left hs)),ev_same (x:=z) (Same.right hs)]
 | mest x y z=>simp only [nop,ev_same (x:=x) (Same.left (Same.left hs)),ev_same (x:=y) (Same.right (Same.left hs)),ev_same (x:=z) (Same.right hs)]
 | slice sz x lo hi mx=>simp only [nop,ev_same (x:=x) (Same.left (Same.left (Same.left hs))),optI_same (x:=lo) (Same.right (Same.left (Same.left hs))),optI_same (x:=hi) (Same.right (Same.left hs)),optI_same (x:=mx) (Same.right hs)];rfl
 | mkfn f l=>simp only [nop,evC_same (l:=l) hs]
 | call f l=>simp only [nop,evL_same (l:=l) hs];rfl
 | min l=>simp only [nop,evC_same (l:=l) hs]
 | max l=>simp only [nop,evC_same (l:=l) hs]
 | dyn f l=>simp only [nop,ev_same (x:=f) (Same.left hs),evL_same (l:=l) (Same.right hs)];rfl
 | inv tb f l=>simp only [nop,ev_same (x:=f) (Same.left hs),evL_same (l:=l) (Same.right hs)];rfl
 | mkmap=>rfl
end
end
section
def NO.blind:NO→Bool
 | .mov _ | .pick .. | .build .. | .nilck _ | .bin .. | .un .. | .mkfn .. | .faddr .. | .field .. | .iaddrA .. | .index .. | .indexS .. | .ext .. | .cap _ | .min _ | .max _ | .mkif .. | .assert .. | .isnil ..=>true
 | .conv (.toInt _) _ | .conv .same _ | .conv .intToStr _=>true
 | _=>false
def NO.looks:NO→Bool
 | .load .. | .slice .. | .iaddr .. | .look .. | .len ..=>true
 | .conv .bytesToStr _ | .conv .runesToStr _=>true
 | n=>n.blind
section
variable {tm:List TV} {lc lc':List (List CV)} {h h':Hp} {call:CallF} {o:Nat→Nat}
theorem blind_ok {n:NO} (hb:n.blind=true) {q:Res} (k:nop call o ⟨tm,lc,h⟩ n=some q):q.lc=lc∧q.hp=h∧nop call o ⟨tm,lc',h'⟩ n=some ⟨q.v,lc',h'⟩:=by
 cases n <;> first|(cases hb;done)|skip
 case mov x=>simp only [nop,Option.some.injEq] at k ⊢;subst k;exact ⟨rfl,rfl,rfl⟩
 case pick c x y=>
  simp only [nop] at k ⊢
  split at k <;> first|cases k|skip
  all_goals exact ⟨rfl,rfl,rfl⟩
 case nilck x=>
  simp only [nop] at k ⊢
  split at k <;> first|cases k|skip
  all_goals exact ⟨rfl,rfl,rfl⟩
 case faddr f x=>
  simp only [nop] at k ⊢
  split at k <;> first|cases k|skip
  all_goals exact ⟨rfl,rfl,rfl⟩
 case build z ps=>
  simp only [nop,Option.bind_eq_some_iff,Option.map_eq_some_iff] at k
  obtain ⟨l,k1,cs,k2,rfl⟩:=k
  exact ⟨rfl,rfl,by simp only [nop,k1,Option.bind_some,k2,Option.map_some]⟩
 case bin op ty x y=>
  simp only [nop,Option.bind_eq_some_iff,Option.map_eq_some_iff] at k
  obtain ⟨u,k1,v,k2,r,k3,rfl⟩:=k
  exact ⟨rfl,rfl,by simp only [nop,k1,Option.bind_some,k2,k3,Option.map_some]⟩
 case un op x=>
  simp only [nop,Option.bind_eq_some_iff,Option.map_eq_some_iff] at k
  obtain ⟨u,k1,r,k3,rfl⟩:=k
  exact ⟨rfl,rfl,by simp only [nop,k1,Option.bind_some,k3,Option.map_some]⟩
 case mkfn f l=>
  simp only [nop,Option.map_eq_some_iff] at k
  obtain ⟨r,k3,rfl⟩:=k
  exact ⟨rfl,rfl,by simp only [nop,k3,Option.map_some]⟩
 case field f sz x=>
  simp only [nop,Option.map_eq_some_iff] at k
  obtain ⟨r,k3,rfl⟩:=k
  exact ⟨rfl,rfl,by simp only [nop,k3,Option.map_some]⟩
 case mkif t x=>
  simp only [nop,Option.map_eq_some_iff] at k
  obtain ⟨r,k3,rfl⟩:=k
  exact ⟨rfl,rfl,by simp only [nop,k3,Option.map_some]⟩
 case isnil b x=>
  simp only [nop,Option.map_eq_some_iff] at k
  obtain ⟨r,k3,rfl⟩:=k
  exact ⟨rfl,rfl,by simp only [nop,k3,Option.map_some]⟩
 case assert t z x=>
  simp only [nop,Option.map_eq_some_iff] at k
  obtain ⟨r,k3,rfl⟩:=k
  exact ⟨rfl,rfl,by simp only [nop,k3,Option.map_some]⟩
 case ext x i=>
  simp only [nop,Option.map_eq_some_iff] at k
  obtain ⟨r,k3,rfl⟩:=k
  exact ⟨rfl,rfl,by simp only [nop,k3,Option.map_some]⟩
 case cap x=>
  simp only [nop,Option.map_eq_some_iff] at k
  obtain ⟨r,k3,rfl⟩:=k
  exact ⟨rfl,rfl,by simp only [nop,k3,Option.map_some]⟩
 case iaddrA l sz x y=>
  simp only [nop,Option.bind_eq_some_iff,Option.map_eq_some_iff] at k
  obtain ⟨u,k1,r,k3,rfl⟩:=k
  exact ⟨rfl,rfl,by simp only [nop,k1,Option.bind_some,k3,Option.map_some]⟩
 case index l sz ag x y=>
  simp only [nop,Option.bind_eq_some_iff] at k
  obtain ⟨u,k1,k2⟩:=k
  split at k2
  ·rename_i hc
   simp only [Option.map_eq_some_iff] at k2
   obtain ⟨r,k3,rfl⟩:=k2
   refine ⟨rfl,rfl,?_⟩
   simp only [nop,k1,Option.bind_some]
   rw [if_pos hc,k3]
   rfl
  ·cases k2
 case indexS x y=>
  simp only [nop,Option.bind_eq_some_iff] at k
  obtain ⟨u,k1,k2⟩:=k
  split at k2
  ·rename_i b hx
   split at k2
   ·rename_i hc
    simp only [Option.map_eq_some_iff] at k2
    obtain ⟨r,k3,rfl⟩:=k2
    refine ⟨rfl,rfl,?_⟩
    simp only [nop,k1,Option.bind_some,hx]
    rw [if_pos hc,k3]
    rfl
   ·cases k2
  ·cases k2
 case min xs=>
  simp only [nop,Option.bind_eq_some_iff] at k
  obtain ⟨l,k1,k2⟩:=k
  cases l with
  | nil=>cases k2
  | cons a l=>
   simp only [Option.map_eq_some_iff] at k2
   obtain ⟨r,k3,rfl⟩:=k2
   exact ⟨rfl,rfl,by simp only [nop,k1,Option.bind_some,k3,Option.map_some]⟩
 case max xs=>
  simp only [nop,Option.bind_eq_some_iff] at k
  obtain ⟨l,k1,k2⟩:=k
  cases l with
  | nil=>cases k2
  | cons a l=>
   simp only [Option.map_eq_some_iff] at k2
   obtain ⟨r,k3,rfl⟩:=k2
   exact ⟨rfl,rfl,by simp only [nop,k1,Option.bind_some,k3,Option.map_some]⟩
 case conv c x=>
  simp only [nop] at k ⊢
  cases c <;> first|(cases hb;done)|skip
  all_goals
   simp only [convV] at k ⊢
   split at k <;> first|cases k|skip
  all_goals simp_all
end
end
section
section
variable {tm:List TV} {lc lc':List (List CV)} {h h':Hp} {call:CallF} {o:Nat→Nat}
theorem looks_ok {n:NO} (hb:n.looks=true) {q:Res} (k:nop call o ⟨tm,lc,h⟩ n=some q):q.lc=lc∧q.hp=h:=by
 by_cases hbl:n.blind=true
 ·exact ⟨(blind_ok (lc':=lc) (h':=h) hbl k).1,(blind_ok (lc':=lc) (h':=h) hbl k).2.1⟩
 ·cases n <;> first|(exact absurd hb (by simpa [NO.looks] using hbl))|(exact absurd rfl hbl)|skip
  case load sz x=>
   simp only [nop,Option.map_eq_some_iff] at k
   obtain ⟨v,k1,rfl⟩:=k
   exact ⟨rfl,rfl⟩
  case slice sz x lo hi mx=>
   simp only [nop,Option.bind_eq_some_iff,Option.map_eq_some_iff] at k
   obtain ⟨l,k1,hh,k2,mm,k3,r,k4,rfl⟩:=k
   exact ⟨rfl,rfl⟩
  case iaddr sz x i=>
   simp only [nop,Option.bind_eq_some_iff,Option.map_eq_some_iff] at k
   obtain ⟨v,k1,r,k2,rfl⟩:=k
   exact ⟨rfl,rfl⟩
  case len ty x=>
   simp only [nop,Option.map_eq_some_iff] at k
   obtain ⟨v,k1,rfl⟩:=k
   exact ⟨rfl,rfl⟩
  case look kt zero ok mm kk=>
   simp only [nop,Option.bind_eq_some_iff] at k
   obtain ⟨mv,k1,kv,k2,es,k3,k4⟩:=k
   split at k4
   ·simp only [Option.map_eq_some_iff] at k4
    obtain ⟨r,k5,rfl⟩:=k4
    exact ⟨rfl,rfl⟩
   ·cases k4
  case conv c x=>
   simp only [nop] at k
   unfold convV at k
   split at k <;> first|(simp [NO.looks,NO.blind] at hb;done)|(simp [NO.blind] at hbl;done)|(cases k;done)|skip
   all_goals
    split at k
    ·cases k
    ·simp only [Option.bind_eq_some_iff,Option.map_eq_some_iff] at k
     obtain ⟨rs,k1,l,k2,rfl⟩:=k
     exact ⟨rfl,rfl⟩
end
end
section
def CallW.Real (call:CallW):Prop:=∀ f args hp (p:Prop),call f args hp (fun _ _=>p)→p
section
variable {call:CallW}
theorem nopW_real (hc:call.Real) {s:St} {op:NO} {p:Prop} (k:nopW call s op fun _=>p):p:=by
 cases op <;> simp only [nopW] at k
 case call f args=>obtain ⟨l,_,k⟩:=k;exact hc _ _ _ _ k
 case dyn f args=>obtain ⟨l,g,caps,_,_,k⟩:=k;exact hc _ _ _ _ k
 case inv tb f args=>obtain ⟨l,g,caps,_,_,k⟩:=k;exact hc _ _ _ _ k
 case next str x=>obtain ⟨q,_,k⟩:=k (fun _=>0);exact k
 all_goals (obtain ⟨q,_,k⟩:=k;exact k)
theorem stepW_real (hc:call.Real) {r:NR} {s:St} {p:Prop} (k:stepW call r s fun _=>p):p:=by
 unfold stepW at k
 split at k
 ·exact nopW_real hc k
 ·exact k
 ·exact k.elim
theorem runW_real (hm:call.Mono) (hc:call.Real):∀ {l:List NR} {s:St} {p:Prop},runW call l s (fun _=>p)→p
 | [],s,p,k=>k
 | r::l,s,p,k=>stepW_real hc (stepW_mono hm (fun s' k'=>runW_real hm hc k') k)
theorem stepD_real (hc:call.Real) {base:Nat} {al:Option Nat} {r:NR} {s:St} {p:Prop} (k:stepD call base al r s fun _=>p):p:=by
 cases al with
 | none=>exact stepW_real hc k
 | some i=>
  simp only [stepD] at k
  split at k
  ·obtain ⟨_,q,_,k⟩:=k;exact k
  ·exact k
  ·exact k.elim
theorem drawW_real (hm:call.Mono) (hc:call.Real) {base:Nat}:∀ {l:List DI} {s:St} {p:Prop},drawW call base l s (fun _=>p)→p
 | [],s,p,k=>k
 | d::l,s,p,k=>stepD_real hc (stepD_mono hm (fun s' k'=>drawW_real hm hc k'.2) k)
theorem loopW_real {f:St→(Ex→St→Prop)→Prop} (hm:∀ s (Q Q':Ex→St→Prop),(∀ e s,Q e s→Q' e s)→f s Q→f s Q') (hf:∀ s (p:Prop),f s (fun _ _=>p)→p):∀ (n:Nat) (s:St) (p:Prop),loopW f n s (fun _ _=>p)→p
 | 0,_,_,k=>k.elim
 | n+1,s,p,k=>hf s p (hm s _ _ (fun e s' k'=>by
  cases e with
  | normal=>exact loopW_real hm hf n s' p k'
  | exit i=>exact k'
  | ret=>exact k') k)
theorem awp_real (hm:call.Mono) (hc:call.Real):∀ (c:Code) (s:St) (p:Prop),awp call c s (fun _ _=>p)→p:=by
 intro c
 induction c with
 | skip=>exact fun s p k=>k
 | kill live nlc=>exact fun s p k=>k.2.2
 | region ops=>exact fun s p k=>runW_real hm hc k
 | draw nal ord=>exact fun s p k=>drawW_real hm hc k
 | seq a b iha ihb=>
  intro s p k
  refine iha s p (awp_mono hm a s _ _ (fun e s' k'=>?_) k)
  cases e with
  | normal=>exact ihb s' p k'
  | exit i=>exact k'
  | ret=>exact k'
 | cond c a b iha ihb=>
  intro s p k
  simp only [awp] at k
  split at k
  ·exact iha s p k
  ·exact ihb s p k
  ·exact k.elim
 | block id b ih=>
  intro s p k
  refine ih s p (awp_mono hm b s _ _ (fun e s' k'=>?_) k)
  cases e with
  | normal=>exact k'
  | exit i=>simp only at k';split at k' <;> exact k'
  | ret=>exact k'
 | loop b ih=>
  intro s p ⟨n,k⟩
  exact loopW_real (fun s Q Q' h=>awp_mono hm b s Q Q' h) ih n s p k
 | exit id=>exact fun s p k=>k
 | ret=>exact fun s p k=>k
 | prim F n=>exact fun s p ⟨_,_,_,_,_,k⟩=>k
 | fin b ops ih=>exact fun s p k=>ih s p (awp_mono hm b s _ _ (fun e s' k'=>runW_real hm hc k'.2) k)
end
theorem callW_real (N:Nat→Option NF):∀ k,(callW N k).Real
 | 0,_,_,_,_,k=>k.elim
 | n+1,f,args,hp,p,⟨nf,h1,h2,h3⟩=>
  awp_real (callW_mono N n) (callW_real N n) nf.body _ p (awp_mono (callW_mono N n) _ _ _ _ (fun e s ⟨_,r,_,k⟩=>k) h3)
theorem stepD_some {call:CallW} (hm:call.Mono) (hc:call.Real) {base:Nat} {al:Option Nat} {r:NR} {s:St} {P:St→Prop} (k:stepD call base al r s P):∃ s',P s':=
 stepD_real hc (stepD_mono hm (fun s' h=>⟨s',h⟩) k)
def rdG:Option (Nat × Bool)→List Nat
 | none=>[]
 | some (t,_)=>[t]
def NR.rd (r:NR):List Nat:=r.op.rd++rdG r.guard
section
variable {tm tm':List TV} {lc:List (List CV)} {h:Hp} {call:CallW}
theorem wanted_same {g:Option (Nat × Bool)} (hs:Same (rdG g) tm tm'):wanted tm' g=wanted tm g:=by
 cases g with
 | none=>rfl
 | some p=>simp only [wanted,hs p.1 (by simp [rdG])]
theorem val_same {r:NR} (hs:Same r.rd tm tm'):val r ⟨tm',lc,h⟩=val r ⟨tm,lc,h⟩:=by
 simp only [val,wanted_same (Same.right hs),nop_same (n:=r.op) (Same.left hs)]
theorem nopW_same {n:NO} (hs:Same n.rd tm tm') {P:Res→Prop} (k:nopW call ⟨tm,lc,h⟩ n P):nopW call ⟨tm',lc,h⟩ n P:=by
 have plain:∀ o:Nat→Nat,(∃ q,nop noCall o ⟨tm,lc,h⟩ n=some q∧P q)→∃ q,nop noCall o ⟨tm',lc,h⟩ n=some q∧P q:=by
  rintro o ⟨q,h1,h2⟩
  exact ⟨q,by rw [nop_same hs];exact h1,h2⟩
 cases n with
 | call f args=>
  simp only [nopW] at k ⊢
  obtain ⟨l,h1,h2⟩:=k
  exact ⟨l,by rw [evL_same (l:=args) hs];exact h1,h2⟩
 | dyn f args=>
  simp only [nopW] at k ⊢
  obtain ⟨l,g,caps,h1,h2,h3⟩:=k
  exact ⟨l,g,caps,by rw [evL_same (l:=args) (Same.right hs)];exact h1,by rw [ev_same (x:=f) (Same.left hs)];exact h2,h3⟩
 | inv tb f args=>
  simp only [nopW] at k ⊢
  obtain ⟨l,g,caps,h1,h2,h3⟩:=k
  exact ⟨l,g,caps,by rw [evL_same (l:=args) (Same.right hs)];exact h1,by rw [ev_same (x:=f) (Same.left hs)];exact h2,h3⟩
 | next str x=>exact fun o=>plain o (k o)
 | _=>exact plain _ k
theorem stepW_same {r:NR} (hm:call.Mono) (hs:Same r.rd tm tm') {P:St→Prop} (k:stepW call r ⟨tm,lc,h⟩ P) :
 stepW call r ⟨tm',lc,h⟩ fun s'=>∃ v,s'.tm=putT tm' r.dst v∧P ⟨putT tm r.dst v,s'.lc,s'.hp⟩:=by
 unfold stepW at k ⊢
 simp only [wanted_same (Same.right hs)] at k ⊢
 split <;> rename_i hw <;> rw [hw] at k <;> simp only at k
 ·exact nopW_mono hm (fun q hq=>⟨q.v,rfl,hq⟩) (nopW_same (Same.left hs) k)
 ·exact ⟨.un,rfl,k⟩
theorem allocAt_same {id:Nat} {n:NO} (hs:Same n.rd tm tm'):allocAt ⟨tm',lc,h⟩ id n=allocAt ⟨tm,lc,h⟩ id n:=by
 cases n <;> try rfl
 case box loc sz x=>cases loc <;> simp only [allocAt,ev_same (x:=x) hs]
 case bslice loc sz n z ps=>cases loc <;> simp only [allocAt,evP_same (l:=ps) hs]
 case mkslice sz b z x y=>simp only [allocAt,ev_same (x:=x) (Same.left hs),ev_same (x:=y) (Same.right hs)]
theorem stepD_same {base:Nat} {al:Option Nat} {r:NR} (hm:call.Mono) (hs:Same r.rd tm tm') {P:St→Prop} (k:stepD call base al r ⟨tm,lc,h⟩ P) :
 stepD call base al r ⟨tm',lc,h⟩ fun s'=>∃ v,s'.tm=putT tm' r.dst v∧P ⟨putT tm r.dst v,s'.lc,s'.hp⟩:=by
 cases al with
 | none=>exact stepW_same hm hs k
 | some i=>
  simp only [stepD] at k ⊢
  simp only [wanted_same (Same.right hs)] at k ⊢
  split <;> rename_i hw <;> rw [hw] at k <;> simp only at k
  ·obtain ⟨h1,q,h2,h3⟩:=k
   exact ⟨h1,q,by rw [allocAt_same (Same.left hs)];exact h2,q.v,rfl,h3⟩
  ·exact ⟨.un,rfl,k⟩
theorem Same.refl (l:List Nat) (tm:List TV):Same l tm tm:=fun _ _=>rfl
theorem stepD_tm {base:Nat} {al:Option Nat} {r:NR} {s:St} (hm:call.Mono) {P:St→Prop} (k:stepD call base al r s P) :
 stepD call base al r s fun s'=>P s'∧∃ v,s'.tm=putT s.tm r.dst v:=by
 refine stepD_mono hm ?_ (stepD_same (tm':=s.tm) hm (Same.refl _ _) k)
 rintro s' ⟨v,h1,h2⟩
 rw [←h1] at h2
 exact ⟨h2,v,h1⟩
theorem allocAt_put {id:Nat} {n:NO} {q:Res} (k:allocAt ⟨tm,lc,h⟩ id n=some q):∃ v o,o≠AO.dead∧∀ lc' h',allocAt ⟨tm,lc',h'⟩ id n=some ⟨v,lc',h'.put id o⟩:=by
 unfold allocAt at k
 split at k
 ·simp only [Option.bind_eq_some_iff] at k
  obtain ⟨v,k1,k2⟩:=k
  split at k2
  ·rename_i hc
   injection k2 with k2
   subst k2
   exact ⟨_,_,And.symm ⟨fun lc' h'=>by simp only [allocAt,k1,Option.bind_some];rw [if_pos hc],by simp⟩⟩
  ·cases k2
 ·simp only [Option.bind_eq_some_iff,Option.map_eq_some_iff] at k
  obtain ⟨v,k1,cs,k2,rfl⟩:=k
  exact ⟨_,_,And.symm ⟨fun lc' h'=>by simp only [allocAt,k1,Option.bind_some,k2,Option.map_some];rfl,by simp⟩⟩
 ·exact ⟨_,_,And.symm ⟨fun lc' h'=>rfl,by simp⟩⟩
 ·simp only [Option.bind_eq_some_iff] at k
  obtain ⟨l,k1,c,k2,k3⟩:=k
  split at k3
  ·rename_i hc
   injection k3 with k3
   subst k3
   exact ⟨_,_,And.symm ⟨fun lc' h'=>by simp only [allocAt,k1,Option.bind_some,k2];rw [if_pos hc],by simp⟩⟩
  ·cases k3
 ·cases k
end
end
section
theorem putT_comm (tm:List TV) {x y:Option Nat} (v x0:TV) (h:∀ d,x=some d→y≠some d):putT (putT tm x v) y x0=putT (putT tm y x0) x v:=by
 cases x with
 | none=>rfl
 | some d=>
  cases y with
  | none=>rfl
  | some e=>
   have hne:d≠e:=fun he=>h d rfl (he▸rfl)
   simp only [putT]
   exact List.set_comm _ _ hne
theorem putT_gt (tm:List TV) (d:Nat) (v:TV):putT tm (some d) (gt (putT tm (some d) v) d)=putT tm (some d) v:=by
 simp only [putT,gt,List.getElem?_set]
 by_cases h:d<tm.length
 ·simp [h]
 ·simp only [h,if_true,if_false]
  rw [List.set_eq_of_length_le (by omega),List.set_eq_of_length_le (by omega)]
theorem gt_ne (tm:List TV) {dst:Option Nat} {t:Nat} (v:TV) (h:dst≠some t):gt (putT tm dst v) t=gt tm t:=by
 cases dst with
 | none=>rfl
 | some d=>
  have:d≠t:=fun e=>h (e▸rfl)
  simp [gt,putT,List.getElem?_set,this]
theorem same_putT {l:List Nat} {tm:List TV} {dst:Option Nat} (v:TV) (h:∀ d,dst=some d→d∉l):Same l tm (putT tm dst v):=
 fun t ht=>gt_ne tm v (fun e=>h t e ht)
theorem same_symm {l:List Nat} {tm tm':List TV} (h:Same l tm tm'):Same l tm' tm:=fun t ht=>(h t ht).symm
structure Apart (y i:NR):Prop where
 yi:∀ d,y.dst=some d→d∉i.rd
 ne:∀ d,y.dst=some d→i.dst≠some d
 iy:∀ d,i.dst=some d→d∉y.rd
section
variable {call:CallW} {y i z:NR} {s:St} {tm:List TV} {lc:List (List CV)} {h:Hp}
theorem look_val (hl:y.op.looks=true) {P:St→Prop} (k:stepW call y s P):∃ v,val y s=some v∧P ⟨putT s.tm y.dst v,s.lc,s.hp⟩:=by
 unfold stepW at k
 unfold val
 split at k
 ·rename_i hw
  have plain:(∃ q,nop noCall (fun _=>0) s y.op=some q∧P (after y s q))→∃ v,Option.map (fun x=>x.v) (nop noCall (fun x=>0) s y.op)=some v∧P ⟨putT s.tm y.dst v,s.lc,s.hp⟩:=by
   rintro ⟨q,h1,h2⟩
   obtain ⟨h3,h4⟩:=looks_ok (tm:=s.tm) (lc:=s.lc) (h:=s.hp) hl h1
   exact ⟨q.v,by rw [h1];rfl,by rw [←h3,←h4];exact h2⟩
  refine plain ?_
  cases hop:y.op <;> rw [hop] at k hl <;> simp only [nopW] at k <;> first|(cases hl;done)|exact k
 ·exact ⟨.un,rfl,k⟩
 ·exact k.elim
theorem look_mk (hl:y.op.looks=true) {P:St→Prop} {v:TV} (h1:val y s=some v) (h2:P ⟨putT s.tm y.dst v,s.lc,s.hp⟩):stepW call y s P:=by
 unfold stepW
 unfold val at h1
 split at h1
 ·rename_i hw
  simp only [Option.map_eq_some_iff] at h1
  obtain ⟨q,h3,rfl⟩:=h1
  obtain ⟨h4,h5⟩:=looks_ok (tm:=s.tm) (lc:=s.lc) (h:=s.hp) hl h3
  have h6:P (after y s q):=by unfold after;rw [h4,h5];exact h2
  cases hop:y.op <;> rw [hop] at h3 hl <;> simp only [nopW] <;> first|(cases hl;done)|exact ⟨q,h3,h6⟩
 ·injection h1 with h1
  subst h1
  exact h2
 ·cases h1
theorem blind_looks {n:NO} (h:n.blind=true):n.looks=true:=by
 cases n <;> first|(cases h;done)|rfl|skip
 rename_i c x
 cases c <;> first|(cases h;done)|rfl
theorem blind_val (hb:i.op.blind=true) (lc':List (List CV)) (h':Hp) {v:TV} (k:val i ⟨tm,lc,h⟩=some v):val i ⟨tm,lc',h'⟩=some v:=by
 unfold val at k ⊢
 simp only at k ⊢
 split <;> rename_i hw <;> rw [hw] at k <;> simp only at k
 ·simp only [Option.map_eq_some_iff] at k ⊢
  obtain ⟨q,k1,k2⟩:=k
  exact ⟨_,(blind_ok (lc':=lc') (h':=h') hb k1).2.2,k2⟩
 ·exact k
 ·cases k
theorem again_put (h1:∀ d,i.dst=some d→d∉z.rd) (h2:∀ d,i.dst=some d→z.dst≠some d) {v:TV}:again z ⟨putT tm i.dst v,lc,h⟩↔again z ⟨tm,lc,h⟩:=by
 unfold again
 constructor
 ·rintro ⟨d,k1,k2⟩
  refine ⟨d,k1,?_⟩
  rw [val_same (same_putT v h1)] at k2
  rw [k2]
  simp only
  rw [gt_ne _ _ (fun e=>h2 d e k1)]
 ·rintro ⟨d,k1,k2⟩
  refine ⟨d,k1,?_⟩
  rw [val_same (same_putT v h1),k2]
  simp only
  rw [gt_ne _ _ (fun e=>h2 d e k1)]
theorem swapA {base:Nat} {al:Option Nat} (hm:call.Mono) (hy:y.op.looks=true) (hap:Apart y i) (hself:∀ d,y.dst=some d→d∉y.rd) {R R' K:St→Prop}
 (hR:∀ tm lc h v,R ⟨putT tm y.dst v,lc,h⟩→R' ⟨tm,lc,h⟩)
 (k:stepW call y s fun s1=>stepD call base al i s1 fun s2=>again y s2∧R s2∧K s2):stepD call base al i s fun s1=>R' s1∧stepW call y s1 K:=by
 obtain ⟨v,h1,h2⟩:=look_val hy k
 refine stepD_mono hm ?_ (stepD_same (tm':=s.tm) hm (same_symm (same_putT v hap.yi)) h2)
 rintro ⟨tm',lc',h'⟩ ⟨x0,e1,⟨d,e2,e3⟩,e4,e5⟩
 simp only at e1 e3 e4 e5
 subst e1
 rw [putT_comm _ _ _ hap.ne] at e3 e4 e5
 refine ⟨hR _ _ _ _ e4,?_⟩
 rw [val_same (same_putT v hself)] at e3
 refine look_mk hy e3 ?_
 rw [e2] at e5 ⊢
 simp only
 rw [putT_gt]
 exact e5
theorem swapA0 {base:Nat} {al:Option Nat} (hm:call.Mono) (hy:y.op.blind=true) (hap:Apart y i) {R R' K:St→Prop}
 (hR:∀ tm lc h v,R ⟨putT tm y.dst v,lc,h⟩→R' ⟨tm,lc,h⟩)
 (k:stepW call y s fun s1=>stepD call base al i s1 fun s2=>R s2∧K s2):stepD call base al i s fun s1=>R' s1∧stepW call y s1 K:=by
 have hl:=blind_looks hy
 obtain ⟨v,h1,h2⟩:=look_val hl k
 refine stepD_mono hm ?_ (stepD_same (tm':=s.tm) hm (same_symm (same_putT v hap.yi)) h2)
 rintro ⟨tm',lc',h'⟩ ⟨x0,e1,e4,e5⟩
 simp only at e1 e4 e5
 subst e1
 rw [putT_comm _ _ _ hap.ne] at e4 e5
 refine ⟨hR _ _ _ _ e4,look_mk hl (v:=v) ?_ e5⟩
 rw [val_same (same_putT x0 hap.iy)]
 exact blind_val hy _ _ h1
theorem swapB1 {base:Nat} {al:Option Nat} (hm:call.Mono) (hc:call.Real) (hi:i.op.blind=true) (hap:Apart y i) {R R' K:St→Prop}
 (hR:∀ tm lc h v,R ⟨tm,lc,h⟩→R' ⟨putT tm i.dst v,lc,h⟩)
 (k:stepD call base al y s fun s1=>R s1∧stepW call i s1 K):stepW call i s fun s1=>stepD call base al y s1 fun s2=>R' s2∧K s2:=by
 have hl:=blind_looks hi
 obtain ⟨s1,⟨_,k1⟩,v1,k2⟩:=stepD_some hm hc (stepD_tm hm k)
 obtain ⟨x0,k3,_⟩:=look_val hl k1
 have hval:∀ (v:TV) lc' h',val i ⟨putT s.tm y.dst v,lc',h'⟩=val i s:=by
  intro v lc' h'
  have e1:∀ lc' h',val i ⟨putT s.tm y.dst v,lc',h'⟩=val i ⟨s.tm,lc',h'⟩:=fun lc' h'=>val_same (same_putT v hap.yi)
  have e2:∀ lc' h',val i ⟨s.tm,lc',h'⟩=val i ⟨s.tm,s.lc,s.hp⟩:=by
   intro lc' h'
   cases hx:val i ⟨s.tm,lc',h'⟩ with
   | some w=>exact (blind_val hi _ _ hx).symm
   | none=>
    cases hy:val i ⟨s.tm,s.lc,s.hp⟩ with
    | some w=>rw [blind_val hi lc' h' hy] at hx;cases hx
    | none=>rfl
  rw [e1,e2]
 have k4:val i s=some x0:=by
  obtain ⟨tm1,lc1,h1⟩:=s1
  simp only at k2
  subst k2
  rw [hval] at k3
  exact k3
 refine look_mk hl k4 ?_
 refine stepD_mono hm ?_ (stepD_same (tm':=putT s.tm i.dst x0) hm (same_putT x0 hap.iy) k)
 rintro ⟨tm',lc',h'⟩ ⟨v,e1,e2,e3⟩
 simp only at e1 e2 e3
 subst e1
 obtain ⟨x0',e4,e5⟩:=look_val hl e3
 rw [hval,k4] at e4
 injection e4 with e4
 subst e4
 simp only at e5
 rw [←putT_comm _ _ _ hap.ne]
 exact ⟨hR _ _ _ _ e2,e5⟩
theorem swapB2 (hy:y.op.looks=true) (hi:i.op.looks=true) (hap:Apart y i) {K:St→Prop}
 (k:stepW call y s fun s1=>stepW call i s1 K):stepW call i s fun s1=>stepW call y s1 K:=by
 obtain ⟨v,h1,h2⟩:=look_val hy k
 obtain ⟨x0,h3,h4⟩:=look_val hi h2
 rw [val_same (same_putT v hap.yi)] at h3
 refine look_mk hi h3 (look_mk hy (v:=v) ?_ ?_)
 ·rw [val_same (same_putT x0 hap.iy)];exact h1
 ·simp only at h4 ⊢
  rw [←putT_comm _ _ _ hap.ne]
  exact h4
theorem Le2.eq_put {t:Nat} {C C' H':Hp} {o:AO} (h:Le2 (· = t) C (C.put t o) C' H') (hd:C.obs[t]? = some .dead):C'.obs[t]? = some .dead∧H'=C'.put t o:=by
 obtain ⟨h1,h2⟩:=h.dead t rfl hd
 refine ⟨h1,?_⟩
 have hlt:t<C.obs.length:=by
  rcases Nat.lt_or_ge t C.obs.length with h'|h'
  ·exact h'
  ·rw [List.getElem?_eq_none h'] at hd;cases hd
 have hlt':t<C'.obs.length:=Nat.lt_of_lt_of_le hlt h.grow
 have hobs:H'.obs=(C'.put t o).obs:=by
  apply List.ext_getElem?
  intro id
  simp only [Hp.put,List.getElem?_set]
  by_cases he:t=id
  ·subst he
   rw [h2]
   simp [Hp.put,hlt,hlt']
  ·rcases h.le.obs id with ⟨h3,_⟩|h3
   ·exact absurd h3.symm he
   ·rw [h3];simp [he]
 have hcnt:=h.le.cnt
 cases H'
 cases C'
 simp only [Hp.put] at hobs hcnt ⊢
 subst hobs hcnt
 rfl
theorem le_put {t:Nat} {C:Hp} {o:AO} (hd:C.obs[t]? = some .dead):Le (· = t) C (C.put t o):=by
 have hlt:t<C.obs.length:=by
  rcases Nat.lt_or_ge t C.obs.length with h'|h'
  ·exact h'
  ·rw [List.getElem?_eq_none h'] at hd;cases hd
 refine ⟨by simp [Hp.put],rfl,fun id h=>by subst h;exact hlt,fun id=>?_⟩
 by_cases he:id=t
 ·subst he;exact .inl ⟨rfl,hd⟩
 ·exact .inr (by simp [Hp.put,List.getElem?_set,Ne.symm he])
theorem swapB3 {base k:Nat} {al:Option Nat} (hm:call.Mono) (hc:call.Real) (hf:call.Framed) (hal:al≠some k) (hap:Apart y i) {R R' K:St→Prop}
 (hR:∀ tm lc h h' v,R ⟨tm,lc,h⟩→(h'=h∨Le (· = base+k) h h')→R' ⟨putT tm i.dst v,lc,h'⟩)
 (hd:s.hp.obs[base+k]? = some .dead)
 (kk:stepD call base al y s fun s1=>R s1∧stepD call base (some k) i s1 K):stepD call base (some k) i s fun s1=>stepD call base al y s1 fun s2=>R' s2∧K s2:=by
 obtain ⟨s1,⟨_,k1⟩,v1,k2⟩:=stepD_some hm hc (stepD_tm hm kk)
 have hwant:∀ v,wanted (putT s.tm y.dst v) i.guard=wanted s.tm i.guard:=fun v=>wanted_same (Same.right (same_putT v hap.yi))
 simp only [stepD] at k1 kk ⊢
 rw [k2,hwant] at k1
 split <;> rename_i hw <;> rw [hw] at k1 <;> simp only at k1
 ·obtain ⟨_,q,k3,_⟩:=k1
  obtain ⟨tm1,lc1,h1⟩:=s1
  simp only at k2
  subst k2
  obtain ⟨v,o,ho,k4⟩:=allocAt_put k3
  have k5:∀ x0 lc' h',allocAt ⟨putT s.tm y.dst x0,lc',h'⟩ (base+k) i.op=some ⟨v,lc',h'.put (base+k) o⟩:=by
   intro x0 lc' h'
   rw [allocAt_same (Same.left (same_putT x0 hap.yi))]
   rw [←k4 lc' h',allocAt_same (Same.left (same_putT v1 hap.yi))]
  have k6:allocAt s (base+k) i.op=some ⟨v,s.lc,s.hp.put (base+k) o⟩:=by
   have:=k5 v1 s.lc s.hp
   rw [allocAt_same (Same.left (same_putT v1 hap.yi))] at this
   exact this
  refine ⟨hd,_,k6,?_⟩
  have k7:=stepD_same (tm':=putT s.tm i.dst v) hm (same_putT v hap.iy) kk
  have k8:=stepD_le hm hf (le_put (o:=o) hd) (fun j hj e=>hal (by rw [hj];congr 1;omega)) k7
  refine stepD_mono hm ?_ k8
  rintro ⟨tm',lc',h'⟩ ⟨⟨tm0,lc0,h0⟩,⟨x0,e1,e2,e3⟩,e4,e5,e6⟩
  simp only at e1 e2 e3 e4 e5 e6
  subst e1 e4 e5
  obtain ⟨e7,rfl⟩:=e6.eq_put hd
  rw [hwant,hw] at e3
  obtain ⟨_,q',e8,e9⟩:=e3
  rw [k5] at e8
  injection e8 with e8
  subst e8
  simp only [after] at e9
  rw [←putT_comm _ _ _ hap.ne]
  exact ⟨hR _ _ _ _ _ e2 (.inr (le_put e7)),e9⟩
 ·have k7:=stepD_same (tm':=putT s.tm i.dst .un) hm (same_putT _ hap.iy) kk
  refine stepD_mono hm ?_ k7
  rintro ⟨tm',lc',h'⟩ ⟨x0,e1,e2,e3⟩
  simp only at e1 e2 e3
  subst e1
  rw [hwant,hw] at e3
  simp only at e3
  rw [←putT_comm _ _ _ hap.ne]
  exact ⟨hR _ _ _ _ _ e2 (.inl rfl),e3⟩
theorem stepD_dead {base:Nat} {al:Option Nat} (hm:call.Mono) (hf:call.Framed) {T:Nat→Prop} (hT:∀ id,T id→s.hp.obs[id]? = some .dead) (hal:∀ j,al=some j→¬T (base+j)) {P:St→Prop}
 (k:stepD call base al i s P):stepD call base al i s fun s'=>P s'∧∀ id,T id→s'.hp.obs[id]? = some .dead:=by
 have hlow:∀ id,T id→id<s.hp.obs.length:=by
  intro id h
  rcases Nat.lt_or_ge id s.hp.obs.length with h'|h'
  ·exact h'
  ·have:=hT id h
   rw [List.getElem?_eq_none h'] at this
   cases this
 have hle:Le T s.hp s.hp:=⟨rfl,rfl,hlow,fun id=>.inr rfl⟩
 refine stepD_mono hm ?_ (stepD_le (tm:=s.tm) (lc:=s.lc) hm hf hle hal k)
 rintro ⟨tm',lc',h'⟩ ⟨⟨tm0,lc0,h0⟩,e1,e2,e3,e4⟩
 simp only at e2 e3 e4
 subst e2 e3
 have hdead:∀ id,T id→h0.obs[id]? = some .dead∧h'.obs[id]? = some .dead:=by
  intro id hid
  obtain ⟨k1,k2⟩:=e4.dead id hid (hT id hid)
  exact ⟨k1,k2.trans (hT id hid)⟩
 have heq:h'=h0:=by
  have hobs:h'.obs=h0.obs:=by
   apply List.ext_getElem?
   intro id
   rcases e4.le.obs id with ⟨k1,_⟩|k1
   ·rw [(hdead id k1).1,(hdead id k1).2]
   ·exact k1
  have hcnt:=e4.le.cnt
  cases h'
  cases h0
  simp only at hobs hcnt
  subst hobs hcnt
  rfl
 subst heq
 exact ⟨e1,fun id h=>(hdead id h).1⟩
end
end
section
def DI.look (d:DI):Bool:=d.al.isNone && d.r.op.looks
def DI.blind (d:DI):Bool:=d.al.isNone && d.r.op.blind
def freeOf (dst:Option Nat) (z:NR):Bool:=
 match dst with
 | some d=>!z.rd.contains d && z.dst != some d
 | none=>true
def apartB (y i:NR):Bool:=freeOf y.dst i && (match i.dst with|some d=>!y.rd.contains d|none=>true)
def selfB (y:NR):Bool:=match y.dst with|some d=>!y.rd.contains d|none=>true
def dropB (m:Nat) (i:DI) (c:Nat × NR):Bool:=c.1 == i.i || m.testBit c.1 || freeOf i.r.dst c.2
def compat (m:Nat) (y i:DI):Bool:=
 apartB y.r i.r &&
 (if i.look || i.al.isSome then
  i.chk.isEmpty && ((i.blind && y.chk.all (dropB m i)) || (y.look && y.chk.isEmpty && i.look) || (i.al.isSome && y.al != i.al && y.chk.all (dropB m i)))
  else y.look && y.chk.isEmpty && (y.blind || (i.chk.any (fun c=>c.1 == y.i) && selfB y.r)))
theorem freeOf_spec {dst:Option Nat} {z:NR} (h:freeOf dst z=true):(∀ d,dst=some d→d∉z.rd)∧(∀ d,dst=some d→z.dst≠some d):=by
 constructor <;> (rintro d rfl;simp [freeOf] at h)
 ·exact h.1
 ·exact h.2
theorem apartB_spec {y i:NR} (h:apartB y i=true):Apart y i:=by
 simp only [apartB,Bool.and_eq_true] at h
 obtain ⟨h1,h2⟩:=h
 obtain ⟨h3,h4⟩:=freeOf_spec h1
 refine ⟨h3,h4,fun d hd=>?_⟩
 rw [hd] at h2
 simpa using h2
theorem selfB_spec {y:NR} (h:selfB y=true):∀ d,y.dst=some d→d∉y.rd:=by
 intro d hd
 simp only [selfB,hd] at h
 simpa using h
theorem againL_iff {l:List (Nat × NR)} {s:St}:againL l s↔∀ c∈l,again c.2 s:=by
 induction l with
 | nil=>simp [againL]
 | cons c l ih=>simp [againL,ih]
def cut (dn:Nat→Bool) (d:DI):DI:={ d with chk:=d.chk.filter fun c=>!dn c.1 }
section
variable {call:CallW} {base:Nat} {dn:Nat→Bool}
theorem stepD_none {r:NR} {s:St} {P:St→Prop}:stepD call base none r s P=stepW call r s P:=rfl
theorem drawW_cut (hm:call.Mono):∀ {l:List DI} {s:St} {post:St→Prop},drawW call base l s post→drawW call base (l.map (cut dn)) s post
 | [],_,_,k=>k
 | d::l,s,post,k=>stepD_mono hm (fun s' ⟨k1,k2⟩=>⟨by
  rw [againL_iff] at k1 ⊢
  intro c hc
  exact k1 c (List.mem_filter.mp hc).1,drawW_cut hm k2⟩) k
theorem pull_B (hm:call.Mono) (hc:call.Real) (hf:call.Framed) {i:DI} {L2:List DI} {post:St→Prop}:∀ {L1:List DI} {s:St},
 (∀ y∈L1,Apart y.r i.r∧((i.blind=true∧∀ c∈(cut dn y).chk,freeOf i.r.dst c.2=true)∨(y.look=true∧i.look=true∧y.chk=[])∨(i.al.isSome=true∧y.al≠i.al∧∀ c∈(cut dn y).chk,freeOf i.r.dst c.2=true)))→
 (∀ k,i.al=some k→s.hp.obs[base+k]? = some .dead)→drawW call base (L1++i::L2) s post→
 stepD call base i.al i.r s fun s1=>drawW call base ((L1++L2).map (cut dn)) s1 post
 | [],s,_,_,k=>stepD_mono hm (fun s' k'=>drawW_cut hm k'.2) k
 | y::L1,s,hL,hd,k=>by
  obtain ⟨hap,hk⟩:=hL y (by simp)
  have hL':∀ y∈L1,_:=fun y hy=>hL y (by simp [hy])
  simp only [List.cons_append,drawW] at k
  simp only [List.cons_append,List.map_cons,drawW]
  rcases hk with ⟨hb,hch⟩|⟨hy,hi,hch⟩|⟨hal,hne,hch⟩
  ·simp only [DI.blind,Bool.and_eq_true,Option.isNone_iff_eq_none] at hb
   have hal:=hb.1
   have k':stepD call base y.al y.r s fun s1=>againL y.chk s1∧stepW call i.r s1 fun s2=>drawW call base ((L1++L2).map (cut dn)) s2 post:=by
    refine stepD_mono hm ?_ k
    rintro s1 ⟨k1,k2⟩
    refine ⟨k1,?_⟩
    have:=pull_B hm hc hf (s:=s1) hL' (by rw [hal];simp) k2
    rw [hal] at this
    exact this
   rw [hal]
   refine swapB1 (R':=againL (cut dn y).chk) hm hc hb.2 hap ?_ k'
   intro tm lc h v hr
   rw [againL_iff] at hr ⊢
   intro c hc'
   obtain ⟨h1,h2⟩:=freeOf_spec (hch c hc')
   exact (again_put h1 h2).mpr (hr c (List.mem_filter.mp hc').1)
  ·simp only [DI.look,Bool.and_eq_true,Option.isNone_iff_eq_none] at hy hi
   have k':stepW call y.r s fun s1=>stepW call i.r s1 fun s2=>drawW call base ((L1++L2).map (cut dn)) s2 post:=by
    rw [hy.1,stepD_none] at k
    refine stepW_mono hm ?_ k
    rintro s1 ⟨k1,k2⟩
    have:=pull_B hm hc hf (s:=s1) hL' (by rw [hi.1];simp) k2
    rw [hi.1] at this
    exact this
   rw [hi.1,stepD_none]
   refine stepW_mono hm ?_ (swapB2 hy.2 hi.2 hap k')
   intro s1 k1
   simp only [cut,hy.1,hch,stepD_none]
   exact stepW_mono hm (fun s2 k2=>⟨by simp [againL],k2⟩) k1
  ·obtain ⟨kk,hkk⟩:=Option.isSome_iff_exists.mp hal
   have hd':=hd kk hkk
   have hne':y.al≠some kk:=by rw [←hkk];exact hne
   have hkeep:=stepD_dead (T:=(· = base+kk)) hm hf (fun id h=>by subst h;exact hd') (fun j hj e=>hne' (by rw [hj];congr 1;omega)) k
   have k':stepD call base y.al y.r s fun s1=>againL y.chk s1∧stepD call base (some kk) i.r s1 fun s2=>drawW call base ((L1++L2).map (cut dn)) s2 post:=by
    refine stepD_mono hm ?_ hkeep
    rintro s1 ⟨⟨k1,k2⟩,k3⟩
    refine ⟨k1,?_⟩
    have:=pull_B hm hc hf (s:=s1) hL' (by rw [hkk];rintro k hk;injection hk with hk;subst hk;exact k3 _ rfl) k2
    rw [hkk] at this
    exact this
   rw [hkk]
   refine swapB3 (R':=againL (cut dn y).chk) hm hc hf hne' hap ?_ hd' k'
   intro tm lc h h' v hr hle
   rw [againL_iff] at hr ⊢
   intro c hc'
   obtain ⟨h1,h2⟩:=freeOf_spec (hch c hc')
   refine (again_put h1 h2).mpr ?_
   have h3:=hr c (List.mem_filter.mp hc').1
   rcases hle with rfl|hle
   ·exact h3
   ·exact again_le hle h3
theorem pull_A (hm:call.Mono) {i:DI} {L2:List DI} {post:St→Prop}:∀ {L1:List DI} {C:List (Nat × NR)} {s:St},
 (∀ y∈L1,Apart y.r i.r∧y.look=true∧y.chk=[]∧(y.blind=true∨((∃ c∈i.chk,c.2=y.r)∧selfB y.r=true)))→(∀ c∈C,c∈i.chk)→(∀ c∈C,∀ y∈L1,freeOf y.r.dst c.2=true)→
 List.Pairwise (fun y y':DI=>y.blind=false→freeOf y'.r.dst y.r=true) L1→drawW call base (L1++i::L2) s post→
 stepD call base i.al i.r s fun s1=>againL C s1∧drawW call base (L1++L2) s1 post
 | [],C,s,_,hC,_,_,k=>stepD_mono hm (fun s' k'=>⟨by
  have:=k'.1
  rw [againL_iff] at this ⊢
  exact fun c hc=>this c (hC c hc),k'.2⟩) k
 | y::L1,C,s,hL,hC,hCL,hp,k=>by
  obtain ⟨hap,hy,hch,hcase⟩:=hL y (by simp)
  simp only [DI.look,Bool.and_eq_true,Option.isNone_iff_eq_none] at hy
  simp only [List.cons_append,drawW] at k ⊢
  rw [List.pairwise_cons] at hp
  rw [hy.1,stepD_none] at k
  rw [hy.1]
  by_cases hbl:y.blind=true
  ·have hb2:y.r.op.blind=true:=by simp only [DI.blind,Bool.and_eq_true] at hbl;exact hbl.2
   have k':stepW call y.r s fun s1=>stepD call base i.al i.r s1 fun s2=>againL C s2∧drawW call base (L1++L2) s2 post:=by
    refine stepW_mono hm ?_ k
    rintro s1 ⟨_,k2⟩
    exact pull_A hm (C:=C) (s:=s1) (fun y hy=>hL y (by simp [hy])) hC (fun c' hc' y' hy'=>hCL c' hc' y' (by simp [hy'])) hp.2 k2
   refine stepD_mono hm ?_ (swapA0 (R:=againL C) (R':=againL C) hm hb2 hap ?_ k')
   ·rintro s1 ⟨k1,k2⟩
    rw [stepD_none]
    exact ⟨k1,stepW_mono hm (fun s2 k3=>⟨by rw [hch];simp [againL],k3⟩) k2⟩
   ·intro tm lc h v hr
    rw [againL_iff] at hr ⊢
    intro c' hc'
    obtain ⟨h1,h2⟩:=freeOf_spec (hCL c' hc' y (by simp))
    exact (again_put h1 h2).mp (hr c' hc')
  obtain ⟨⟨c,hc,hcy⟩,hself⟩:=hcase.resolve_left hbl
  have k':stepW call y.r s fun s1=>stepD call base i.al i.r s1 fun s2=>again y.r s2∧againL C s2∧drawW call base (L1++L2) s2 post:=by
   refine stepW_mono hm ?_ k
   rintro s1 ⟨_,k2⟩
   have:=pull_A hm (C:=c::C) (s:=s1) (fun y hy=>hL y (by simp [hy])) (by
    intro c' hc'
    rcases List.mem_cons.mp hc' with rfl|h
    ·exact hc
    ·exact hC c' h) (by
    intro c' hc' y' hy'
    rcases List.mem_cons.mp hc' with rfl|h
    ·rw [hcy];exact hp.1 y' hy' (by simpa using hbl)
    ·exact hCL c' h y' (by simp [hy'])) hp.2 k2
   refine stepD_mono hm ?_ this
   rintro s2 ⟨⟨k3,k4⟩,k5⟩
   rw [hcy] at k3
   exact ⟨k3,k4,k5⟩
  refine stepD_mono hm ?_ (swapA (R:=againL C) (R':=againL C) hm hy.2 hap (selfB_spec hself) ?_ k')
  ·rintro s1 ⟨k1,k2⟩
   rw [stepD_none]
   exact ⟨k1,stepW_mono hm (fun s2 k3=>⟨by rw [hch];simp [againL],k3⟩) k2⟩
  ·intro tm lc h v hr
   rw [againL_iff] at hr ⊢
   intro c' hc'
   obtain ⟨h1,h2⟩:=freeOf_spec (hCL c' hc' y (by simp))
   exact (again_put h1 h2).mp (hr c' hc')
end
end
section
def predsOf (o:Oper):List Nat:=(o.after.toList.filter (Region.binds .any ·)).map (·.on)
def maskOf (acc:List Nat):List Nat→Nat
 | []=>0
 | j::l=>(2 ^ j ||| acc.getD j 0) ||| maskOf acc l
def masks:List Oper→List Nat→List Nat
 | [],acc=>acc
 | o::l,acc=>masks l (acc++[maskOf acc (predsOf o)])
def predsAt (ops:List Oper) (j:Nat):List Nat:=((ops[j]?).map predsOf).getD []
def pairOk (ops:List Oper) (ms:List Nat) (y i:DI):Bool:=
 y.i != i.i && (y.al.isNone || y.al != i.al) && !(predsAt ops y.i).contains i.i && ((ms.getD i.i 0).testBit y.i || compat (ms.getD i.i 0) y i)
def pairs (C:DI→DI→Bool):List DI→Bool
 | []=>true
 | y::l=>l.all (C y) && pairs C l
def tripC (y y' i:DI):Bool:=!(i.chk.any fun c=>c.1 == y.i) || freeOf y'.r.dst y.r
def tripOk:List DI→Bool
 | []=>true
 | y::l=>(if l.any (fun i=>i.chk.any fun c=>c.1 == y.i) then pairs (tripC y) l else true) && tripOk l
def drawOk (ops:Array Oper) (nal:Nat) (ord:List DI):Bool:=
 ord.all (fun d=>(match d.al with|some k=>decide (k<nal)|none=>true) && (predsAt ops.toList d.i).all (fun j=>decide (j<ops.size) && j != d.i)) &&
 (List.range ops.size).all (fun j=>ord.any (fun d=>d.i == j)) && pairs (pairOk ops.toList (masks ops.toList [])) ord && tripOk ord && decide (ord.length≤ops.size)
theorem pairs_spec {C:DI→DI→Bool}:∀ {l:List DI},pairs C l=true→List.Pairwise (fun y i=>C y i=true) l
 | [],_=>List.Pairwise.nil
 | y::l,h=>by
  simp only [pairs,Bool.and_eq_true,List.all_eq_true] at h
  exact List.Pairwise.cons h.1 (pairs_spec h.2)
def TripP:List DI→Prop
 | []=>True
 | y::l=>List.Pairwise (fun y' i=>tripC y y' i=true) l∧TripP l
theorem tripOk_spec:∀ {l:List DI},tripOk l=true→TripP l
 | [],_=>trivial
 | y::l,h=>by
  simp only [tripOk,Bool.and_eq_true] at h
  refine ⟨?_,tripOk_spec h.2⟩
  have h1:=h.1
  split at h1
  ·exact pairs_spec h1
  ·rename_i hn
   refine List.Pairwise.imp_of_mem (R:=fun _ _=>True) ?_ (List.pairwise_of_forall (fun _ _=>trivial))
   intro a b _ hb _
   simp only [tripC]
   have:(b.chk.any fun c=>c.1 == y.i)=false:=by
    cases hx:(b.chk.any fun c=>c.1 == y.i) with
    | false=>rfl
    | true=>exact absurd (List.any_eq_true.mpr ⟨b,hb,hx⟩) hn
   simp [this]
theorem TripP.filter {p:DI→Bool}:∀ {l:List DI},TripP l→TripP (l.filter p)
 | [],_=>trivial
 | y::l,h=>by
  by_cases hp:p y=true
  ·simp only [List.filter_cons,hp,if_true]
   exact ⟨h.1.filter p,TripP.filter h.2⟩
  ·simp only [List.filter_cons,hp]
   exact TripP.filter h.2
theorem TripP.before {i:DI} {A2:List DI}:∀ {A:List DI},TripP (A++i::A2)→List.Pairwise (fun y y'=>(i.chk.any fun c=>c.1 == y.i)=true→freeOf y'.r.dst y.r=true) A
 | [],_=>List.Pairwise.nil
 | y::A,h=>by
  refine List.Pairwise.cons ?_ (TripP.before h.2)
  intro y' hy' hc
  have h1:=(List.pairwise_append.mp h.1).2.2 y' hy' i (by simp)
  simpa [tripC,hc] using h1
def ClosedDn (O:List Oper) (dn:Nat→Bool):Prop:=∀ j o,O[j]? = some o→dn j=true→∀ p∈predsOf o,dn p=true
def GoodM (O:List Oper) (dn:Nat→Bool) (acc:List Nat):Prop:=∀ j o,O[j]? = some o→j<acc.length→(∀ p∈predsOf o,dn p=true)→∀ k,(acc.getD j 0).testBit k=true→dn k=true
theorem maskOf_spec {acc:List Nat}:∀ {l:List Nat} {k:Nat},(maskOf acc l).testBit k=true→∃ p∈l,k=p∨(acc.getD p 0).testBit k=true
 | [],k,h=>by simp [maskOf] at h
 | j::l,k,h=>by
  simp only [maskOf,Nat.testBit_or,Bool.or_eq_true,Nat.testBit_two_pow] at h
  rcases h with (h|h)|h
  ·exact ⟨j,by simp,.inl (by simp at h;exact h.symm)⟩
  ·exact ⟨j,by simp,.inr h⟩
  ·obtain ⟨p,h1,h2⟩:=maskOf_spec h
   exact ⟨p,by simp [h1],h2⟩
theorem masks_good {O:List Oper} {dn:Nat→Bool} (hO:ClosedDn O dn):∀ {l pre:List Oper} {acc:List Nat},O=pre++l→acc.length=pre.length→GoodM O dn acc→GoodM O dn (masks l acc)
 | [],pre,acc,_,_,h=>h
 | o::l,pre,acc,he,hl,h=>by
  refine masks_good hO (l:=l) (pre:=pre++[o]) (acc:=acc++[maskOf acc (predsOf o)]) (by simp [he]) (by simp [hl]) ?_
  intro j o' ho' hj hp k hk
  by_cases hjl:j<acc.length
  ·refine h j o' ho' hjl hp k ?_
   rw [List.getD_eq_getElem?_getD,List.getElem?_append_left hjl] at hk
   rw [List.getD_eq_getElem?_getD]
   exact hk
  ·have hj':j=acc.length:=by simp at hj;omega
   subst hj'
   have ho:o'=o:=by
    rw [he,List.getElem?_append_right (by omega),hl,Nat.sub_self] at ho'
    simpa using ho'.symm
   subst ho
   have hk':(maskOf acc (predsOf o')).testBit k=true:=by simpa [List.getD_eq_getElem?_getD] using hk
   obtain ⟨p,h1,h2⟩:=maskOf_spec hk'
   rcases h2 with rfl|h2
   ·exact hp _ h1
   ·have hpl:p<acc.length:=by
     rcases Nat.lt_or_ge p acc.length with h'|h'
     ·exact h'
     ·rw [List.getD_eq_getElem?_getD,List.getElem?_eq_none h'] at h2;simp at h2
    obtain ⟨op,hop⟩:∃ op,O[p]? = some op:=by
     refine ⟨_,List.getElem?_eq_getElem ?_⟩
     rw [he];simp;omega
    exact h p op hop hpl (hO p op hop (hp p h1)) k h2
theorem masks_all:∀ {l:List Oper} {acc:List Nat},(masks l acc).length=acc.length+l.length
 | [],acc=>by simp [masks]
 | o::l,acc=>by simp [masks,masks_all];omega
def rem (dn:Nat→Bool) (ord:List DI):List DI:=(ord.filter fun d=>!dn d.i).map (cut dn)
def CompD (P:Program) (rn:FuncId→Nat) (ops:Array Oper) (ord:List DI):Prop:=
 ∀ d∈ord,(ops[d.i]?).bind (compR P rn [] ops)=some d.r∧∀ c∈d.chk,(ops[c.1]?).bind (compR P rn [] ops)=some c.2
def dnOf (listed:Array Bool) (j:Nat):Bool:=listed.getD j true
section
variable {call:CallW} {base:Nat} {P:Program} {E:Env} {B:Nat} {ops:Array Oper} {nal:Nat} {ord:List DI} {post:St→Prop} {Q:Exit→Act→World→Prop}
theorem pull (hm:call.Mono) (hc:call.Real) (hf:call.Framed) (hok:drawOk ops nal ord=true) (hcomp:CompD P E.rn ops ord) {dn:Nat→Bool} {s:St} (hcl:ClosedDn ops.toList dn)
 {A A2:List DI} {d:DI} (hF:(ord.filter fun d=>!dn d.i)=A++d::A2) {o:Oper} (ho:ops[d.i]? = some o) (hrdy:∀ p∈predsOf o,dn p=true)
 (hdead:∀ d∈ord,∀ k,d.al=some k→dn d.i=false→s.hp.obs[base+k]? = some .dead) (k:drawW call base (rem dn ord) s post) :
 stepD call base d.al d.r s fun s1=>drawW call base (rem (fun j=>dn j || j == d.i) ord) s1 post∧∀ d'∈ord,∀ k,d'.al=some k→(dn d'.i || d'.i == d.i)=false→s1.hp.obs[base+k]? = some .dead:=by
 simp only [drawOk,Bool.and_eq_true] at hok
 obtain ⟨⟨⟨⟨h1,h2⟩,h3⟩,h4⟩,_⟩:=hok
 have hP:=(pairs_spec h3).filter (fun d=>!dn d.i)
 have hT:=(tripOk_spec h4).filter (p:=fun d=>!dn d.i)
 rw [hF] at hP hT
 have hmemF:∀ x,x∈A++d::A2→x∈ord∧dn x.i=false:=by
  intro x hx
  rw [←hF,List.mem_filter] at hx
  exact ⟨hx.1,by simpa using hx.2⟩
 have hPA:∀ y∈A,pairOk ops.toList (masks ops.toList []) y d=true:=fun y hy=>(List.pairwise_append.mp hP).2.2 y hy d (by simp)
 have hPA2:∀ i∈A2,pairOk ops.toList (masks ops.toList []) d i=true:=fun i hi=>(List.pairwise_cons.mp (List.pairwise_append.mp hP).2.1).1 i hi
 have hneA:∀ y∈A++A2,y.i≠d.i∧(∀ k,d.al=some k→y.al≠some k):=by
  intro y hy
  rcases List.mem_append.mp hy with hy|hy
  ·have:=hPA y hy
   simp only [pairOk,Bool.and_eq_true,bne_iff_ne,Bool.or_eq_true,Option.isNone_iff_eq_none] at this
   refine ⟨this.1.1.1,fun k hk hy'=>?_⟩
   rcases this.1.1.2 with h|h
   ·rw [h] at hy';cases hy'
   ·rw [hk,hy'] at h;exact h rfl
  ·have:=hPA2 y hy
   simp only [pairOk,Bool.and_eq_true,bne_iff_ne,Bool.or_eq_true,Option.isNone_iff_eq_none] at this
   refine ⟨Ne.symm this.1.1.1,fun k hk hy'=>?_⟩
   rcases this.1.1.2 with h|h
   ·rw [h] at hk;cases hk
   ·rw [hk,hy'] at h;exact h rfl
 have hgood:GoodM ops.toList dn (masks ops.toList []):=masks_good hcl (pre:=[]) (by simp) rfl (fun j o _ hj=>by simp at hj)
 have hoL:ops.toList[d.i]? = some o:=by simpa using ho
 have hlt:d.i<(masks ops.toList []).length:=by
  rw [masks_all]
  have:=(Array.getElem?_eq_some_iff.1 ho).1
  simpa using this
 have hmask:∀ k,((masks ops.toList []).getD d.i 0).testBit k=true→dn k=true:=hgood d.i o hoL hlt hrdy
 have hcompat:∀ y∈A,compat ((masks ops.toList []).getD d.i 0) y d=true:=by
  intro y hy
  have:=hPA y hy
  simp only [pairOk,Bool.and_eq_true,Bool.or_eq_true] at this
  rcases this.2 with h|h
  ·have:=hmask _ h
   rw [(hmemF y (by simp [hy])).2] at this
   cases this
  ·exact h
 have hrest:rem (fun j=>dn j || j == d.i) ord=(A.map (cut dn)++A2.map (cut dn)).map (cut fun j=>j == d.i):=by
  unfold rem
  have e1:(ord.filter fun x=>!(dn x.i || x.i == d.i))=A++A2:=by
   have:(ord.filter fun x=>!(dn x.i || x.i == d.i))=(ord.filter fun x=>!dn x.i).filter fun x=>!(x.i == d.i):=by
    rw [List.filter_filter]
    congr 1
    funext x
    cases dn x.i <;> cases (x.i == d.i) <;> rfl
   rw [this,hF,List.filter_append,List.filter_cons]
   have hd0:(!(d.i == d.i))=false:=by simp
   rw [hd0]
   simp only [Bool.false_eq_true,if_false]
   rw [List.filter_eq_self.mpr,List.filter_eq_self.mpr]
   ·intro x hx;simpa using (hneA x (by simp [hx])).1
   ·intro x hx;simpa using (hneA x (by simp [hx])).1
  rw [e1,←List.map_append,List.map_map]
  apply List.map_congr_left
  intro x _
  simp only [Function.comp,cut,List.filter_filter]
  congr 2
  funext c
  cases dn c.1 <;> cases (c.1 == d.i) <;> rfl
 have hk:drawW call base (A.map (cut dn)++cut dn d::A2.map (cut dn)) s post:=by
  have:rem dn ord=A.map (cut dn)++cut dn d::A2.map (cut dn):=by unfold rem;rw [hF];simp
  rw [←this];exact k
 have hmain:stepD call base d.al d.r s fun s1=>drawW call base ((A.map (cut dn)++A2.map (cut dn)).map (cut fun j=>j == d.i)) s1 post:=by
  by_cases heff:(d.look || d.al.isSome)=true
  ·refine pull_B (i:=cut dn d) hm hc hf ?_ ?_ hk
   ·intro y hy
    obtain ⟨y0,hy0,rfl⟩:=List.mem_map.mp hy
    have hcp:=hcompat y0 hy0
    rw [compat,if_pos heff] at hcp
    simp only [Bool.and_eq_true,Bool.or_eq_true] at hcp
    have hfree:(y0.chk.all (dropB ((masks ops.toList []).getD d.i 0) d))=true→∀ c∈(cut (fun j=>j == d.i) (cut dn y0)).chk,freeOf (cut dn d).r.dst c.2=true:=by
     intro hall c hc
     simp only [cut,List.mem_filter,Bool.not_eq_true'] at hc
     have:=List.all_eq_true.mp hall c hc.1.1
     simp only [dropB,Bool.or_eq_true] at this
     rcases this with (h|h)|h
     ·rw [h] at hc;exact absurd hc.2 (by simp)
     ·rw [hmask _ h] at hc;exact absurd hc.1.2 (by simp)
     ·exact h
    refine ⟨apartB_spec hcp.1,?_⟩
    rcases hcp.2.2 with (h|h)|h
    ·exact .inl ⟨h.1,hfree h.2⟩
    ·refine .inr (.inl ⟨h.1.1,h.2,?_⟩)
     have:=List.isEmpty_iff.mp h.1.2
     simp [cut,this]
    ·refine .inr (.inr ⟨h.1.1,by simpa [cut] using h.1.2,hfree h.2⟩)
   ·intro kk hkk
    exact hdead d (hmemF d (by simp)).1 kk hkk (hmemF d (by simp)).2
  ·have hA:∀ y∈A,apartB y.r d.r=true∧y.look=true∧y.chk=[]∧(y.blind=true∨((d.chk.any fun c=>c.1 == y.i)=true∧selfB y.r=true)):=by
    intro y0 hy0
    have hcp:=hcompat y0 hy0
    rw [compat,if_neg heff] at hcp
    simp only [Bool.and_eq_true,Bool.or_eq_true] at hcp
    exact ⟨hcp.1,hcp.2.1.1,List.isEmpty_iff.mp hcp.2.1.2,hcp.2.2⟩
   have:=pull_A (C:=[]) (i:=cut dn d) (L1:=A.map (cut dn)) hm ?_ (by simp) (by simp) ?_ hk
   ·refine stepD_mono hm ?_ this
    rintro s1 ⟨_,k1⟩
    exact drawW_cut hm k1
   ·intro y hy
    obtain ⟨y0,hy0,rfl⟩:=List.mem_map.mp hy
    obtain ⟨a1,a2,a3,a45⟩:=hA y0 hy0
    refine ⟨apartB_spec a1,a2,by simp [cut,a3],?_⟩
    rcases a45 with a4|⟨a4,a5⟩
    ·exact .inl a4
    refine .inr ⟨?_,a5⟩
    obtain ⟨c,hc1,hc2⟩:=List.any_eq_true.mp a4
    have hci:c.1=y0.i:=by simpa using hc2
    refine ⟨c,?_,?_⟩
    ·simp only [cut,List.mem_filter,Bool.not_eq_true']
     exact ⟨hc1,by rw [hci];exact (hmemF y0 (by simp [hy0])).2⟩
    ·have e1:=(hcomp y0 (hmemF y0 (by simp [hy0])).1).1
     have e2:=(hcomp d (hmemF d (by simp)).1).2 c hc1
     rw [hci,e1] at e2
     injection e2 with e2
     exact e2.symm
   ·rw [List.pairwise_map]
    refine List.Pairwise.imp_of_mem ?_ hT.before
    intro a b ha hb h
    intro hbl
    have hbl':a.blind=false:=hbl
    exact h (((hA a ha).2.2.2.resolve_left (by simp [hbl'])).1)
 rw [hrest]
 refine stepD_mono hm ?_ (stepD_dead (T:=fun id=>∃ d'∈A++A2,∃ k,d'.al=some k∧id=base+k) hm hf ?_ ?_ hmain)
 ·rintro s1 ⟨k1,k2⟩
  refine ⟨k1,fun d' hd' k hk hdn=>k2 _ ⟨d',?_,k,hk,rfl⟩⟩
  simp only [Bool.or_eq_false_iff] at hdn
  have:d'∈A++d::A2:=by rw [←hF,List.mem_filter];exact ⟨hd',by simp [hdn.1]⟩
  simp only [List.mem_append,List.mem_cons] at this ⊢
  rcases this with h|rfl|h
  ·exact .inl h
  ·simp at hdn
  ·exact .inr h
 ·rintro id ⟨d',hd',k,hk,rfl⟩
  have:d'∈A++d::A2:=by
   simp only [List.mem_append,List.mem_cons] at hd' ⊢
   rcases hd' with h|h
   ·exact .inl h
   ·exact .inr (.inr h)
  exact hdead d' (hmemF d' this).1 k hk (hmemF d' this).2
 ·rintro j hj ⟨d',hd',k,hk,he⟩
  have:k=j:=by omega
  subst this
  exact (hneA d' hd').2 k hj hk
end
end
section
section
variable {call:CallW} {base:Nat} {P:Program} {E:Env} {B:Nat} {ops:Array Oper} {nal:Nat} {ord:List DI} {post:St→Prop} {Q:Exit→Act→World→Prop}
variable {G G':Gh} {m m':Mu} {s s':St} {a a':Act} {w w':World}
theorem dnOf_set (listed:Array Bool) (i j:Nat):dnOf (listed.setIfInBounds i true) j=(dnOf listed j || j == i):=by
 unfold dnOf
 by_cases h:i=j
 ·subst h
  by_cases hl:i<listed.size
  ·simp [hl]
  ·simp [hl]
 ·rw [getD_set_ne true h]
  have:(j == i)=false:=by simp [Ne.symm h]
  rw [this,Bool.or_false]
theorem getD_dn {listed:Array Bool} {j:Nat} (h:j<listed.size) (b:Bool):listed.getD j b=dnOf listed j:=by
 unfold dnOf
 simp [h]
theorem closed_set {listed:Array Bool} (hsz:listed.size=ops.size) (hcl:ClosedDn ops.toList (dnOf listed)) {i:Nat} {o:Oper} (ho:ops[i]? = some o) (hp:∀ p∈predsOf o,dnOf listed p=true) :
 ClosedDn ops.toList (dnOf (listed.setIfInBounds i true)):=by
 intro j o' ho' hd p hpm
 rw [dnOf_set] at hd ⊢
 by_cases hji:j=i
 ·subst hji
  have:o'=o:=by
   have h1:ops[j]? = some o':=by simpa using ho'
   rw [ho] at h1
   exact (Option.some.inj h1).symm
  subst this
  simp [hp p hpm]
 ·have:(j == i)=false:=by simp [hji]
  rw [this,Bool.or_false] at hd
  simp [hcl j o' ho' hd p hpm]
theorem draw_any (hm:call.Mono) (hc:call.Real) (hf:call.Framed) (hcall:CallsOk P E B call) (hok:drawOk ops nal ord=true) (hcomp:CompD P E.rn ops ord) :
 ∀ (fuel:Nat) (listed:Array Bool) (G:Gh) (m:Mu) (s:St) (a:Act) (w:World),listed.size=ops.size→ClosedDn ops.toList (dnOf listed)→(ord.filter fun d=>!dnOf listed d.i).length≤fuel→
 Inv E B G m s a w→(∀ d∈ord,∀ k,d.al=some k→dnOf listed d.i=false→s.hp.obs[base+k]? = some .dead)→drawW call base (rem (dnOf listed) ord) s post→
 (∀ s' a' w' G' m',post s'→Inv E B G' m' s' a' w'→Mv B G m s.hp s.lc w G' m' s'.hp s'.lc w'→Q .normal a' w')→wpAny P .any ops Q fuel listed a w:=by
 have hok':=hok
 simp only [drawOk,Bool.and_eq_true] at hok'
 obtain ⟨⟨⟨⟨k1,k2⟩,k3⟩,k4⟩,_⟩:=hok'
 have hin:∀ d∈ord,∃ o,ops[d.i]? = some o:=by
  intro d hd
  have:=(hcomp d hd).1
  rw [Option.bind_eq_some_iff] at this
  obtain ⟨o,ho,_⟩:=this
  exact ⟨o,ho⟩
 have hpreds:∀ d∈ord,∀ o,ops[d.i]? = some o→∀ p∈predsOf o,p<ops.size∧p≠d.i:=by
  intro d hd o ho p hp
  have h1:=List.all_eq_true.mp k1 d hd
  simp only [Bool.and_eq_true] at h1
  have h2:predsAt ops.toList d.i=predsOf o:=by simp [predsAt,ho]
  rw [h2] at h1
  have:=List.all_eq_true.mp h1.2 p hp
  simp only [Bool.and_eq_true,decide_eq_true_eq,bne_iff_ne] at this
  exact this
 have hfind:∀ j,j<ops.size→∃ d∈ord,d.i=j:=by
  intro j hj
  have:=List.all_eq_true.mp k2 j (by simpa using hj)
  obtain ⟨d,h1,h2⟩:=List.any_eq_true.mp this
  exact ⟨d,h1,by simpa using h2⟩
 have hnil:∀ (listed:Array Bool) (s:St),listed.size=ops.size→Region.ready .any ops listed=[]→drawW call base (rem (dnOf listed) ord) s post→post s:=by
  intro listed s hsz hr hk
  cases hF:(ord.filter fun d=>!dnOf listed d.i) with
  | nil=>
   unfold rem at hk
   rw [hF] at hk
   exact hk
  | cons d A2=>
   exfalso
   have hmem:∀ x∈d::A2,x∈ord∧dnOf listed x.i=false:=by
    intro x hx
    rw [←hF,List.mem_filter] at hx
    exact ⟨hx.1,by simpa using hx.2⟩
   obtain ⟨hd,hdn⟩:=hmem d (by simp)
   obtain ⟨o,ho⟩:=hin d hd
   have hrd:d.i∈Region.ready .any ops listed:=by
    rw [mem_ready]
    refine ⟨hdn,o,ho,fun e he hb=>?_⟩
    have hp:e.on∈predsOf o:=by
     simp only [predsOf,List.mem_map,List.mem_filter,Array.mem_toList_iff]
     exact ⟨e,⟨he,hb⟩,rfl⟩
    obtain ⟨hlt,hne⟩:=hpreds d hd o ho _ hp
    rw [getD_dn (by omega)]
    cases hx:dnOf listed e.on with
    | true=>rfl
    | false=>
     exfalso
     obtain ⟨d',hd',hi'⟩:=hfind e.on hlt
     have hmem':d'∈d::A2:=by
      rw [←hF,List.mem_filter]
      exact ⟨hd',by rw [hi',hx];rfl⟩
     rcases List.mem_cons.mp hmem' with rfl|h
     ·exact hne hi'.symm
     ·have hP:=(pairs_spec k3).filter (fun d=>!dnOf listed d.i)
      rw [hF] at hP
      have:=(List.pairwise_cons.mp hP).1 d' h
      simp only [pairOk,Bool.and_eq_true,Bool.not_eq_true'] at this
      have h2:predsAt ops.toList d.i=predsOf o:=by simp [predsAt,ho]
      rw [h2,hi'] at this
      have h3:=this.1.2
      rw [List.contains_iff_mem.mpr hp] at h3
      cases h3
   rw [hr] at hrd
   cases hrd
 intro fuel
 induction fuel with
 | zero=>
  intro listed G m s a w hsz hcl hlen hI hdead hk hQ
  have hF:(ord.filter fun d=>!dnOf listed d.i)=[]:=List.eq_nil_of_length_eq_zero (Nat.le_zero.mp hlen)
  have hr:Region.ready .any ops listed=[]:=by
   cases hr:Region.ready .any ops listed with
   | nil=>rfl
   | cons i l=>
    exfalso
    have hi:i∈Region.ready .any ops listed:=by rw [hr];simp
    obtain ⟨h1,o,ho,_⟩:=mem_ready.1 hi
    obtain ⟨d,hd,rfl⟩:=hfind i (Array.getElem?_eq_some_iff.1 ho).1
    have:d∈ord.filter fun d=>!dnOf listed d.i:=by rw [List.mem_filter];exact ⟨hd,by simp [dnOf,h1]⟩
    rw [hF] at this
    cases this
  exact ⟨hr,hQ s a w G m (hnil listed s hsz hr hk) hI Mv.refl⟩
 | succ fuel ih=>
  intro listed G m s a w hsz hcl hlen hI hdead hk hQ
  refine ⟨fun hr=>hQ s a w G m (hnil listed s hsz hr hk) hI Mv.refl,fun i hi=>?_⟩
  obtain ⟨h1,o,ho,hall⟩:=mem_ready.1 hi
  have hlt:=(Array.getElem?_eq_some_iff.1 ho).1
  obtain ⟨d,hd,rfl⟩:=hfind i hlt
  have hrdy:∀ p∈predsOf o,dnOf listed p=true:=by
   intro p hp
   obtain ⟨hpl,_⟩:=hpreds d hd o ho p hp
   simp only [predsOf,List.mem_map,List.mem_filter,Array.mem_toList_iff] at hp
   obtain ⟨e,⟨he,hb⟩,rfl⟩:=hp
   rw [←getD_dn (by omega) false]
   exact hall e he hb
  have hmem:d∈ord.filter fun d=>!dnOf listed d.i:=by rw [List.mem_filter];exact ⟨hd,by simp [dnOf,h1]⟩
  obtain ⟨A,A2,hF⟩:=List.append_of_mem hmem
  have hstep:=pull hm hc hf hok hcomp hcl hF ho hrdy hdead hk
  have hr:=(hcomp d hd).1
  rw [ho,Option.bind_some] at hr
  have hwp:=stepD_wp (P:=P) (Q:=Q) (next:=wpAny P .any ops Q fuel (listed.setIfInBounds d.i true)) hI hr hcall hstep ?_
  ·unfold wpOp
   simp only [ho]
   split
   ·rename_i hw;rw [if_pos hw] at hwp;exact .inl hwp
   ·rename_i hw;rw [if_neg hw] at hwp;exact hwp
  ·rintro s' a' w' G' m' ⟨g1,g2⟩ g3 g4
   have hfun:dnOf (listed.setIfInBounds d.i true)=fun j=>dnOf listed j || j == d.i:=by
    funext j
    exact dnOf_set listed d.i j
   refine ih _ G' m' s' a' w' (by simp [hsz]) (closed_set hsz hcl ho hrdy) ?_ g3 ?_ ?_ ?_
   ·rw [hfun]
    have e1:(ord.filter fun x=>!(dnOf listed x.i || x.i == d.i))=(ord.filter fun x=>!dnOf listed x.i).filter fun x=>!(x.i == d.i):=by
     rw [List.filter_filter]
     congr 1
     funext x
     cases dnOf listed x.i <;> cases (x.i == d.i) <;> rfl
    rw [e1,hF]
    rw [hF] at hlen
    have hd0:(!(d.i == d.i))=false:=by simp
    rw [List.filter_append,List.filter_cons,hd0]
    have l1:=List.length_filter_le (fun x:DI=>!(x.i == d.i)) A
    have l2:=List.length_filter_le (fun x:DI=>!(x.i == d.i)) A2
    simp only [List.length_append,List.length_cons,Bool.false_eq_true,if_false] at hlen ⊢
    omega
   ·intro d' hd' k hk hdn
    rw [dnOf_set] at hdn
    exact g2 d' hd' k hk hdn
   ·rw [hfun];exact g1
   ·intro s2 a2 w2 G2 m2 q1 q2 q3
    exact hQ s2 a2 w2 G2 m2 q1 q2 (g4.trans q3)
theorem reserve_inv (hI:Inv E B G m s a w) (n:Nat) {w1:World} (he:w1.heap=w.heap):Inv E B G m { s with hp:={ s.hp with obs:=s.hp.obs++List.replicate n .dead } } a w1:=by
 have hget:∀ id o,({ s.hp with obs:=s.hp.obs++List.replicate n .dead }:Hp).f id=some o→s.hp.f id=some o∨(o = .dead∧s.hp.obs.length≤id):=by
  intro id o h
  simp only [Hp.f,List.getElem?_append,List.getElem?_replicate] at h ⊢
  split at h
  ·exact .inl h
  ·rename_i hl
   split at h
   ·injection h with h;exact .inr ⟨h.symm,by omega⟩
   ·cases h
 have hown:∀ b,Owned G ({ s.hp with obs:=s.hp.obs++List.replicate n .dead }:Hp).f b→Owned G s.hp.f b:=by
  rintro b ⟨id,o,wr,h1,h2⟩
  rcases hget id o h1 with h|⟨rfl,_⟩
  ·exact ⟨id,o,wr,h,h2⟩
  ·exact h2.elim
 refine ⟨hI.tm,⟨?_,?_,by rw [he];exact hI.hp.size⟩,?_,?_,hI.freem,hI.noDef,hI.size⟩
 ·intro id o h
  rcases hget id o h with h|⟨rfl,_⟩
  ·exact (hI.hp.each id o h).same he
  ·trivial
 ·intro i j oi oj b wi wj h1 h2 h3 h4 h5
  rcases hget i oi h1 with h1|⟨rfl,_⟩
  ·rcases hget j oj h2 with h2|⟨rfl,_⟩
   ·exact hI.hp.apart i j oi oj b wi wj h1 h2 h3 h4 h5
   ·exact h4.elim
  ·exact h3.elim
 ·refine ⟨?_,hI.lc.inj⟩
  intro k cs h
  obtain ⟨b,vs,el,fz,k1,k2,k3,k4,k5,k6⟩:=hI.lc.each k cs h
  exact ⟨b,vs,el,fz,k1,by rw [he];exact k2,k3,k4,fun h=>k5 (hown b h),k6⟩
 ·intro id hid
  rcases hid with hid|hid
  ·rcases hget id _ hid with h|⟨_,h⟩
   ·exact hI.free id (.inl h)
   ·exact hI.free id (.inr h)
  ·simp only [List.length_append,List.length_replicate] at hid
   exact hI.free id (.inr (by omega))
theorem reserve_mv (hI:Inv E B G m s a w) (n:Nat) {w1:World} (he:w1.heap=w.heap) (ho:w1.os=w.os) (ht:w1.tape=w.tape) (hu:w1.output=w.output) :
 Mv B G m s.hp s.lc w G m { s.hp with obs:=s.hp.obs++List.replicate n .dead } s.lc w1:=by
 have hget:∀ id o,({ s.hp with obs:=s.hp.obs++List.replicate n .dead }:Hp).f id=some o→s.hp.f id=some o∨(o = .dead∧s.hp.obs.length≤id):=by
  intro id o h
  simp only [Hp.f,List.getElem?_append,List.getElem?_replicate] at h ⊢
  split at h
  ·exact .inl h
  ·rename_i hl
   split at h
   ·injection h with h;exact .inr ⟨h.symm,by omega⟩
   ·cases h
 refine ⟨Ext.refl _ _,⟨ho,ht,hu,by rw [he];exact Nat.le_refl _,fun b _ _=>by rw [he]⟩,?_,fun b h=>.inl h,by simp,?_⟩
 ·rintro b ⟨id,o,wr,h1,h2⟩
  rcases hget id o h1 with h|⟨rfl,_⟩
  ·exact .inl ⟨id,o,wr,h,h2⟩
  ·exact h2.elim
 ·intro id h
  rcases hget id _ h with h|⟨_,h⟩
  ·exact ⟨.inl h,rfl,rfl⟩
  ·exact ⟨.inr h,rfl,rfl⟩
def DJ (P:Program) (rn:FuncId→Nat) (ops:Array Oper) (nal:Nat) (ord:List DI):Prop:=CompD P rn ops ord∧drawOk ops nal ord=true
theorem draws_ok (hmix:P.follows .mixedOrders=true) (hm:call.Mono) (hc:call.Real) (hf:call.Framed) (hcall:CallsOk P E B call):DrawsOk P E B call (DJ P E.rn):=by
 rintro ops nal ord id ⟨hcomp,hok⟩ G m s a w post hI hk Q hQ
 refine wp_region_any hmix ?_
 have hI':=reserve_inv hI nal (w1:={ w with drawn:=w.drawn+1 }) rfl
 have hMv:=reserve_mv hI nal (w1:={ w with drawn:=w.drawn+1 }) rfl rfl rfl rfl
 have hdn:∀ d∈ord,dnOf (Array.replicate ops.size false) d.i=false:=by
  intro d hd
  have:=(hcomp d hd).1
  rw [Option.bind_eq_some_iff] at this
  obtain ⟨o,ho,_⟩:=this
  have hlt:=(Array.getElem?_eq_some_iff.1 ho).1
  simp [dnOf,hlt]
 have hall:(ord.filter fun d=>!dnOf (Array.replicate ops.size false) d.i)=ord:=List.filter_eq_self.mpr (fun d hd=>by rw [hdn d hd];rfl)
 have hchk:∀ d∈ord,cut (dnOf (Array.replicate ops.size false)) d=d:=by
  intro d hd
  have:(d.chk.filter fun c=>!dnOf (Array.replicate ops.size false) c.1)=d.chk:=by
   refine List.filter_eq_self.mpr (fun c hc=>?_)
   have:=(hcomp d hd).2 c hc
   rw [Option.bind_eq_some_iff] at this
   obtain ⟨o,ho,_⟩:=this
   have hlt:=(Array.getElem?_eq_some_iff.1 ho).1
   simp [dnOf,hlt]
  simp only [cut,this]
 have hrem:rem (dnOf (Array.replicate ops.size false)) ord=ord:=by
  unfold rem
  rw [hall,List.map_congr_left hchk,List.map_id']
 have hlen:ord.length≤ops.size:=by
  have hok':=hok
  simp only [drawOk,Bool.and_eq_true] at hok'
  simpa using hok'.2
 refine draw_any (base:=s.hp.obs.length) (post:=post) hm hc hf hcall hok hcomp _ _ G m _ a _ (by simp) ?_ ?_ hI' ?_ ?_ ?_
 ·intro j o ho hd
  exfalso
  have hlt:j<ops.size:=by
   have h1:ops[j]? = some o:=by simpa using ho
   exact (Array.getElem?_eq_some_iff.1 h1).1
  simp [dnOf,hlt] at hd
 ·rw [hall];exact hlen
 ·intro d hd k hk' _
  have hok':=hok
  simp only [drawOk,Bool.and_eq_true] at hok'
  have:=List.all_eq_true.mp hok'.1.1.1.1 d hd
  rw [hk'] at this
  simp only [Bool.and_eq_true,decide_eq_true_eq] at this
  rw [List.getElem?_append_right (by omega)]
  simp [List.getElem?_replicate]
  omega
 ·rw [hrem];exact hk
 ·intro s' a' w' G' m' h1 h2 h3
  exact hQ s' a' w' G' m' h1 h2 (hMv.trans h3)
end
end
end Camp
