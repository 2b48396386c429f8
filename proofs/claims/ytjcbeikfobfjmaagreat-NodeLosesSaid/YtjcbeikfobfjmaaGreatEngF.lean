/- What came in, as the machine's values and objects. From a claim on the machine to a law's contract. Code compiled whole, beside its given skeleton. -/
import Derived.Test.YtjcbeikfobfjmaaGreatEngE
import Derived.ChangeArms
import GoSem.ClaimChange
import Derived.Below
import Derived.ChangeSame
import Derived.ProofKit
import Derived.KernelRfl
set_option linter.unnecessarySimpa false
set_option linter.unusedVariables false
set_option linter.unusedSimpArgs false
set_option linter.unusedSectionVars false
namespace Camp
open Go Go.RowKit
section
inductive Sc where
 | int (k:IntKind)
 | bool
 | str
 | sl (e:List Sc)
def flatFields (P:Program) (r:TypeId→Option (List Sc)):Nat→List Field→Option (List Sc)
 | _,[]=>some []
 | off,f::fs=>(r f.type).bind fun a=>if f.offset=off∧P.cellsOf f.type=a.length then (flatFields P r (off+a.length) fs).map (a++·) else none
def flatOf (P:Program):Nat→TypeId→Option (List Sc)
 | 0,_=>none
 | n+1,t=>match P.underlying t with
  | some .bool=>some [.bool]
  | some (.int k)=>some [.int k]
  | some .string=>some [.str]
  | some (.slice e)=>(flatOf P n e).bind fun f=>if P.cellsOf e=f.length∧0<f.length then some [.sl f] else none
  | some (.struct fs)=>(flatFields P (flatOf P n) 0 fs.toList).bind fun f=>if P.cellsOf t=f.length then some f else none
  | _=>none
mutual
inductive WT (hp:Hp):List Sc→List CV→Nat→Prop
 | nil:WT hp [] [] 0
 | int {k:IntKind} {n:Int} {s:List Sc} {cs:List CV} {b:Nat}:(Lit.int k n).wf=true→WT hp s cs b→WT hp (.int k::s) (.int k n::cs) (b+1)
 | bool {x:Bool} {s:List Sc} {cs:List CV} {b:Nat}:WT hp s cs b→WT hp (.bool::s) (.bool x::cs) (b+1)
 | str {x:ByteArray} {s:List Sc} {cs:List CV} {b:Nat}:WT hp s cs b→WT hp (.str::s) (.str x::cs) (b+x.size+1)
 | nils {e:List Sc} {s:List Sc} {cs:List CV} {b:Nat}:WT hp s cs b→WT hp (.sl e::s) (.nils::cs) (b+1)
 | sl {e:List Sc} {id n c:Nat} {rows:List (List CV)} {s:List Sc} {cs:List CV} {b:Nat}:hp.obs[id]? = some (.rows false e.length 0 0 rows)→n≤rows.length→WTR hp e rows c→WT hp s cs b→
  WT hp (.sl e::s) (.sl id 0 0 n (some rows.length)::cs) (b+c+1)
inductive WTR (hp:Hp):List Sc→List (List CV)→Nat→Prop
 | nil {e:List Sc}:WTR hp e [] 0
 | cons {e:List Sc} {r:List CV} {rs:List (List CV)} {a b:Nat}:WT hp e r a→WTR hp e rs b→WTR hp e (r::rs) (a+b)
end
def Grows (h h':Hp):Prop:=∀ (id:Nat) (o:AO),h.obs[id]? = some o→h'.obs[id]? = some o
theorem Grows.refl (h:Hp):Grows h h:=fun _ _ e=>e
theorem Grows.trans {a b c:Hp} (h:Grows a b) (k:Grows b c):Grows a c:=fun id o e=>k id o (h id o e)
theorem Grows.len {a b:Hp} (h:Grows a b):a.obs.length≤b.obs.length:=by
 rcases Nat.lt_or_ge b.obs.length a.obs.length with hl|hl
 ·have:=h b.obs.length _ (List.getElem?_eq_getElem hl)
  simp at this
 ·exact hl
theorem Grows.push (h:Hp) (o:AO):Grows h (h.push o):=by
 intro id o' e
 simp only [Hp.push,List.getElem?_append]
 have:id<h.obs.length:=by
  rcases Nat.lt_or_ge id h.obs.length with h'|h'
  ·exact h'
  ·rw [List.getElem?_eq_none h'] at e;cases e
 rw [if_pos this]
 exact e
theorem WT.mono {h h':Hp} (g:Grows h h') {s:List Sc} {cs:List CV} {b:Nat} (k:WT h s cs b):WT h' s cs b:=
 WT.rec (motive_1:=fun s cs b _=>WT h' s cs b) (motive_2:=fun e rs b _=>WTR h' e rs b) .nil (fun w _ i=>.int w i) (fun _ i=>.bool i) (fun _ i=>.str i) (fun _ i=>.nils i)
  (fun e l _ _ i j=>.sl (g _ _ e) l i j) .nil (fun _ _ i j=>.cons i j) k
theorem WTR.mono {h h':Hp} (g:Grows h h') {e:List Sc} {rs:List (List CV)} {b:Nat} (k:WTR h e rs b):WTR h' e rs b:=by
 induction rs generalizing b with
 | nil=>cases k;exact .nil
 | cons r rs ih=>cases k with|cons k1 k2=>exact .cons (k1.mono g) (ih k2)
theorem WT.append {h:Hp} {s:List Sc} {cs:List CV} {b:Nat} {s':List Sc} {cs':List CV} {b':Nat} (k:WT h s cs b) (k':WT h s' cs' b'):WT h (s++s') (cs++cs') (b+b'):=by
 induction s generalizing cs b with
 | nil=>cases k;simpa using k'
 | cons x s ih=>
  cases k with
  | int w k=>have:=WT.int w (ih k);rwa [show ∀ b,b+b'+1=b+1+b' by omega] at this
  | bool k=>rename_i x _ _;have:=WT.bool (x:=x) (ih k);rwa [show ∀ b,b+b'+1=b+1+b' by omega] at this
  | str k=>rename_i x _ _;have:=WT.str (x:=x) (ih k);rwa [show ∀ b,b+b'+x.size+1=b+x.size+1+b' by omega] at this
  | nils k=>rename_i e _ _;have:=WT.nils (e:=e) (ih k);rwa [show ∀ b,b+b'+1=b+1+b' by omega] at this
  | sl h1 h2 h3 k=>rename_i _ _ c _ _ _;have:=WT.sl h1 h2 h3 (ih k);rwa [show ∀ b,b+b'+c+1=b+c+1+b' by omega] at this
theorem WT.length {h:Hp} {s:List Sc} {cs:List CV} {b:Nat} (k:WT h s cs b):cs.length=s.length:=by
 induction s generalizing cs b with
 | nil=>cases k;rfl
 | cons x s ih=>cases k <;> simp [ih ‹WT h s _ _›]
mutual
def bulkD {H:Type}:DataW H→Nat
 | .lit (.string bytes)=>bytes.length+1
 | .lit _=>1
 | .nil=>1
 | .ptr d=>bulkD d+1
 | .slice elems spare=>bulkA elems+bulkA spare+1
 | .agg parts=>bulkA parts+1
 | .iface _ d=>bulkD d+1
 | .map entries=>bulkE entries+1
 | .held _=>1
def bulkA {H:Type}:List (DataW H)→Nat
 | []=>0
 | d::r=>bulkD d+bulkA r
def bulkE {H:Type}:List (Lit × DataW H)→Nat
 | []=>0
 | x::r=>bulkK x+bulkE r
def bulkK {H:Type}:Lit × DataW H→Nat
 | (.string bytes,d)=>bytes.length+bulkD d+1
 | (_,d)=>bulkD d+1
end
theorem bulkA_append {H:Type} (a b:List (DataW H)):bulkA (a++b)=bulkA a+bulkA b:=by
 induction a with
 | nil=>simp [bulkA]
 | cons x a ih=>simp only [List.cons_append,bulkA,ih];omega
structure Rd (E:Env) (G:Gh) (hp:Hp) (W:World):Prop where
 rh:RH E G W.heap.size hp.f W
 top:Top G hp
 ro:∀ id o,hp.f id=some o→∃ sz rs,o = .rows false sz 0 0 rs
def Dum (W:World):Prop:=∃ (b:Nat) (cs:Array Value) (el:TypeId) (fz:Nat × Nat),W.heap[b]? = some (.cells cs el fz)
theorem rd_push {E:Env} {G:Gh} {hp:Hp} {W:World} (h:Rd E G hp W) {sz:Nat} {r:Rec} {rs:List (List CV)} (hn:r.n=rs.length)
 (hrow:RowsAt E G W.heap.size W false sz r rs):Ext G (gRows G hp.obs.length r) (hp.obs.length+1)∧Rd E (gRows G hp.obs.length r) (hp.push (.rows false sz 0 0 rs)) W:=by
 have hfree:=h.top hp.obs.length (.inr (Nat.le_refl _))
 have hx:=gRows_ext hfree.1 r
 have hg:∀ tok,(gRows G hp.obs.length r).rows hp.obs.length tok=if tok=0 then some r else none:=by intro tok;simp [gRows]
 have hget:∀ id o,(hp.push (.rows false sz 0 0 rs)).f id=some o→(id<hp.obs.length∧hp.f id=some o)∨(id=hp.obs.length∧o = .rows false sz 0 0 rs):=by
  intro id o e
  simp only [Hp.f,Hp.push,List.getElem?_append] at e
  split at e
  ·exact .inl ⟨‹_›,e⟩
  ·rename_i hl
   cases hk:id-hp.obs.length with
   | zero=>rw [hk] at e;simp at e;exact .inr ⟨by omega,e.symm⟩
   | succ k=>rw [hk] at e;simp at e
 have hro:∀ id o,(hp.push (.rows false sz 0 0 rs)).f id=some o→∃ sz rs,o = .rows false sz 0 0 rs:=by
  intro id o e
  rcases hget id o e with ⟨_,h1⟩|⟨_,rfl⟩
  ·exact h.ro id o h1
  ·exact ⟨_,_,rfl⟩
 refine ⟨hx,⟨?_,?_,h.rh.size⟩,?_,hro⟩
 ·intro id o e
  rcases hget id o e with ⟨hl,h1⟩|⟨rfl,rfl⟩
  ·exact RO.mono hx (by funext tok;simp [gRows,Nat.ne_of_lt hl]) rfl (fun _ _ _=>rfl) (h.rh.each id o h1)
  ·simp only [RO]
   refine ⟨Nat.le_refl _,⟨r,by rw [hg];simp,hn⟩,?_,?_,?_⟩
   ·intro tok r' e;rw [hg] at e;split at e <;> simp at e;omega
   ·intro tok r' _ e
    rw [hg] at e;split at e <;> simp at e
    subst e
    obtain ⟨cs,el,fz,k1,k2,k3,k4⟩:=hrow.cells
    refine ⟨hrow.size,hrow.len,hrow.lo,hrow.fit,hrow.width,cs,el,fz,k1,k2,k3,?_⟩
    intro i row j x a1 a2 a3 a4
    obtain ⟨v,v1,v2⟩:=k4 i row j x a1 a2 a3 a4
    exact ⟨v,v1,RC.ext hx v2⟩
   ·intro t1 t2 r1 r2 _ _ e1 e2 _
    rw [hg] at e1 e2;split at e1 <;> simp at e1;split at e2 <;> simp at e2
    subst e1 e2
    exact ⟨rfl,rfl,rfl⟩
 ·intro i j oi oj b wi wj h1 h2 h3 h4 _
  obtain ⟨_,_,rfl⟩:=hro i oi h1
  obtain ⟨_,_,rfl⟩:=hro j oj h2
  exact ⟨h3.1.symm,h4.1.symm⟩
 ·intro id hid
  have:id≠hp.obs.length∧((hp.f id=some .dead)∨hp.obs.length≤id):=by
   rcases hid with hid|hid
   ·obtain ⟨_,_,e⟩:=hro id _ hid
    cases e
   ·simp [Hp.push] at hid
    exact ⟨by omega,.inr (by omega)⟩
  obtain ⟨k1,k2⟩:=h.top id this.2
  exact ⟨fun tok=>by simp [gRows,this.1,k1 tok],k2⟩
section
variable {H:Type} {enc:TypeId × Value→H} {P:Program} {E:Env} {W:World}
def Built (E:Env) (W:World) (G:Gh) (hp:Hp) (fl:List Sc) (cs:List Value) (bd:Nat):Prop:=
 ∃ G' hp' acs b,Ext G G' hp'.obs.length∧Grows hp hp'∧Rd E G' hp' W∧RL E G' acs cs∧WT hp' fl acs b∧b≤bd
theorem Ext.widen {G G':Gh} {a b:Nat} (h:Ext G G' a) (k:a≤b):Ext G G' b:=⟨h.rows,h.obj,fun id hid=>h.above id (Nat.le_trans k hid)⟩
theorem built_fields {n:Nat} {r:TypeId→Option (List Sc)} {cs:List Value} (ih:∀ t cs x fl G hp,DataW.trod enc P W 0 (fun _=>true) true n t cs=some x→r t=some fl→((∃ a,Value.slice (some a) 0 0∈cs)→Dum W)→Rd E G hp W→Built E W G hp fl cs (bulkD x.1))
 (hd:(∃ a,Value.slice (some a) 0 0∈cs)→Dum W):∀ (fs:List Field) (off:Nat) (fl:List Sc) (xs:List (DataW H × List MemPlace)) (G:Gh) (hp:Hp),flatFields P r off fs=some fl→xs.length=fs.length→off+fl.length≤cs.length→
 (∀ (i:Nat) (f:Field),fs[i]? = some f→DataW.trod enc P W 0 (fun _=>true) true n f.type ((cs.drop f.offset).take (P.cellsOf f.type))=xs[i]?)→Rd E G hp W→Built E W G hp fl ((cs.drop off).take fl.length) (bulkA (xs.map (·.1)))
 | [],off,fl,xs,G,hp,h,_,_,_,hr=>by
  simp only [flatFields,Option.some.injEq] at h
  subst h
  exact ⟨G,hp,[],0,Ext.refl _ _,Grows.refl _,hr,by simp [RL],.nil,Nat.zero_le _⟩
 | f::fs,off,fl,xs,G,hp,h,hl,hfit,hx,hr=>by
  simp only [flatFields,Option.bind_eq_some_iff] at h
  obtain ⟨a,h1,h2⟩:=h
  split at h2
  rotate_left
  ·cases h2
  rename_i hc
  obtain ⟨ho,hs⟩:=hc
  simp only [Option.map_eq_some_iff] at h2
  obtain ⟨b,h3,rfl⟩:=h2
  cases xs with
  | nil=>simp at hl
  | cons x xs=>
   have hx0:=hx 0 f rfl
   simp only [List.getElem?_cons_zero] at hx0
   have hsub:∀ v,v∈(cs.drop f.offset).take (P.cellsOf f.type)→v∈cs:=fun v hv=>List.mem_of_mem_drop (List.mem_of_mem_take hv)
   obtain ⟨G1,hp1,acs1,b1,e1,g1,r1,l1,w1,q1⟩:=ih f.type _ x a G hp hx0 h1 (fun ⟨ad,had⟩=>hd ⟨ad,hsub _ had⟩) hr
   simp only [List.length_append] at hfit
   obtain ⟨G2,hp2,acs2,b2,e2,g2,r2,l2,w2,q2⟩:=built_fields ih hd fs (off+a.length) b xs G1 hp1 h3 (by simpa using hl) (by omega) (fun i g hg=>by simpa using hx (i+1) g (by simpa using hg)) r1
   refine ⟨G2,hp2,acs1++acs2,b1+b2,e1.trans e2 (Grows.len g2),g1.trans g2,r2,?_,(w1.mono g2).append w2,?_⟩
   ·have:=(RL.ext e2 l1).append l2
    rw [ho,hs] at this
    have hsplit:(cs.drop off).take (a++b).length=(cs.drop off).take a.length++(cs.drop (off+a.length)).take b.length:=by
     rw [List.length_append,List.take_add,List.drop_drop]
    rw [hsplit]
    exact this
   ·simp only [List.map_cons,bulkA]
    omega
theorem cells_get {w:World} {a:Addr} {n:Nat} {cs:List Value} (h:w.cells? 0 a n=some cs):cs.length=n∧∀ i,i<n→w.cell? (a.add i)=cs[i]?:=by
 unfold World.cells? at h
 rw [if_pos (Nat.zero_le _)] at h
 exact ⟨by simpa using mapM_some_length h,fun i hi=>mapM_some_get h i i (by simp [hi])⟩
theorem cell_block {w:World} {a:Addr} {v:Value} (h:w.cell? a=some v):a.spot=none∧∃ cs el fz,w.heap[a.block]? = some (.cells cs el fz)∧cs[a.off]? = some v:=by
 unfold World.cell? at h
 split at h
 ·rename_i c el fz he
  split at h
  ·cases h
  ·rename_i hs
   exact ⟨by cases hx:a.spot <;> simp_all,c,el,fz,he,h⟩
 ·cases h
theorem add_none (b o i:Nat):(⟨b,o,none⟩:Addr).add i=⟨b,o+i,none⟩:=by
 unfold Addr.add
 split
 ·rename_i h;subst h;rfl
 ·rfl
theorem built_rows {n:Nat} {e:TypeId} {fe:List Sc} (ih:∀ t cs x fl G hp,DataW.trod enc P W 0 (fun _=>true) true n t cs=some x→t=e→fl=fe→((∃ a,Value.slice (some a) 0 0∈cs)→Dum W)→Rd E G hp W→Built E W G hp fl cs (bulkD x.1)) (hd:Dum W) :
 ∀ (css:List (List Value)) (xs:List (DataW H × List MemPlace)) (G:Gh) (hp:Hp),xs.length=css.length→(∀ (i:Nat) (c:List Value),css[i]? = some c→DataW.trod enc P W 0 (fun _=>true) true n e c=xs[i]?)→Rd E G hp W→
 ∃ G' hp' rows b,Ext G G' hp'.obs.length∧Grows hp hp'∧Rd E G' hp' W∧rows.length=css.length∧(∀ (i:Nat) (c:List Value) (row:List CV),css[i]? = some c→rows[i]? = some row→RL E G' row c)∧WTR hp' fe rows b∧b≤bulkA (xs.map (·.1))
 | [],xs,G,hp,_,_,hr=>⟨G,hp,[],0,Ext.refl _ _,Grows.refl _,hr,rfl,fun i c row h=>by simp at h,.nil,Nat.zero_le _⟩
 | c::css,xs,G,hp,hl,hx,hr=>by
  cases xs with
  | nil=>simp at hl
  | cons x xs=>
   have hx0:=hx 0 c rfl
   simp only [List.getElem?_cons_zero] at hx0
   obtain ⟨G1,hp1,acs1,b1,e1,g1,r1,l1,w1,q1⟩:=ih e c x fe G hp hx0 rfl rfl (fun _=>hd) hr
   obtain ⟨G2,hp2,rows,b2,e2,g2,r2,k1,k2,w2,q2⟩:=built_rows ih hd css xs G1 hp1 (by simpa using hl) (fun i g hg=>by simpa using hx (i+1) g (by simpa using hg)) r1
   refine ⟨G2,hp2,acs1::rows,b1+b2,e1.trans e2 (Grows.len g2),g1.trans g2,r2,by simp [k1],?_,.cons (w1.mono g2) w2,by simp only [List.map_cons,bulkA];omega⟩
   intro i c' row h1 h2
   cases i with
   | zero=>simp at h1 h2;subst h1 h2;exact RL.ext e2 l1
   | succ i=>simp at h1 h2;exact k2 i c' row h1 h2
theorem rl_one {G:Gh} {x:CV} {v:Value} (h:RC E G x v):RL E G [x] [v]:=by simp only [RL];exact ⟨v,[],rfl,h,rfl⟩
theorem built:∀ (n:Nat) (m:Nat) (t:TypeId) (cs:List Value) (x:DataW H × List MemPlace) (fl:List Sc) (G:Gh) (hp:Hp),DataW.trod enc P W 0 (fun _=>true) true n t cs=some x→flatOf P m t=some fl→
 ((∃ a,Value.slice (some a) 0 0∈cs)→Dum W)→Rd E G hp W→Built E W G hp fl cs (bulkD x.1)
 | 0,m,t,cs,x,fl,G,hp,h,_,_,_=>by simp [DataW.trod] at h
 | n+1,0,t,cs,x,fl,G,hp,h,hf,_,_=>by simp [flatOf] at hf
 | n+1,m+1,t,cs,x,fl,G,hp,h,hf,hd,hr=>by
  unfold flatOf at hf
  split at hf
  ·rename_i hu
   injection hf with hf;subst hf
   obtain ⟨b,rfl,rfl⟩:=DataW.trod_bool hu h
   exact ⟨G,hp,[.bool b],1,Ext.refl _ _,Grows.refl _,hr,rl_one (by simp [RC]),.bool .nil,by simp [bulkD]⟩
  ·rename_i k hu
   injection hf with hf;subst hf
   obtain ⟨z,rfl,rfl,hw⟩:=DataW.trod_int hu h
   exact ⟨G,hp,[.int k z],1,Ext.refl _ _,Grows.refl _,hr,rl_one (by simp [RC]),.int hw .nil,by simp [bulkD]⟩
  ·rename_i hu
   injection hf with hf;subst hf
   obtain ⟨z,rfl,rfl,hw⟩:=DataW.trod_string hu h
   refine ⟨G,hp,[.str z],0+z.size+1,Ext.refl _ _,Grows.refl _,hr,rl_one (by simp [RC]),.str .nil,?_⟩
   simp only [bulkD,Array.length_toList,ByteArray.size]
   omega
  ·rename_i e hu
   simp only [Option.bind_eq_some_iff] at hf
   obtain ⟨fe,hfe,hf⟩:=hf
   split at hf
   rotate_left
   ·cases hf
   rename_i hc
   obtain ⟨hce,hpos⟩:=hc
   injection hf with hf;subst hf
   rcases DataW.trod_slice hu h with ⟨rfl,rfl⟩|⟨a,len,cap,elems,rest,n',hn',rfl,rfl,_,hlc,hcm,hel,h1,h2,_⟩
   ·exact ⟨G,hp,[.nils],1,Ext.refl _ _,Grows.refl _,hr,rl_one (by simp [RC]),.nils .nil,by simp [bulkD]⟩
   ·obtain rfl:n=n':=by omega
    obtain ⟨hrl,h3⟩:=h2 rfl
    have hall:∀ i,i<cap→(W.cells? 0 (a.add (i * P.cellsOf e)) (P.cellsOf e)).bind (DataW.trod enc P W 0 (fun _=>true) true n e)=(elems++rest)[i]?:=by
     intro i hi
     rw [List.getElem?_append]
     split
     ·exact h1 i (by omega)
     ·have:=h3 (i-len) (by omega)
      rw [show len+(i-len)=i by omega] at this
      rw [hel];exact this
    have hlen:(elems++rest).length=cap:=by simp;omega
    have hcss:∃ css:List (List Value),css.length=cap∧∀ i,i<cap→∃ c,css[i]? = some c∧W.cells? 0 (a.add (i * P.cellsOf e)) (P.cellsOf e)=some c∧DataW.trod enc P W 0 (fun _=>true) true n e c=(elems++rest)[i]?:=by
     have each:∀ i,i<cap→∃ c,W.cells? 0 (a.add (i * P.cellsOf e)) (P.cellsOf e)=some c∧DataW.trod enc P W 0 (fun _=>true) true n e c=(elems++rest)[i]?:=by
      intro i hi
      have:=hall i hi
      have hlt:i<(elems++rest).length:=by omega
      rw [List.getElem?_eq_getElem hlt,Option.bind_eq_some_iff] at this
      obtain ⟨c,c1,c2⟩:=this
      exact ⟨c,c1,by rw [List.getElem?_eq_getElem hlt];exact c2⟩
     refine ⟨(List.range cap).map fun i=>if hi:i<cap then (each i hi).choose else [],by simp,fun i hi=>⟨(each i hi).choose,?_,(each i hi).choose_spec⟩⟩
     simp [hi]
    obtain ⟨css,hcl,hcs⟩:=hcss
    by_cases hcap:cap=0
    ·subst hcap
     have hl0:len=0:=by omega
     subst hl0
     obtain ⟨b0,c0,el0,fz0,hb0⟩:=hd ⟨a,by simp⟩
     obtain ⟨p1,p2⟩:=rd_push hr (sz:=fe.length) (r:=⟨b0,0,0,0,fe.length,0⟩) (rs:=[]) rfl ⟨rfl,Nat.le_refl _,Nat.le_refl _,by simp,fun i row _ h=>by simp at h,c0,el0,fz0,hb0,by simp,by simp,fun i row j x _ h=>by simp at h⟩
     refine ⟨_,_,[.sl hp.obs.length 0 0 0 (some 0)],0+0+1,p1.widen (by simp [Hp.push]),Grows.push _ _,p2,rl_one ?_,.sl (rows:=[]) (by simp [Hp.push]) (Nat.le_refl _) .nil .nil,by simp [bulkD]⟩
     simp only [RC]
     exact ⟨⟨b0,0,0,0,fe.length,0⟩,a,0,by simp [gRows],Nat.le_refl _,Nat.le_refl _,rfl,.inr rfl,Nat.le_refl _,by simp⟩
    ·obtain ⟨c00,_,hc00,_⟩:=hcs 0 (by omega)
     have hspot':a.spot=none:=by
      obtain ⟨d1,d2⟩:=cells_get hc00
      have:=d2 0 (by omega)
      rw [List.getElem?_eq_getElem (by omega)] at this
      have h0:(a.add (0 * P.cellsOf e)).add 0=a:=by simp [Addr.add]
      rw [h0] at this
      exact (cell_block this).1
     obtain ⟨ab,ao,asp⟩:=a
     simp only at hspot'
     subst hspot'
     have hcell:∀ i j,i<cap→j<fe.length→∃ c v,css[i]? = some c∧c[j]? = some v∧W.cell? ⟨ab,ao+i * fe.length+j,none⟩=some v:=by
      intro i j hi hj
      obtain ⟨c,c1,c2,_⟩:=hcs i hi
      obtain ⟨d1,d2⟩:=cells_get c2
      have:=d2 j (by omega)
      have hjl:j<c.length:=by omega
      rw [List.getElem?_eq_getElem hjl] at this
      refine ⟨c,c[j],c1,List.getElem?_eq_getElem hjl,?_⟩
      rw [hce] at this
      rw [add_none,add_none] at this
      exact this
     obtain ⟨_,v0,_,_,hv0⟩:=hcell 0 0 (by omega) hpos
     obtain ⟨_,cb,el,fz,hblk',_⟩:=cell_block hv0
     simp only at hblk'
     have hdum:Dum W:=⟨_,_,_,_,hblk'⟩
     have hcb:∀ i j v,W.cell? ⟨ab,ao+i * fe.length+j,none⟩=some v→cb[ao+i * fe.length+j]? = some v:=by
      intro i j v hv
      obtain ⟨_,cb',el',fz',hb',hg'⟩:=cell_block hv
      simp only at hb' hg'
      rw [hblk'] at hb'
      injection hb' with hb'
      injection hb' with t1 t2 t3
      subst t1
      exact hg'
     obtain ⟨G1,hp1,rows,b1,e1,g1,r1,k1,k2,w1,q1⟩:=built_rows (E:=E) (fe:=fe) (e:=e) (n:=n) (fun t cs x fl G hp q1 q2 q3 q4 q5=>by subst q2 q3;exact built n m _ _ _ _ _ _ q1 hfe q4 q5) hdum css (elems++rest) G hp (by omega) (by
      intro i c hc
      have hi:i<cap:=by
       rcases Nat.lt_or_ge i css.length with h'|h'
       ·omega
       ·rw [List.getElem?_eq_none h'] at hc;cases hc
      obtain ⟨c',c1,_,c3⟩:=hcs i hi
      rw [hc] at c1;injection c1 with c1;subst c1
      exact c3) hr
     have hwid:∀ (i:Nat) (row:List CV),rows[i]? = some row→row.length=fe.length:=by
      have:∀ (rs:List (List CV)) (b:Nat),WTR hp1 fe rs b→∀ (i:Nat) (row:List CV),rs[i]? = some row→row.length=fe.length:=by
       intro rs
       induction rs with
       | nil=>intro b _ i row h;simp at h
       | cons r rs ihr=>
        intro b hw i row h
        cases hw with
        | cons hw1 hw2=>
         cases i with
         | zero=>simp at h;subst h;exact hw1.length
         | succ i=>simp at h;exact ihr _ hw2 i row h
      exact this rows b1 w1
     have hsize:ao+cap * fe.length≤cb.size:=by
      obtain ⟨_,v,_,_,hv⟩:=hcell (cap-1) (fe.length-1) (by omega) (by omega)
      have:=hcb _ _ _ hv
      have hlt:ao+(cap-1) * fe.length+(fe.length-1)<cb.size:=(Array.getElem?_eq_some_iff.1 this).1
      have:cap * fe.length=(cap-1) * fe.length+fe.length:=by
       rw [show cap=(cap-1)+1 by omega,Nat.add_mul];simp
      omega
     obtain ⟨p1,p2⟩:=rd_push r1 (sz:=fe.length) (r:=⟨ab,ao,0,cap,fe.length,cap⟩) (rs:=rows) (by simp only;omega) ⟨rfl,by simp only;omega,Nat.zero_le _,by simp,fun i row _ _ h=>hwid i row h,cb,el,fz,hblk',by simpa using hsize,by simp,by
      intro i row j x _ hi hrow hx
      have hrl:=hwid i row hrow
      have hj:j<fe.length:=by
       rcases Nat.lt_or_ge j row.length with h'|h'
       ·omega
       ·rw [List.getElem?_eq_none h'] at hx;cases hx
      obtain ⟨c,v,c1,c2,c3⟩:=hcell i j hi hj
      have:=k2 i c row c1 hrow
      obtain ⟨u1,u2,u3⟩:=this.get hx
      rw [c2] at u2;injection u2 with u2;subst u2
      exact ⟨v,by simpa [Rec.pos] using hcb _ _ _ c3,u3⟩⟩
     refine ⟨_,_,[.sl hp1.obs.length 0 0 len (some rows.length)],0+b1+1,?_,g1.trans (Grows.push _ _),p2,rl_one ?_,.sl (rows:=rows) (by simp [Hp.push]) (by omega) (w1.mono (Grows.push _ _)) .nil,?_⟩
     ·exact (e1.widen (by simp [Hp.push])).trans (p1.widen (by simp [Hp.push])) (Nat.le_refl _)
     ·simp only [RC]
      refine ⟨⟨ab,ao,0,cap,fe.length,cap⟩,⟨ab,ao,none⟩,cap,by simp [gRows],Nat.le_refl _,by simp only;omega,rfl,.inl ?_,hlc,by omega,by simp only;omega⟩
      simp [Rec.pos]
     ·simp only [List.map_append,bulkA_append] at q1
      simp only [bulkD]
      omega
  ·rename_i fs hu
   simp only [Option.bind_eq_some_iff] at hf
   obtain ⟨f,hff,hf⟩:=hf
   split at hf
   rotate_left
   ·cases hf
   rename_i hc
   injection hf with hf;subst hf
   obtain ⟨xs,n',hn',rfl,hlen,hxl,hx⟩:=DataW.trod_struct hu h
   obtain rfl:n=n':=by omega
   have:=built_fields (E:=E) (cs:=cs) (n:=n) (r:=flatOf P m) (fun t cs x fl G hp q1 q2 q3 q4=>built n m t cs x fl G hp q1 q2 q3 q4) hd fs.toList 0 f xs G hp hff (by simpa using hxl) (by omega) (fun i g hg=>hx i g (by simpa using hg)) hr
   rw [List.drop_zero,List.take_of_length_le (by omega)] at this
   obtain ⟨G1,hp1,acs,b,a1,a2,a3,a4,a5,a6⟩:=this
   exact ⟨G1,hp1,acs,b,a1,a2,a3,a4,a5,by simp only [bulkD];omega⟩
  ·cases hf
end
end
end Camp
namespace Camp
open Go Go.RowKit Go.WideShapes Go.ChangeShapes
section
def paramOf (P:Program) (t:TypeId):Option (Bool × List Sc):=(aggOf P t).bind fun ag=>(flatOf P 16 t).map fun f=>(ag,f)
def paramsOf (P:Program):List TypeId→Option (List (Bool × List Sc))
 | []=>some []
 | t::ts=>(paramOf P t).bind fun a=>(paramsOf P ts).map (a::·)
def ArgsWT (hp:Hp):List (Bool × List Sc)→List AV→Nat→Prop
 | [],[],b=>b=0
 | (false,fl)::s,.c x::as,b=>∃ b1 b2,WT hp fl [x] b1∧ArgsWT hp s as b2∧b=b1+b2
 | (true,fl)::s,.agg cs::as,b=>∃ b1 b2,WT hp fl cs b1∧ArgsWT hp s as b2∧b=b1+b2
 | _,_,_=>False
theorem ArgsWT.mono {h h':Hp} (g:Grows h h'):∀ {s:List (Bool × List Sc)} {as:List AV} {b:Nat},ArgsWT h s as b→ArgsWT h' s as b
 | [],[],b,k=>k
 | (false,fl)::s,.c x::as,b,k=>by
  obtain ⟨b1,b2,k1,k2,k3⟩:=k
  exact ⟨b1,b2,k1.mono g,ArgsWT.mono g k2,k3⟩
 | (true,fl)::s,.agg cs::as,b,k=>by
  obtain ⟨b1,b2,k1,k2,k3⟩:=k
  exact ⟨b1,b2,k1.mono g,ArgsWT.mono g k2,k3⟩
section
variable {H:Type} {enc:TypeId × Value→H} {P:Program} {E:Env} {W:World} {B:Nat}
theorem dum_cell {r:Reach} {base:Nat} {t:TypeId} {a:Addr} {l c:Nat} (h:Cell.okWide P W r base t (.slice (some a) l c)):Dum W:=by
 have:∃ e,Cell.ok P W r base t (.slice (some a) l c)∧P.underlying t=some (.slice e):=by
  unfold Cell.okWide at h
  split at h <;> try simp_all
  unfold Cell.ok at h
  split at h <;> simp_all
 obtain ⟨e,h1,h2⟩:=this
 unfold Cell.ok at h1
 simp only [h2] at h1
 obtain ⟨_,_,_,_,row,cells,h3,_⟩:=h1
 unfold World.shape? at h3
 split at h3
 ·rename_i c el fz he
  exact ⟨_,_,_,_,he⟩
 ·cases h3
theorem dum_value {r:Reach} {base:Nat} {t:TypeId} {v:Value} (h:Value.okWide P W r base t v):(∃ a,Value.slice (some a) 0 0∈v.cells.toList)→Dum W:=by
 rintro ⟨a,ha⟩
 unfold Value.okWide at h
 have key:(∃ cs,v = .agg cs∧cs.size=P.cellsOf t∧Row.okWide P W r base t cs)→Dum W:=by
  rintro ⟨cs,rfl,_,ts,_,_,h3⟩
  simp only [Value.cells,Array.mem_toList_iff] at ha
  obtain ⟨i,hi,he⟩:=Array.getElem_of_mem ha
  obtain ⟨u,_,h4⟩:=h3 i _ (by rw [Array.getElem?_eq_getElem hi,he])
  exact dum_cell h4
 split at h
 ·exact key h
 ·exact key h
 ·have hv:v = .slice (some a) 0 0:=by
   cases v <;> simp [Value.cells] at ha
   case agg cs=>
    exfalso
    unfold Cell.okWide at h
    split at h <;> try simp_all
    unfold Cell.ok at h
    split at h <;> simp_all
   case slice=>obtain ⟨rfl,rfl,rfl⟩:=ha;rfl
  subst hv
  exact dum_cell h
theorem agg_value {r:Reach} {base:Nat} {t:TypeId} {v:Value} {ag:Bool} (h:Value.okWide P W r base t v) (ha:aggOf P t=some ag):if ag=true then ∃ cs,v = .agg cs else v.cells.toList=[v]:=by
 unfold aggOf at ha
 unfold Value.okWide at h
 split at ha
 ·injection ha with ha;subst ha
  rename_i hu
  rw [hu] at h
  obtain ⟨cs,h1,_⟩:=h
  exact ⟨cs,h1⟩
 ·injection ha with ha;subst ha
  rename_i hu
  rw [hu] at h
  obtain ⟨cs,h1,_⟩:=h
  exact ⟨cs,h1⟩
 ·injection ha with ha;subst ha
  rename_i h1 h2 hu
  have:∀ cs,v≠.agg cs:=by
   rintro cs rfl
   rw [hu] at h
   split at h
   ·rename_i x fs hx;injection hx with hx;exact h1 _ hx
   ·rename_i x n e hx;injection hx with hx;exact h2 _ _ hx
   ·unfold Cell.okWide at h
    split at h <;> try simp_all
    unfold Cell.ok at h
    split at h <;> simp_all
  cases v <;> first|rfl|exact absurd rfl (this _)
 ·cases ha
theorem built_args:∀ (ts:List TypeId) (vs:List Value) (ds:List (DataW H)) (ps:List MemPlace) (sh:List (Bool × List Sc)) (base:Nat) (G:Gh) (hp:Hp),DataW.TrodAll enc P W 0 (fun _=>true) true ts vs ds ps→paramsOf P ts=some sh→
 (∀ (j:Nat) t v,ts[j]? = some t→vs[j]? = some v→Value.okWide P W .any base t v)→Rd E G hp W→
 ∃ G' hp' as b,Ext G G' hp'.obs.length∧Grows hp hp'∧Rd E G' hp' W∧RAL E G' as vs∧ArgsWT hp' sh as b∧b≤bulkA ds
 | [],[],[],ps,sh,base,G,hp,_,hs,_,hr=>by
  simp only [paramsOf,Option.some.injEq] at hs
  subst hs
  exact ⟨G,hp,[],0,Ext.refl _ _,Grows.refl _,hr,by simp [RAL],rfl,Nat.zero_le _⟩
 | t::ts,v::vs,d::ds,ps,sh,base,G,hp,h,hs,hok,hr=>by
  obtain ⟨p,q,⟨n,h1⟩,h2,rfl⟩:=h
  simp only [paramsOf,Option.bind_eq_some_iff,Option.map_eq_some_iff] at hs
  obtain ⟨a,ha,ss,hss,rfl⟩:=hs
  simp only [paramOf,Option.bind_eq_some_iff,Option.map_eq_some_iff] at ha
  obtain ⟨ag,hag,fl,hfl,rfl⟩:=ha
  have hv:=hok 0 t v rfl rfl
  obtain ⟨G1,hp1,acs,b1,e1,g1,r1,l1,w1,q1⟩:=built (E:=E) n 16 t _ _ fl G hp h1 hfl (dum_value hv) hr
  obtain ⟨G2,hp2,as,b2,e2,g2,r2,l2,w2,q2⟩:=built_args ts vs ds q ss base G1 hp1 h2 hss (fun j t v a b=>hok (j+1) t v (by simpa using a) (by simpa using b)) r1
  have hform:=agg_value hv hag
  have hl:=RL.ext e2 l1
  cases ag with
  | true=>
   simp only [if_true] at hform
   obtain ⟨cs,rfl⟩:=hform
   refine ⟨G2,hp2,.agg acs::as,b1+b2,e1.trans e2 g2.len,g1.trans g2,r2,?_,⟨b1,b2,w1.mono g2,w2,rfl⟩,by simp only [bulkA];simp only at q1;omega⟩
   simp only [RAL,RA]
   exact ⟨_,_,rfl,⟨cs,rfl,hl⟩,l2⟩
  | false=>
   simp only [Bool.false_eq_true,if_false] at hform
   rw [hform] at hl
   obtain ⟨x,rfl⟩:∃ x,acs=[x]:=by
    have:=hl.length
    cases acs with
    | nil=>simp at this
    | cons x l=>cases l with
     | nil=>exact ⟨x,rfl⟩
     | cons y l=>simp at this
   simp only [RL] at hl
   obtain ⟨u,ws,hu,hx,_⟩:=hl
   injection hu with hu1 hu2
   subst hu1
   refine ⟨G2,hp2,.c x::as,b1+b2,e1.trans e2 g2.len,g1.trans g2,r2,?_,⟨b1,b2,w1.mono g2,w2,rfl⟩,by simp only [bulkA];simp only at q1;omega⟩
   simp only [RAL,RA]
   exact ⟨_,_,rfl,hx,l2⟩
 | [],_::_,_,ps,sh,base,G,hp,h,_,_,_=>h.elim
 | [],[],_::_,ps,sh,base,G,hp,h,_,_,_=>h.elim
 | _::_,[],_,ps,sh,base,G,hp,h,_,_,_=>h.elim
 | _::_,_::_,[],ps,sh,base,G,hp,h,_,_,_=>h.elim
theorem rd_empty:Rd E ⟨fun _ _=>none,fun _=>none⟩ ⟨[],0⟩ W:=
 ⟨⟨fun id o h=>by simp [Hp.f] at h,fun i j oi oj b wi wj h=>by simp [Hp.f] at h,Nat.le_refl _⟩,fun _ _=>⟨fun _=>rfl,rfl⟩,fun id o h=>by simp [Hp.f] at h⟩
theorem trodAll_below {W':World} (hl:laidOutB P=true) (hb:Below W.heap.size W W') {sp:Nat→Bool}:∀ {ts:List TypeId} {vs:List Value} {ds:List (DataW H)} {ps:List MemPlace},(ts.all fun t=>P.readableRec t && decide (t<P.types.size))=true→
 (∀ p∈ps,p.block<W.heap.size∧sp p.block=true)→DataW.TrodAll enc P W 0 (fun _=>true) true ts vs ds ps→DataW.TrodAll enc P W' 0 sp true ts vs ds ps
 | [],[],[],ps,_,_,h=>h
 | t::ts,v::vs,d::ds,ps,hr,hp,h=>by
  obtain ⟨p,q,h1,h2,rfl⟩:=h
  simp only [List.all_cons,Bool.and_eq_true,decide_eq_true_eq] at hr
  exact ⟨p,q,WideElems.Trod_stays hl hr.1.1 hr.1.2 h1 (fun x hx=>hb.same (hp x (by simp [hx])).1) (fun x hx=>(hp x (by simp [hx])).2),trodAll_below hl hb (by simpa using hr.2) (fun x hx=>hp x (by simp [hx])) h2,rfl⟩
 | [],_::_,_,ps,_,_,h=>h.elim
 | [],[],_::_,ps,_,_,h=>h.elim
 | _::_,[],_,ps,_,_,h=>h.elim
 | _::_,_::_,[],ps,_,_,h=>h.elim
theorem law_calls {N:Nat→Option NF} (hN:HProg P E.rn (DJ P E.rn) N) (hmix:P.follows .mixedOrders=true) {k bound:Nat} {f:FuncId} {fn:Func} {sh:List (Bool × List Sc)} (hsh:paramsOf P fn.params.toList=some sh)
 {tb:TypeId} (hres:fn.resultTypes = #[tb]) (htb:P.underlying tb=some .bool) (hlaid:laidOutB P=true) (hread:(fn.params.toList.all fun t=>P.readableRec t && decide (t<P.types.size))=true)
 (hlaw:∀ args hp b,ArgsWT hp sh args b→b≤bound→callW N k (E.rn f) args hp fun r _=>r = .c (.bool true))
 {s:ChangeSpec} (hv:s.vars=[]) (hs:∀ ds:List (DataW H),ds.length=fn.params.size→s.fn H ds={ results:=[.lit (.bool true)],args:=ds,vars:=[] })
 {apart fresh handsOn again:Bool} {base:Nat} {args:Array Value} {ds gs:List (DataW H)} {before:List MemPlace}
 (hval:∀ (j:Nat) t v,fn.params[j]? = some t→args[j]? = some v→Value.okWide P W .any base t v) (hW:DataW.Whole enc P fn.params.toList s.vars apart W args.toList ds gs before)
 (hb:bulkA (ds++gs)≤bound):Calls P f args W fun e W'=>∃ v,e = .returned v∧s.post enc P fn apart fresh handsOn again W args v W':=by
 have hW':=hW
 obtain ⟨p,q,hA,hV,hpq,hfz,hnd⟩:=hW
 rw [hv] at hV
 obtain ⟨rfl,rfl⟩:gs=[]∧q=[]:=by
  cases gs with
  | nil=>exact ⟨rfl,hV⟩
  | cons _ _=>exact hV.elim
 simp only [List.append_nil] at hpq hb
 obtain rfl:p=before:=hpq.symm
 obtain ⟨G,hp,as,b,e1,g1,r1,l1,w1,q1⟩:=built_args (E:=E) fn.params.toList args.toList ds p sh base _ _ hA hsh (fun j t v h1 h2=>hval j t v (by simpa using h1) (by simpa using h2)) rd_empty
 have hcall:=calls_ok N hN (fun k hk=>draws_ok (B:=W.heap.size) hmix (callW_mono N k) (callW_real N k) (callW_framed N k) hk) k
 obtain ⟨_,hcalls⟩:=hcall f as hp _ G W args.toList (hlaw as hp b w1 (Nat.le_trans q1 hb)) l1 r1.rh r1.top
 rw [Array.toArray_toList] at hcalls
 refine Calls.mono hcalls ?_
 intro e W1 hq
 obtain ⟨v,r,hp',G',he,hr,hret⟩:=hq
 subst he hr
 have hvb:v = .bool true:=by simpa [RA,RC] using hret.val
 subst hvb
 have hbelow:Below W.heap.size W W1:=⟨hret.fr.os,hret.fr.tape,hret.fr.output,hret.fr.size,fun j hj=>hret.fr.block j hj (fun h=>by have:=h.2;omega)⟩
 have hlen:ds.length=fn.params.size:=by
  have:∀ (ts:List TypeId) (vs:List Value) (ds:List (DataW H)) (ps:List MemPlace),DataW.TrodAll enc P W 0 (fun _=>true) true ts vs ds ps→ds.length=ts.length:=by
   intro ts
   induction ts with
   | nil=>intro vs ds ps h;cases vs <;> cases ds <;> first|rfl|exact h.elim
   | cons t ts ih=>
    intro vs ds ps h
    cases vs <;> cases ds <;> first|exact h.elim|skip
    obtain ⟨_,_,_,h2,_⟩:=h
    simp [ih _ _ _ h2]
  simpa using this _ _ _ _ hA
 have hsp:=hs ds hlen
 have hlt:∀ x∈p,x.block<W.heap.size:=fun x hx=>hW'.lt x hx
 refine ⟨_,rfl,ds,[],p,[],p,[],hW',?_,?_,?_,?_,?_⟩
 ·rw [List.append_nil,hsp,hres]
  simp only [Value.resultList]
  exact trodAll_mk1 (shut_bool htb true)
 ·rw [List.append_nil,hsp]
  exact trodAll_below hlaid hbelow hread (fun x hx=>⟨hlt x hx,by simpa using hlt x hx⟩) hA
 ·rw [List.append_nil,hsp,hv]
  exact rfl
 ·exact World.keptBut_mono (fun x hx=>⟨hx,.inr (.inl hx)⟩) (hbelow.frame (·∈p))
 ·intro _
  refine ⟨?_,[.lit (.bool true)]++ds,[],[]++p,?_,fun x hx _=>by simpa using hx⟩
  ·intro j t r h1 h2
   rw [hres] at h1 h2
   simp only [Value.resultList] at h2
   cases j with
   | zero=>
    simp at h1 h2
    subst h1 h2
    exact okWide_bool_mk htb true
   | succ j=>simp at h1
  ·refine ⟨[]++p,[],?_,by rw [hv];rfl,by simp,?_,?_⟩
   ·rw [hres]
    simp only [Value.resultList]
    exact trodAll_append (trodAll_below (sp:=fun _=>true) hlaid hbelow hread (fun x hx=>⟨hlt x hx,rfl⟩) hA) (trodAll_mk1 (shut_bool htb true))
   ·intro b' off hp'
    have hin:MemPlace.cell b' off∈p:=by simpa using hp'
    rw [hbelow.frozen (hlt _ hin)]
    exact hfz b' off hin
   ·intro ha
    simpa using hnd ha
end
end
end Camp
namespace Camp
open Go
section
def compCk (P:Program) (rn:FuncId→Nat) (ops:Array Oper):List (Nat × NR)→Option (List (Nat × NR))
 | []=>some []
 | c::l=>((ops[c.1]?).bind (compR P rn [] ops)).bind fun r=>(compCk P rn ops l).map ((c.1,r)::·)
def compDs (P:Program) (rn:FuncId→Nat) (ops:Array Oper):List DI→Option (List DI)
 | []=>some []
 | d::l=>((ops[d.i]?).bind (compR P rn [] ops)).bind fun r=>(compCk P rn ops d.chk).bind fun c=>(compDs P rn ops l).map (⟨d.i,d.al,r,c⟩::·)
def compC (P:Program) (rn:FuncId→Nat) (locs:List Nat):Go.Code→Code→Option Code
 | c,.seq (.kill l n) c'=>(compC P rn locs c c').map (.seq (.kill l n) ·)
 | .skip,.skip=>some .skip
 | .region _ ops false,.region _=>(compRs P rn locs ops ops.toList).map .region
 | .region _ ops true,.draw nal ord=>(compDs P rn ops ord).bind fun o=>if drawOk ops nal o=true then some (.draw nal o) else none
 | .seq a b,.seq a' b'=>(compC P rn locs a a').bind fun x=>(compC P rn locs b b').map (.seq x ·)
 | .cond c a b,.cond _ a' b'=>(compX rn c).bind fun c'=>(compC P rn locs a a').bind fun x=>(compC P rn locs b b').map (.cond c' x ·)
 | .block id b,.block _ b'=>(compC P rn locs b b').map (.block id ·)
 | .loop b,.loop b'=>(compC P rn locs b b').map .loop
 | .exit i,.exit _=>some (.exit i)
 | .ret,.ret=>some .ret
 | _,_=>none
theorem compCk_ok {P:Program} {rn:FuncId→Nat} {ops:Array Oper}:∀ {l l':List (Nat × NR)},compCk P rn ops l=some l'→∀ c∈l',(ops[c.1]?).bind (compR P rn [] ops)=some c.2
 | [],l',h=>by simp only [compCk,Option.some.injEq] at h;subst h;intro c hc;cases hc
 | c::l,l',h=>by
  simp only [compCk,Option.bind_eq_some_iff,Option.map_eq_some_iff] at h
  obtain ⟨r,h1,l2,h2,rfl⟩:=h
  intro x hx
  rcases List.mem_cons.mp hx with rfl|hx
  ·rw [Option.bind_eq_some_iff];exact h1
  ·exact compCk_ok h2 x hx
theorem compDs_ok {P:Program} {rn:FuncId→Nat} {ops:Array Oper}:∀ {l l':List DI},compDs P rn ops l=some l'→CompD P rn ops l'
 | [],l',h=>by simp only [compDs,Option.some.injEq] at h;subst h;intro c hc;cases hc
 | c::l,l',h=>by
  simp only [compDs,Option.bind_eq_some_iff,Option.map_eq_some_iff] at h
  obtain ⟨r,h1,c',h2,l2,h3,rfl⟩:=h
  intro x hx
  rcases List.mem_cons.mp hx with rfl|hx
  ·exact ⟨by rw [Option.bind_eq_some_iff];exact h1,compCk_ok h2⟩
  ·exact compDs_ok h3 x hx
theorem compC_ok {P:Program} {rn:FuncId→Nat} {locs:List Nat}:∀ {c':Code} {c:Go.Code} {x:Code},compC P rn locs c c'=some x→CC P rn locs (DJ P rn) c x:=by
 intro c'
 induction c' with
 | skip=>
  intro c x h
  cases c <;> simp only [compC] at h <;> first|(cases h;done)|skip
  injection h with h;subst h;simp [CC]
 | kill l n=>intro c x h;cases c <;> simp [compC] at h
 | region l=>
  intro c x h
  cases c with
  | region id ops d=>
   cases d with
   | false=>
    simp only [compC,Option.map_eq_some_iff] at h
    obtain ⟨l',h1,rfl⟩:=h
    simpa only [CC] using h1
   | true=>simp [compC] at h
  | _=>simp [compC] at h
 | draw nal ord=>
  intro c x h
  cases c with
  | region id ops d=>
   cases d with
   | false=>simp [compC] at h
   | true=>
    simp only [compC,Option.bind_eq_some_iff] at h
    obtain ⟨o,h1,h2⟩:=h
    split at h2
    ·rename_i hd
     injection h2 with h2;subst h2
     simp only [CC]
     exact ⟨compDs_ok h1,hd⟩
    ·cases h2
  | _=>simp [compC] at h
 | seq a b iha ihb=>
  intro c x h
  by_cases hk:∃ l n,a = .kill l n
  ·obtain ⟨l,n,rfl⟩:=hk
   have h':(compC P rn locs c b).map (Code.seq (.kill l n) ·)=some x:=by
    cases c <;> simpa only [compC] using h
   simp only [Option.map_eq_some_iff] at h'
   obtain ⟨y,h1,rfl⟩:=h'
   have:=ihb h1
   cases c <;> simpa only [CC] using this
  ·cases c with
   | seq p q=>
    have h':((compC P rn locs p a).bind fun x=>(compC P rn locs q b).map (Code.seq x ·))=some x:=by
     cases a <;> first|exact absurd ⟨_,_,rfl⟩ hk|(simpa only [compC] using h)
    simp only [Option.bind_eq_some_iff,Option.map_eq_some_iff] at h'
    obtain ⟨y,h1,z,h2,rfl⟩:=h'
    have h3:=iha h1
    have h4:=ihb h2
    have hy:∀ l n,y≠.kill l n:=by
     rintro l n rfl
     cases p <;> simp only [CC] at h3
    cases y <;> first|exact absurd rfl (hy _ _)|(simp only [CC];exact ⟨h3,h4⟩)
   | _=>
    exfalso
    cases a <;> first|exact absurd ⟨_,_,rfl⟩ hk|(simp [compC] at h;done)
 | cond c' a b iha ihb=>
  intro c x h
  cases c with
  | cond c0 p q=>
   simp only [compC,Option.bind_eq_some_iff,Option.map_eq_some_iff] at h
   obtain ⟨n,h0,y,h1,z,h2,rfl⟩:=h
   simp only [CC]
   exact ⟨h0,iha h1,ihb h2⟩
  | _=>simp [compC] at h
 | block id b ih=>
  intro c x h
  cases c with
  | block id0 p=>
   simp only [compC,Option.map_eq_some_iff] at h
   obtain ⟨y,h1,rfl⟩:=h
   simp only [CC]
   exact ⟨trivial,ih h1⟩
  | _=>simp [compC] at h
 | loop b ih=>
  intro c x h
  cases c with
  | loop p=>
   simp only [compC,Option.map_eq_some_iff] at h
   obtain ⟨y,h1,rfl⟩:=h
   simp only [CC]
   exact ih h1
  | _=>simp [compC] at h
 | exit i=>
  intro c x h
  cases c with
  | exit j=>simp only [compC,Option.some.injEq] at h;subst h;simp only [CC]
  | _=>simp [compC] at h
 | ret=>
  intro c x h
  cases c with
  | ret=>simp only [compC,Option.some.injEq] at h;subst h;simp only [CC]
  | _=>simp [compC] at h
 | prim F n=>intro c x h;cases c <;> simp [compC] at h
 | fin b ops ih=>intro c x h;cases c <;> simp [compC] at h
theorem cfn_ok {P : Program} {rn : FuncId → Nat} (locs : List Nat) {fn : Func} {nf : NF} (h1 : (fn.name == "runtime.NumGoroutine") = false) (h2 : fn.ntmps = nf.ntmps) (h3 : fn.results.toList = nf.results.map ResultVar.tmp)
 (h4:(fn.body.bind fun c=>compC P rn locs c nf.body)=some nf.body):CFn P rn (DJ P rn) fn nf:=by
 rw [Option.bind_eq_some_iff] at h4
 obtain ⟨c,h5,h6⟩:=h4
 exact ⟨h1,h2,h3,c,locs,h5,compC_ok h6⟩
def rnOf (tbl:List Nat) (g:Nat):Nat:=(tbl[g]?).getD 1000000
def AllOk (P:Program) (rn:FuncId→Nat) (N:Nat→Option NF):List Nat→Nat→Prop
 | [],_=>True
 | t::l,g=>(∀ nf,N t=some nf→∃ fn,P.funcs[g]? = some fn∧GFn P rn (DJ P rn) g fn nf)∧AllOk P rn N l (g+1)
theorem AllOk.get {P:Program} {rn:FuncId→Nat} {N:Nat→Option NF}:∀ {l:List Nat} {g0:Nat},AllOk P rn N l g0→∀ i t,l[i]? = some t→∀ nf,N t=some nf→∃ fn,P.funcs[g0+i]? = some fn∧GFn P rn (DJ P rn) (g0+i) fn nf
 | [],_,_,i,t,h=>by simp at h
 | x::l,g0,h,0,t,e=>by simp at e;subst e;simpa using h.1
 | x::l,g0,h,i+1,t,e=>by
  have:=h.2.get i t (by simpa using e)
  rwa [show g0+1+i=g0+(i+1) by omega] at this
theorem hprog_of {P:Program} {N:Nat→Option NF} {tbl:List Nat} (h:AllOk P (rnOf tbl) N tbl 0) (hbig:N 1000000=none):HProg P (rnOf tbl) (DJ P (rnOf tbl)) N:=by
 intro g nf hg
 unfold rnOf at hg
 cases ht:tbl[g]? with
 | none=>rw [ht] at hg;simp [hbig] at hg
 | some t=>
  rw [ht] at hg
  have:=h.get g t ht nf hg
  rwa [Nat.zero_add] at this
theorem ok_some {P:Program} {rn:FuncId→Nat} {N:Nat→Option NF} {t g:Nat} {n:NF} {fn:Func} (hN:N t=some n) (hf:P.funcs[g]? = some fn) (hc:CFn P rn (DJ P rn) fn n):∀ nf,N t=some nf→∃ fn,P.funcs[g]? = some fn∧GFn P rn (DJ P rn) g fn nf:=by
 intro nf h
 rw [hN] at h
 injection h with h
 subst h
 exact ⟨fn,hf,.inl hc⟩
theorem ok_cell {P:Program} {rn:FuncId→Nat} {N:Nat→Option NF} {t g:Nat} {n:NF} {fn:Func} (hN:N t=some n) (hf:P.funcs[g]? = some fn) (hc:CFnC P rn (DJ P rn) fn n):∀ nf,N t=some nf→∃ fn,P.funcs[g]? = some fn∧GFn P rn (DJ P rn) g fn nf:=by
 intro nf h
 rw [hN] at h
 injection h with h
 subst h
 exact ⟨fn,hf,.inr (.inr hc)⟩
theorem cfn_cell {P : Program} {rn : FuncId → Nat} (locs : List Nat) (pre post : List Nat) (a : Nat) (t : TypeId) (sh : Option Nat) {fn : Func} {n : Nat} {b : Code} (h1 : (fn.name == "runtime.NumGoroutine") = false) (h2 : fn.ntmps = n)
 (h3:fn.results.toList=pre.map ResultVar.tmp++ResultVar.cell a t::post.map ResultVar.tmp) (ha:a∉pre) (hb:a∉post) (hs:shapeOf P t=some sh)
 (h4:(fn.body.bind fun c=>compC P rn locs c b)=some b):CFnC P rn (DJ P rn) fn ⟨n,pre++a::post,.fin b [⟨some a,.load sh (.t a),none⟩]⟩:=by
 rw [Option.bind_eq_some_iff] at h4
 obtain ⟨c,h5,h6⟩:=h4
 exact ⟨h1,h2,pre,a,t,sh,post,b,c,locs,h3,rfl,ha,hb,hs,rfl,h5,compC_ok h6⟩
theorem ok_none {P:Program} {rn:FuncId→Nat} {N:Nat→Option NF} {t g:Nat} (hN:N t=none):∀ nf,N t=some nf→∃ fn,P.funcs[g]? = some fn∧GFn P rn (DJ P rn) g fn nf:=by
 intro nf h
 rw [hN] at h
 cases h
end
end Camp
