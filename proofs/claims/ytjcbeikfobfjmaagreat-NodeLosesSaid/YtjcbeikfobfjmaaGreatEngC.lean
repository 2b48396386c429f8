/- Stores. append. append: the operation. append: grown in a new row; rows written in place; the operations append, copy, clear. The operations append, copy, clear. copy, clear; maps written. Maps written; iterators moved on. Iterators moved on. Iterators moved on: the operation. Every operation but calls: what the abstract machine answers, the model does. -/
import Derived.Test.YtjcbeikfobfjmaaGreatEngB
set_option linter.unnecessarySimpa false
set_option linter.unusedVariables false
set_option linter.unusedSimpArgs false
set_option linter.unusedSectionVars false
namespace Camp
open Go Go.RowKit
section
section
variable {P:Program} {E:Env} {G:Gh} {B:Nat} {m:Mu} {s:St} {a:Act} {w w1:World}
variable {call:CallF} {orc:Nat→Nat} {o:Oper} {q:Res}
theorem pos_lt {r:Rec} {i i' j j' sz:Nat} (hs:r.sz=sz) (h1:r.lo≤i) (h2:i<i') (hj:j<sz):r.pos i j<r.pos i' j':=by
 simp only [Rec.pos,hs]
 have:(i-r.lo+1) * sz≤(i'-r.lo) * sz:=Nat.mul_le_mul_right _ (by omega)
 rw [Nat.add_mul] at this
 omega
theorem pos_next {r:Rec} {i k sz:Nat} (hs:r.sz=sz) (h1:r.lo≤i):r.pos (i+k) 0=r.pos i 0+k * sz:=by
 simp only [Rec.pos,hs]
 rw [show i+k-r.lo=(i-r.lo)+k by omega,Nat.add_mul]
 omega
theorem writeRows {hp:Hp} {lc:List (List CV)} {id sz cur lw:Nat} {rs rs':List (List CV)} {r:Rec} {cs cs':Array Value} {el:TypeId} {fz:Nat × Nat} (hH:RH E G B hp.f w) (hL:RLc E G B hp.f m lc w)
 (hid:hp.f id=some (.rows true sz cur lw rs)) (hg:G.rows id cur=some r) (hb:w.heap[r.blk]? = some (.cells cs el fz)) (hlen:rs'.length=rs.length) (hsz:cs'.size=cs.size)
 (hw:∀ (i:Nat) (row:List CV),r.lo≤i→i<r.n→rs'[i]? = some row→row.length=sz)
 (hc:∀ (i:Nat) (row:List CV) (j:Nat) (x:CV),r.lo≤i→i<r.n→rs'[i]? = some row→row[j]? = some x→∃ v,cs'[r.pos i j]? = some v∧RC E G x v) :
 let hp':=hp.put id (.rows true sz cur cur rs')
 let w':=setB w r.blk (.cells cs' el fz)
 RH E G B hp'.f w'∧RLc E G B hp'.f m lc w'∧(∀ b,Owned G hp'.f b→Owned G hp.f b∨w.heap.size≤b)∧Fr (fun b=>Owned G hp.f b∧B≤b) w w':=by
 intro hp' w'
 have ho:=hH.each id _ hid
 simp only [RO] at ho
 obtain ⟨h1,⟨r0,h2,h2'⟩,h3,h4,h5⟩:=ho
 rw [hg] at h2;injection h2 with h2;subst h2
 have hra:=h4 cur r h1 hg
 obtain ⟨cs0,el0,fz0,k1,k2,k3,k4⟩:=hra.cells
 rw [hb] at k1;injection k1 with k1;injection k1 with e1 e2 e3;subst e1 e2 e3
 have hget:=setB_get (o:=.cells cs' el fz) hb
 have hown:Owns G id r.blk true (.rows true sz cur lw rs):=⟨rfl,cur,r,h1,hg,rfl⟩
 have hblk:∀ b,b<w.heap.size→¬Owns G id b true (.rows true sz cur lw rs)→w'.heap[b]? = w.heap[b]?:=by
  intro b _ hn
  show (setB w r.blk _).heap[b]? = _
  rw [hget,if_neg (by rintro rfl;exact hn hown)]
 obtain ⟨p1,p2,p3⟩:=put_ok (G':=G) (w':=w') (o':=.rows true sz cur cur rs') hH hL hid (Ext.refl _ _) (fun _ _=>⟨rfl,rfl⟩) (by rw [setB_size];exact Nat.le_refl _) hblk
  (by
   simp only [RO]
   refine ⟨Nat.le_refl _,⟨r,hg,by rw [hlen];exact h2'⟩,h3,?_,?_⟩
   ·intro tok r' hle hg'
    have:tok=cur:=by have:=h3 tok r' hg';omega
    subst this
    rw [hg] at hg';injection hg' with hg';subst hg'
    refine ⟨hra.size,by rw [hlen];exact hra.len,hra.lo,hra.fit,hw,cs',el,fz,?_,by rw [hsz];exact k2,?_,hc⟩
    ·show (setB w r.blk _).heap[r.blk]? = _
     rw [hget,if_pos rfl]
    ·intro ht
     rw [hsz]
     exact k3 ht
   ·intro t1 t2 r1 r2 hl1 hl2 g1 g2 _
    have:t1=cur:=by have:=h3 t1 r1 g1;omega
    subst this
    have:t2=t1:=by have:=h3 t2 r2 g2;omega
    subst this
    rw [g1] at g2;injection g2 with g2;subst g2
    exact ⟨rfl,rfl,rfl⟩)
  (by
   rintro b wr ⟨hwr,tok,r',hle,hg',rfl⟩
   have:tok=cur:=by have:=h3 tok r' hg';omega
   subst this
   rw [hg] at hg';injection hg' with hg';subst hg'
   exact .inl hown)
 refine ⟨p1,p2,p3,⟨rfl,rfl,rfl,by rw [setB_size];exact Nat.le_refl _,fun b hb' hn=>?_⟩⟩
 show (setB w r.blk _).heap[b]? = _
 rw [hget,if_neg (by rintro rfl;exact hn ⟨⟨id,_,true,hid,hown⟩,(k3 rfl).1⟩)]
theorem run_storeVar {t:TypeId} {b off n:Nat} {cs:Array Value} {el:TypeId} {fz:Nat × Nat} {v:Value} (hs:szOf P t=some n) (hn:v.cells.size=n) (hb:w.heap[b]? = some (.cells cs el fz)) (hfit:off+n≤cs.size)
 (hfz:∀ k,k<cs.size→¬(fz.1≤k∧k<fz.2)) (h1:∀ u∈v.cells.toList,u.oneCell'=true):(storeVar t ⟨b,off,none⟩ v).run P w = .ok () (setB w b (.cells (putCells cs off v.cells.toList) el fz)):=by
 unfold storeVar
 simp only [Sem.run_bind,run_size hs,Result.andThen_ok,hn,ne_eq,not_true_eq_false,if_false]
 obtain ⟨lo,hi⟩:=fz
 have:=run_storeCells P (b:=b) (o:=off) v.cells.toList 0 w cs hb (by simp [hn];omega) hfz h1
 simpa using this
theorem op_store (ht:RTm E G m s.tm a.tmps) (hH:RH E G B s.hp.f w) (hL:RLc E G B s.hp.f m s.lc w) {t:TypeId} {x y:Operand} {nx ny:NX} {n:Nat} (ho:o.op = .store t x y) (hx:compX E.rn x=some nx) (hy:compX E.rn y=some ny)
 (hs:szOf P t=some n) (hn:nop call orc s (.store n nx ny)=some q):OpOk P E B G m s a w o q:=by
 simp only [nop,Option.bind_eq_some_iff] at hn
 obtain ⟨av,hav,hn⟩:=hn
 obtain ⟨ra,hnt⟩:=asV_rel hav (compX_rel ht hy)
 have rc:=ra.cells hnt
 have rl:=rc.length
 simp only [Array.length_toList] at rl
 have r:=compX_rel ht hx
 unfold storeAt at hn
 split at hn
 rotate_left
 ·simp at hn
 rename_i hlen
 have hvn:(a.eval y).cells.size=n:=by omega
 split at hn
 ·rename_i id tok i j ev
  rw [ev] at r
  simp only [RT,RA,RC] at r
  obtain ⟨rr,g1,g2,g3,g4⟩:=r
  split at hn
  rotate_left
  ·simp at hn
  rename_i wr s1 cur lw rs hob
  split at hn
  rotate_left
  ·simp at hn
  rename_i hc
  obtain ⟨rfl,rfl⟩:=hc
  split at hn
  rotate_left
  ·simp at hn
  rename_i row hrow
  split at hn
  rotate_left
  ·simp at hn
  rename_i hfit
  injection hn with hn
  subst hn
  intro hf hfm
  have hoo:=hH.each id _ hob
  simp only [RO] at hoo
  obtain ⟨k1,_,k3,k4,k5⟩:=hoo
  have hra:=k4 tok rr k1 g1
  obtain ⟨cs,el,fz,hb,hsz,hwr,hcells⟩:=hra.cells
  have hrl:=hra.width i row g2 g3 hrow
  have hpos:rr.pos i j+n≤cs.size:=by
   refine Nat.le_trans ?_ hsz
   have:(i-rr.lo+1) * s1≤rr.tot * s1:=Nat.mul_le_mul_right _ (by have:=hra.fit;omega)
   rw [Nat.add_mul] at this
   simp only [Rec.pos,hra.size]
   omega
  have hrun:=run_storeVar (P:=P) (off:=rr.pos i j) hs hvn hb hpos (hwr rfl).2 rc.oneCell
  have hput:=fun k=>putCells_get (a.eval y).cells.toList cs (rr.pos i j) (by simp;omega) k
  simp only [Array.length_toList,hvn] at hput
  obtain ⟨p1,p2,p3,p4⟩:=writeRows (rs':=rs.set i (splice row j av.cells)) (cs':=putCells cs (rr.pos i j) (a.eval y).cells.toList) hH hL hob g1 hb (by simp) (putCells_size _ _ _)
   (by
    intro i' row' h1 h2 h3
    rw [List.getElem?_set] at h3
    split at h3
    ·rename_i he
     subst he
     split at h3 <;> simp at h3
     subst h3
     simp [splice]
     omega
    ·exact hra.width i' row' h1 h2 h3)
   (by
    intro i' row' j' x' h1 h2 h3 h4
    rw [hput]
    rw [List.getElem?_set] at h3
    split at h3
    ·rename_i he
     subst he
     split at h3 <;> simp at h3
     subst h3
     have hp:∀ q,rr.pos i q=rr.pos i 0+q:=by intro q;simp [Rec.pos]
     simp only [splice,List.append_assoc] at h4
     rw [List.getElem?_append] at h4
     simp only [List.length_take] at h4
     by_cases c1:j'<j
     ·rw [if_pos (by omega),List.getElem?_take,if_pos c1] at h4
      rw [if_neg (by rw [hp j,hp j'];omega)]
      exact hcells i row j' x' g2 g3 hrow h4
     ·rw [if_neg (by omega),List.getElem?_append] at h4
      by_cases c2:j'<j+n
      ·rw [if_pos (by omega)] at h4
       obtain ⟨u,hu,ru⟩:=rc.get h4
       rw [if_pos (by rw [hp j,hp j'];omega)]
       refine ⟨u,?_,ru⟩
       rw [show rr.pos i j'-rr.pos i j=j'-min j row.length by rw [hp j,hp j'];omega]
       exact hu
      ·rw [if_neg (by omega),List.getElem?_drop] at h4
       rw [if_neg (by rw [hp j,hp j'];omega)]
       refine hcells i row j' x' g2 g3 hrow ?_
       rw [show j+av.cells.length+(j'-min j row.length-av.cells.length)=j' by omega] at h4
       exact h4
    ·rename_i hne
     have hw':=hra.width i' row' h1 h2 h3
     have hj':j'<s1:=by
      rcases Nat.lt_or_ge j' row'.length with h'|h'
      ·omega
      ·simp [List.getElem?_eq_none h'] at h4
     rw [if_neg (by
      rintro ⟨e1,e2⟩
      rcases Nat.lt_or_gt_of_ne hne with hlt|hlt
      ·have:=pos_lt (r:=rr) (j:=j+n-1) (j':=j') hra.size g2 hlt (by omega)
       have:rr.pos i (j+n-1)+1≤rr.pos i' j':=this
       have e3:rr.pos i j+n≤rr.pos i (j+n-1)+1:=by simp only [Rec.pos];omega
       omega
      ·have:=pos_lt (r:=rr) (j:=j') (j':=j) hra.size h1 hlt hj'
       omega)]
     exact hcells i' row' j' x' h1 h2 h3 h4)
  refine ⟨.skip,undef,setB w rr.blk (.cells (putCells cs (rr.pos i j) (a.eval y).cells.toList) el fz),G,m,?_,.inr ⟨rfl,rfl⟩,⟨by simp only [RT],p1,p2,Ext.refl _ _,⟨fun _ _ h=>h,fun _ _=>rfl⟩,p4.mono (fun _ h=>⟨.inl h.1,h.2⟩),p3,fun b hb=>.inl hb,⟨by simp [Hp.put],Nat.le_refl _⟩,dead_put (by assumption) (by simp) (fun _ _=>⟨rfl,rfl⟩)⟩⟩
  simp [execOp,ho,Instr.storeAt,g4,Instr.sureAddr,hrun]
 ·rename_i k j ev
  rw [ev] at r
  simp only [RT] at r
  obtain ⟨b,g1,g2⟩:=r
  split at hn
  rotate_left
  ·simp at hn
  rename_i row hrow
  split at hn
  rotate_left
  ·simp at hn
  rename_i hfit
  injection hn with hn
  subst hn
  intro hf hfm
  obtain ⟨b',vs,el,fz,k1,k2,k3,k4,k5,k6⟩:=hL.each k row hrow
  rw [g1] at k1;injection k1 with k1;subst k1
  have hvl:=k3.length
  simp only [Array.length_toList] at hvl
  have hrun:=run_storeVar (P:=P) (off:=j) hs hvn k2 (by omega) k6 rc.oneCell
  have hkl:k<s.lc.length:=by
   rcases Nat.lt_or_ge k s.lc.length with h'|h'
   ·exact h'
   ·simp [List.getElem?_eq_none h'] at hrow
  have hloc:Loc m s.lc b:=⟨k,hkl,g1⟩
  have hget:=setB_get (o:=.cells (putCells vs j (a.eval y).cells.toList) el fz) k2
  have hkeep:∀ b',Owned G s.hp.f b'→(setB w b (.cells (putCells vs j (a.eval y).cells.toList) el fz)).heap[b']? = w.heap[b']?:=by
   intro b' hb'
   rw [hget,if_neg (by rintro rfl;exact k5 hb')]
  refine ⟨.skip,undef,setB w b (.cells (putCells vs j (a.eval y).cells.toList) el fz),G,m,?_,.inr ⟨rfl,rfl⟩,⟨by simp only [RT],⟨?_,hH.apart,by rw [setB_size];exact hH.size⟩,⟨?_,?_⟩,Ext.refl _ _,⟨fun _ _ h=>h,fun _ _=>rfl⟩,⟨rfl,rfl,rfl,by rw [setB_size];exact Nat.le_refl _,?_⟩,fun b hb=>.inl hb,?_,⟨Nat.le_refl _,by simp⟩,fun id h=>⟨.inl h,rfl,rfl⟩⟩⟩
  ·simp [execOp,ho,Instr.storeAt,g2,Instr.sureAddr,hrun]
  ·intro id ob h1
   exact RO.mono (Ext.refl G 0) rfl rfl (fun b' wr hb'=>hkeep b' ⟨id,ob,wr,h1,hb'⟩) (hH.each id ob h1)
  ·intro k' cs' hk'
   rw [List.getElem?_set] at hk'
   split at hk'
   ·rename_i he
    subst he
    simp [hkl] at hk'
    subst hk'
    refine ⟨b,putCells vs j (a.eval y).cells.toList,el,fz,g1,by rw [hget,if_pos rfl],?_,k4,k5,by rw [putCells_size];exact k6⟩
    rw [putCells_list (by simp;omega)]
    exact k3.splice rc (by omega)
   ·rename_i hne
    obtain ⟨b2,vs2,el2,fz2,l1,l2,l3,l4,l5,l6⟩:=hL.each k' cs' hk'
    have hk2:k'<s.lc.length:=by
     rcases Nat.lt_or_ge k' s.lc.length with h'|h'
     ·exact h'
     ·simp [List.getElem?_eq_none h'] at hk'
    refine ⟨b2,vs2,el2,fz2,l1,?_,l3,l4,l5,l6⟩
    rw [hget,if_neg (by rintro rfl;exact hne (hL.inj k k' _ hkl hk2 g1 l1))]
    exact l2
  ·simpa using hL.inj
  ·intro b' hb' hn'
   rw [hget,if_neg (by rintro rfl;exact hn' ⟨.inr hloc,k4⟩)]
  ·rintro b' ⟨k',hk',hm'⟩
   exact .inl ⟨k',by simpa using hk',hm'⟩
 ·simp at hn
end
end
section
section
variable {P:Program} {E:Env} {G:Gh} {B:Nat} {m:Mu} {s:St} {a:Act} {w w1:World}
variable {call:CallF} {orc:Nat→Nat} {o:Oper} {q:Res}
theorem flat_get {sz:Nat} {row:List CV} {x:CV} {j:Nat} (hj:row[j]? = some x):∀ (l:List (List CV)) (i:Nat),(∀ r∈l,r.length=sz)→l[i]? = some row→l.flatten[i * sz+j]? = some x:=by
 intro l
 induction l with
 | nil=>intro i _ h;simp at h
 | cons y l ih=>
  intro i hl h
  cases i with
  | zero=>
   simp at h
   subst h
   have hlt:j<y.length:=by
    rcases Nat.lt_or_ge j y.length with h'|h'
    ·exact h'
    ·simp [List.getElem?_eq_none h'] at hj
   simp only [Nat.zero_mul,Nat.zero_add,List.flatten_cons]
   rw [List.getElem?_append_left hlt]
   exact hj
  | succ i=>
   have hy:y.length=sz:=hl y (by simp)
   rw [List.flatten_cons,List.getElem?_append_right (by rw [hy,Nat.add_mul];omega)]
   rw [show (i+1) * sz+j-y.length=i * sz+j by rw [hy,Nat.add_mul];omega]
   exact ih i (fun r hr=>hl r (by simp [hr])) (by simpa using h)
theorem grow_le (newLen:Nat):∀ (rounds c:Nat),c<newLen→Builtin.growBy newLen rounds c≤newLen+(newLen+768) / 4:=by
 intro rounds
 induction rounds with
 | zero=>intro c h;simp only [Builtin.growBy];omega
 | succ n ih=>
  intro c h
  simp only [Builtin.growBy]
  rw [if_neg (by omega)]
  by_cases h2:c+(c+768) / 4<newLen
  ·exact ih _ h2
  ·cases n with
   | zero=>simp only [Builtin.growBy];omega
   | succ n=>simp only [Builtin.growBy];rw [if_pos (by omega)];omega
theorem next_le {need c:Nat} (h:c<need):Builtin.nextslicecap need c≤2 * need:=by
 unfold Builtin.nextslicecap
 split
 ·omega
 ·split
  ·omega
  ·have:=grow_le need 4 c h
   omega
theorem run_append_new {c:Call} {t0 t1 e:TypeId} {i:TypeInfo} {ty:TypeId} {z:AV} {sv xv:Value} {base:Option Addr} {len cap k:Nat} {old new:Array Value} (hty0:c.argTypes[0]? = some t0) (hty1:c.argTypes[1]? = some t1)
 (hu:P.underlying t0=some (.slice e)) (hd1:P.underlying t1=some .string∨∃ e',P.underlying t1=some (.slice e')) (hi:P.info? e=some i) (hz:zeroOf P e=some z) (hb0:0<i.bytes) (hs:sv = .slice base len cap)
 (hlen:(Builtin.lenOf xv).run P w = .ok k w) (hgt:cap<len+k) (hroom:(len+k) * i.bytes≤room)
 (hold:∀ w1,w1.heap=w.heap→(Builtin.firstCells i.size len sv).run P w1 = .ok old w1) (hnew:∀ w1,w1.heap=w.heap→(Builtin.firstCells i.size k xv).run P w1 = .ok new w1) :
 ∃ (newCap:Nat) (rest:Array Value) (w1:World),len+k≤newCap∧rest.size=(newCap-(len+k)) * i.size∧w1.heap=w.heap∧w1.os=w.os∧w1.tape=w.tape∧w1.output=w.output∧
  (Builtin.append_ c.argTypes ty #[sv,xv]).run P w = .ok (.slice (some ⟨w1.heap.size,0,none⟩) (len+k) newCap) (w1.alloc (.cells (old++new++rest) e)):=by
 obtain ⟨zv,hzv,rz,hnt,hzl⟩:=run_zero hz w
 obtain ⟨zv1,hzv1,rz1,hnt1,hzl1⟩:=run_zero hz { w with drawn:=w.drawn+1 }
 have hsz:szOf P e=some i.size:=by simp [szOf,hi]
 rw [hsz] at hzl1
 injection hzl1 with hzl1
 have hzc:=((rz1 ⟨fun _=>0,fun _=>0⟩ ⟨fun _ _=>none,fun _=>none⟩).cells hnt1).length
 simp only [Array.length_toList] at hzc
 have hcap:=cap_ge (len+k) cap e (w.tape w.drawn (.appendCap (len+k) cap e))
 refine ⟨(Question.appendCap (len+k) cap e).cut (w.tape w.drawn (.appendCap (len+k) cap e)),Builtin.zeroCells zv1.cells ((Question.appendCap (len+k) cap e).cut (w.tape w.drawn (.appendCap (len+k) cap e))-(len+k)),
  { w with drawn:=w.drawn+1 },hcap,?_,rfl,rfl,rfl,rfl,?_⟩
 ·simp only [Builtin.zeroCells,Array.size_map,Array.size_range,hzc,hzl1]
 ·have hnx:=next_le hgt
  have hbig:¬(Builtin.nextslicecap (len+k) cap * i.bytes > 2 ^ 48):=by
   have:Builtin.nextslicecap (len+k) cap * i.bytes≤2 * (len+k) * i.bytes:=Nat.mul_le_mul_right _ hnx
   rw [Nat.mul_assoc] at this
   unfold room at hroom
   omega
  subst hs
  rcases hd1 with hd1|⟨e',hd1⟩
  all_goals
   simp only [Builtin.append_,hty0,hty1,List.getElem?_toArray,List.getElem?_cons_zero,List.getElem?_cons_succ,Sem.run_bind,run_und hu,Result.andThen_ok,run_size hsz,run_und hd1,Sem.run_pure,Bool.false_eq_true,if_false,hlen]
   rw [if_neg (show ¬(len+k≤cap) by omega)]
   simp only [Sem.run_bind,typeInfo,run_program,Result.andThen_ok,hi,Sem.run_pure,false_or]
   rw [if_neg (show ¬(((len+k:Nat):Int) > IntKind.i64.max∧i.bytes=0) by omega)]
   simp only [Sem.run_bind,typeInfo,run_program,Result.andThen_ok,hi,Sem.run_pure,pure_bind]
   rw [if_neg hbig]
   simp only [pure_bind,Sem.run_bind,run_choose,Question.forced,Bool.false_eq_true,if_false,Result.andThen_ok,typeInfo,run_program,hi,Sem.run_pure,run_askRoom,Bool.not_false,if_true,run_newRow]
   rw [hold { w with drawn:=w.drawn+1 } rfl]
   simp only [Result.andThen_ok]
   rw [hnew { w with drawn:=w.drawn+1 } rfl]
   simp only [Result.andThen_ok]
   rw [hzv1]
   simp only [Result.andThen_ok]
theorem run_append_room {c:Call} {t0 t1 e:TypeId} {i:TypeInfo} {ty:TypeId} {sv xv:Value} {b off len cap k:Nat} {new cs:Array Value} {el:TypeId} {fz:Nat × Nat} (hty0:c.argTypes[0]? = some t0) (hty1:c.argTypes[1]? = some t1)
 (hu:P.underlying t0=some (.slice e)) (hd1:P.underlying t1=some .string∨∃ e',P.underlying t1=some (.slice e')) (hi:P.info? e=some i) (hs:sv = .slice (some ⟨b,off,none⟩) len cap)
 (hlen:(Builtin.lenOf xv).run P w = .ok k w) (hle:len+k≤cap) (hnew:(Builtin.firstCells i.size k xv).run P w = .ok new w) (hsz:new.size=k * i.size)
 (hb:w.heap[b]? = some (.cells cs el fz)) (hfit:off+len * i.size+k * i.size≤cs.size) (hfz:∀ o,o<cs.size→¬(fz.1≤o∧o<fz.2)) (h1:∀ u∈new.toList,u.oneCell'=true) :
 (Builtin.append_ c.argTypes ty #[sv,xv]).run P w = .ok (.slice (some ⟨b,off,none⟩) (len+k) cap) (setB w b (.cells (putCells cs (off+len * i.size) new.toList) el fz)):=by
 have hszo:szOf P e=some i.size:=by simp [szOf,hi]
 obtain ⟨lo,hi'⟩:=fz
 have hst:=run_storeCells P (b:=b) (o:=off+len * i.size) new.toList 0 w cs hb (by simp [hsz];omega) hfz h1
 rw [Nat.add_zero] at hst
 subst hs
 rcases hd1 with hd1|⟨e',hd1⟩
 all_goals
  simp only [Builtin.append_,hty0,hty1,List.getElem?_toArray,List.getElem?_cons_zero,List.getElem?_cons_succ,Sem.run_bind,run_und hu,Result.andThen_ok,run_size hszo,run_und hd1,Sem.run_pure,Bool.false_eq_true,if_false,hlen]
  rw [if_pos hle]
  simp only [Sem.run_bind,Bool.not_false,if_true,hnew,Result.andThen_ok,addr_add,hst,Sem.run_pure]
theorem run_append_none {c:Call} {t0 t1 e:TypeId} {i:TypeInfo} {ty:TypeId} {sv xv:Value} {base:Option Addr} {len cap:Nat} (hty0:c.argTypes[0]? = some t0) (hty1:c.argTypes[1]? = some t1)
 (hu:P.underlying t0=some (.slice e)) (hd1:P.underlying t1=some .string∨∃ e',P.underlying t1=some (.slice e')) (hi:P.info? e=some i) (hs:sv = .slice base len cap)
 (hlen:(Builtin.lenOf xv).run P w = .ok 0 w) (hle:len≤cap) (hnew:(Builtin.firstCells i.size 0 xv).run P w = .ok #[] w) :
 (Builtin.append_ c.argTypes ty #[sv,xv]).run P w = .ok (.slice base len cap) w:=by
 have hszo:szOf P e=some i.size:=by simp [szOf,hi]
 subst hs
 rcases hd1 with hd1|⟨e',hd1⟩
 all_goals
  simp only [Builtin.append_,hty0,hty1,List.getElem?_toArray,List.getElem?_cons_zero,List.getElem?_cons_succ,Sem.run_bind,run_und hu,Result.andThen_ok,run_size hszo,run_und hd1,Sem.run_pure,Bool.false_eq_true,if_false,hlen,Nat.add_zero]
  rw [if_pos hle]
  simp only [Sem.run_bind,Bool.not_false,if_true,hnew,Result.andThen_ok]
  cases base <;> simp [storeCells]
end
end
section
section
variable {P:Program} {E:Env} {G:Gh} {B:Nat} {m:Mu} {s:St} {a:Act} {w w1:World}
variable {call:CallF} {orc:Nat→Nat} {o:Oper} {q:Res}
def gTok (G:Gh) (id t:Nat) (r:Rec):Gh:={ G with rows:=fun i tok=>if i=id∧tok=t then some r else G.rows i tok }
theorem gTok_ext {id t hi:Nat} {r:Rec} (h:G.rows id t=none) (hlt:id<hi):Ext G (gTok G id t r) hi:=by
 refine ⟨fun i tok r' e=>?_,fun i b e=>e,fun i hi'=>⟨?_,rfl⟩⟩
 ·simp only [gTok]
  split
  ·rename_i hc
   obtain ⟨rfl,rfl⟩:=hc
   rw [h] at e
   simp at e
  ·exact e
 ·funext tok
  simp only [gTok]
  rw [if_neg (by rintro ⟨rfl,_⟩;omega)]
theorem growIn {hp:Hp} {lc:List (List CV)} {id sz cur lw tok e:Nat} {rs xs:List (List CV)} {r:Rec} {cs:Array Value} {el:TypeId} {fz:Nat × Nat} {vs:List Value} (hH:RH E G B hp.f w) (hL:RLc E G B hp.f m lc w)
 (hid:hp.f id=some (.rows true sz cur lw rs)) (hlw:lw≤tok) (hg:G.rows id tok=some r) (hb:w.heap[r.blk]? = some (.cells cs el fz)) (hlo:r.lo≤e) (he:e≤r.n) (hroom:e+xs.length-r.lo≤r.tot)
 (hw:∀ row∈xs,row.length=sz) (hv:RL E G xs.flatten vs) :
 let hp':=hp.put id (.rows true sz (cur+1) (if e=rs.length then lw else cur+1) (rs.take e++xs))
 let w':=setB w r.blk (.cells (putCells cs (r.pos e 0) vs) el fz)
 let G':=gTok G id (cur+1) { r with n:=e+xs.length }
 r.pos e 0+vs.length≤cs.size∧RH E G' B hp'.f w'∧RLc E G' B hp'.f m lc w'∧(∀ b,Owned G' hp'.f b→Owned G hp.f b∨w.heap.size≤b)∧Fr (fun b=>Owned G hp.f b∧B≤b) w w'∧Ext G G' hp'.obs.length:=by
 intro hp' w' G'
 have ho:=hH.each id _ hid
 simp only [RO] at ho
 obtain ⟨h1,⟨rc,h2,h2'⟩,h3,h4,h5⟩:=ho
 have hra:=h4 tok r hlw hg
 obtain ⟨cs0,el0,fz0,k1,k2,k3,k4⟩:=hra.cells
 rw [hb] at k1;injection k1 with k1;injection k1 with e1 e2 e3;subst e1 e2 e3
 have hvl:=hv.length
 rw [flat_len hw] at hvl
 have hpn:r.pos e 0=r.base+(e-r.lo) * sz:=by simp [Rec.pos,hra.size]
 have hfit:r.pos e 0+vs.length≤cs.size:=by
  refine Nat.le_trans ?_ k2
  rw [hpn,hvl]
  have:(e-r.lo+xs.length) * sz≤r.tot * sz:=Nat.mul_le_mul_right _ (by omega)
  rw [Nat.add_mul] at this
  omega
 have hnone:G.rows id (cur+1)=none:=by
  cases hq:G.rows id (cur+1) with
  | none=>rfl
  | some r'=>have:=h3 _ _ hq;omega
 have hidlt:=f_lt hid
 have hx:Ext G G' hp.obs.length:=gTok_ext hnone hidlt
 have hget:=setB_get (o:=.cells (putCells cs (r.pos e 0) vs) el fz) hb
 have hown:Owns G id r.blk true (.rows true sz cur lw rs):=⟨rfl,tok,r,hlw,hg,rfl⟩
 have hput:=fun k=>putCells_get vs cs (r.pos e 0) hfit k
 have htok:∀ t,G'.rows id t=if t=cur+1 then some { r with n:=e+xs.length } else G.rows id t:=by
  intro t;simp [G',gTok]
 have hlenrs:e≤rs.length:=by have:=hra.len;omega
 have hget':∀ (i:Nat) (row:List CV),(rs.take e++xs)[i]? = some row→(i<e∧rs[i]? = some row)∨(e≤i∧xs[i-e]? = some row∧i<e+xs.length):=by
  intro i row h
  rw [List.getElem?_append] at h
  simp only [List.length_take,Nat.min_eq_left hlenrs] at h
  split at h
  ·rename_i hi
   rw [List.getElem?_take,if_pos hi] at h
   exact .inl ⟨hi,h⟩
  ·rename_i hi
   have:i-e<xs.length:=by
    rcases Nat.lt_or_ge (i-e) xs.length with h'|h'
    ·exact h'
    ·simp [List.getElem?_eq_none h'] at h
   exact .inr ⟨by omega,h,by omega⟩
 have hnew:RowsAt E G' B w' true sz { r with n:=e+xs.length } (rs.take e++xs):=by
  refine ⟨hra.size,by simp [Nat.min_eq_left hlenrs],by simp only;omega,by simp only;omega,?_,putCells cs (r.pos e 0) vs,el,fz,?_,by rw [putCells_size];exact k2,fun ht=>by rw [putCells_size];exact k3 ht,?_⟩
  ·intro i row g1 g2 g3
   simp only at g1 g2
   rcases hget' i row g3 with ⟨c1,c2⟩|⟨c1,c2,c3⟩
   ·exact hra.width i row g1 (by omega) c2
   ·exact hw row (List.mem_of_getElem? c2)
  ·show (setB w r.blk _).heap[r.blk]? = _
   rw [hget,if_pos rfl]
  ·intro i row j x g1 g2 g3 g4
   simp only at g1 g2
   have hpos:Rec.pos { r with n:=e+xs.length } i j=r.pos i j:=rfl
   rw [hpos,hput]
   rcases hget' i row g3 with ⟨c1,c2⟩|⟨c1,c2,c3⟩
   ·have hwid:=hra.width i row g1 (by omega) c2
    have hj:j<sz:=by
     rcases Nat.lt_or_ge j row.length with h'|h'
     ·omega
     ·simp [List.getElem?_eq_none h'] at g4
    have:=pos_lt (r:=r) (i:=i) (i':=e) (j:=j) (j':=0) hra.size g1 c1 hj
    rw [if_neg (by omega)]
    obtain ⟨v,hv',rv⟩:=k4 i row j x g1 (by omega) c2 g4
    exact ⟨v,hv',RC.ext hx rv⟩
   ·have hwid:=hw row (List.mem_of_getElem? c2)
    have hj:j<sz:=by
     rcases Nat.lt_or_ge j row.length with h'|h'
     ·omega
     ·simp [List.getElem?_eq_none h'] at g4
    have hpi:r.pos i j=r.pos e 0+((i-e) * sz+j):=by
     have:=pos_next (r:=r) (i:=e) (k:=i-e) hra.size hlo
     rw [show e+(i-e)=i by omega] at this
     have e4:r.pos i j=r.pos i 0+j:=by simp [Rec.pos]
     omega
    have hfl:=flat_get g4 xs (i-e) hw c2
    obtain ⟨u,hu,ru⟩:=hv.get hfl
    have hlt:(i-e) * sz+j<vs.length:=by
     rcases Nat.lt_or_ge ((i-e) * sz+j) vs.length with h'|h'
     ·exact h'
     ·simp [List.getElem?_eq_none h'] at hu
    rw [hpi,if_pos (by omega),show r.pos e 0+((i-e) * sz+j)-r.pos e 0=(i-e) * sz+j by omega]
    exact ⟨u,hu,RC.ext hx ru⟩
 obtain ⟨p1,p2,p3⟩:=put_ok (G':=G') (w':=w') (o':=.rows true sz (cur+1) (if e=rs.length then lw else cur+1) (rs.take e++xs)) hH hL hid hx
  (fun j hj=>⟨by funext t;simp [G',gTok,hj],rfl⟩) (by show _≤(setB w r.blk _).heap.size;rw [setB_size];exact Nat.le_refl _)
  (by
   intro b _ hn
   show (setB w r.blk _).heap[b]? = _
   rw [hget,if_neg (by rintro rfl;exact hn hown)])
  (by
   simp only [RO]
   refine ⟨by split <;> omega,⟨{ r with n:=e+xs.length },by rw [htok,if_pos rfl],by simp [Nat.min_eq_left hlenrs]⟩,?_,?_,?_⟩
   ·intro t r' h
    rw [htok] at h
    split at h
    ·omega
    ·have:=h3 _ _ h;omega
   ·intro t r' hle h
    rw [htok] at h
    split at h
    ·injection h with h
     subst h
     exact hnew
    ·have hlt:=h3 _ _ h
     split at hle
     rotate_left
     ·omega
     rename_i heq
     have hr':=h4 t r' hle h
     obtain ⟨cs',el',fz',l1,l2,l3,l4⟩:=hr'.cells
     have hsame:rs.take e=rs:=by rw [heq];simp
     rw [hsame]
     have hrow:∀ (i:Nat) (row:List CV),i<r'.n→(rs++xs)[i]? = some row→rs[i]? = some row:=by
      intro i row hi h
      rw [List.getElem?_append_left (by have:=hr'.len;omega)] at h
      exact h
     by_cases hbk:r'.blk=r.blk
     ·obtain ⟨q1,q2,q3⟩:=h5 t tok r' r hle hlw h hg hbk
      rw [hbk] at l1
      rw [hb] at l1;injection l1 with l1;injection l1 with e1 e2 e3;subst e1 e2 e3
      refine ⟨hr'.size,by simp;have:=hr'.len;omega,hr'.lo,hr'.fit,fun i row g1 g2 g3=>hr'.width i row g1 g2 (hrow i row g2 g3),putCells cs (r.pos e 0) vs,el,fz,?_,by rw [putCells_size];exact l2,fun ht=>by rw [putCells_size];exact l3 ht,?_⟩
      ·show (setB w r.blk _).heap[r'.blk]? = _
       rw [hget,if_pos hbk]
      ·intro i row j x g1 g2 g3 g4
       have hrw:=hrow i row g2 g3
       have hwid:=hr'.width i row g1 g2 hrw
       have hj:j<sz:=by
        rcases Nat.lt_or_ge j row.length with h'|h'
        ·omega
        ·simp [List.getElem?_eq_none h'] at g4
       obtain ⟨v,hv',rv⟩:=l4 i row j x g1 g2 hrw g4
       have hpp:r'.pos i j=r.pos i j:=by simp [Rec.pos,q1,q2,hr'.size,hra.size]
       have:=pos_lt (r:=r) (i:=i) (i':=e) (j:=j) (j':=0) hra.size (by omega) (by have:=hr'.len;omega) hj
       rw [hput,if_neg (by rw [hpp];omega)]
       exact ⟨v,hv',RC.ext hx rv⟩
     ·refine ⟨hr'.size,by simp;have:=hr'.len;omega,hr'.lo,hr'.fit,fun i row g1 g2 g3=>hr'.width i row g1 g2 (hrow i row g2 g3),cs',el',fz',?_,l2,l3,?_⟩
      ·show (setB w r.blk _).heap[r'.blk]? = _
       rw [hget,if_neg hbk]
       exact l1
      ·intro i row j x g1 g2 g3 g4
       obtain ⟨v,hv',rv⟩:=l4 i row j x g1 g2 (hrow i row g2 g3) g4
       exact ⟨v,hv',RC.ext hx rv⟩
   ·intro t1 t2 r1 r2 hl1 hl2 g1 g2 hbk
    rw [htok] at g1 g2
    split at hl1
    ·rename_i heq
     rw [if_pos heq] at hl2
     split at g1 <;> split at g2
     ·injection g1 with g1;injection g2 with g2;subst g1 g2;exact ⟨rfl,rfl,rfl⟩
     ·injection g1 with g1
      subst g1
      exact h5 tok t2 r r2 hlw hl2 hg g2 hbk
     ·injection g2 with g2
      subst g2
      exact h5 t1 tok r1 r hl1 hlw g1 hg hbk
     ·exact h5 t1 t2 r1 r2 hl1 hl2 g1 g2 hbk
    ·rename_i hne
     rw [if_neg hne] at hl2
     split at g1
     ·split at g2
      ·injection g1 with g1;injection g2 with g2;subst g1 g2;exact ⟨rfl,rfl,rfl⟩
      ·have:=h3 _ _ g2;omega
     ·have:=h3 _ _ g1;omega)
  (by
   rintro b wr ⟨hwr,t,r',hle,h,rfl⟩
   rw [htok] at h
   split at h
   ·injection h with h
    subst h
    exact .inl hown
   ·have:=h3 _ _ h
    split at hle
    ·exact .inl ⟨rfl,t,r',hle,h,rfl⟩
    ·omega)
 refine ⟨hfit,p1,p2,p3,⟨rfl,rfl,rfl,by show _≤(setB w r.blk _).heap.size;rw [setB_size];exact Nat.le_refl _,fun b hb' hn=>?_⟩,by
  have:hp'.obs.length=hp.obs.length:=by simp [hp',Hp.put]
  rw [this];exact hx⟩
 show (setB w r.blk _).heap[b]? = _
 rw [hget,if_neg (by rintro rfl;exact hn ⟨⟨id,_,true,hid,hown⟩,(k3 rfl).1⟩)]
end
end
section
section
variable {P:Program} {E:Env} {G:Gh} {B:Nat} {m:Mu} {s:St} {a:Act} {w w1:World}
variable {call:CallF} {orc:Nat→Nat} {o:Oper} {q:Res}
theorem growNew {hp:Hp} {lc:List (List CV)} {id sz cur lw tok off e newCap:Nat} {rs xs:List (List CV)} {cs:Array Value} {el:TypeId} {r0:Rec} (hH:RH E G B hp.f w) (hL:RLc E G B hp.f m lc w)
 (hid:hp.f id=some (.rows true sz cur lw rs)) (hlw:lw≤tok) (hg:G.rows id tok=some r0) (hle:off≤e) (he:e≤rs.length) (hw:∀ row∈(rs.drop off).take (e-off)++xs,row.length=sz) (hcap:e-off+xs.length≤newCap) (hsz:cs.size=newCap * sz)
 (hv:RL E G ((rs.drop off).take (e-off)++xs).flatten (cs.toList.take ((e-off+xs.length) * sz))) :
 let hp':=hp.put id (.rows true sz (cur+1) (if e=rs.length then lw else cur+1) (rs.take e++xs))
 let w':=w.alloc (.cells cs el)
 let G':=gTok G id (cur+1) ⟨w.heap.size,0,off,e+xs.length,sz,newCap⟩
 RH E G' B hp'.f w'∧RLc E G' B hp'.f m lc w'∧(∀ b,Owned G' hp'.f b→Owned G hp.f b∨w.heap.size≤b)∧Fr (fun _=>False) w w'∧Ext G G' hp'.obs.length:=by
 intro hp' w' G'
 have ho:=hH.each id _ hid
 simp only [RO] at ho
 obtain ⟨h1,⟨rc,h2,h2'⟩,h3,h4,h5⟩:=ho
 have hnone:G.rows id (cur+1)=none:=by
  cases hq:G.rows id (cur+1) with
  | none=>rfl
  | some r'=>have:=h3 _ _ hq;omega
 have hidlt:=f_lt hid
 have hx:Ext G G' hp.obs.length:=gTok_ext hnone hidlt
 have hblk:∀ b,b<w.heap.size→w'.heap[b]? = w.heap[b]?:=fun b hb=>Below.heap_alloc w _ b hb
 have htok:∀ t,G'.rows id t=if t=cur+1 then some ⟨w.heap.size,0,off,e+xs.length,sz,newCap⟩ else G.rows id t:=by
  intro t;simp [G',gTok]
 have hget':∀ (i:Nat) (row:List CV),off≤i→(rs.take e++xs)[i]? = some row→((rs.drop off).take (e-off)++xs)[i-off]? = some row:=by
  intro i row hi h
  rw [List.getElem?_append] at h ⊢
  simp only [List.length_take,Nat.min_eq_left he,List.length_drop] at h ⊢
  split at h
  ·rename_i hie
   rw [if_pos (by omega),List.getElem?_take,if_pos (by omega),List.getElem?_drop,show off+(i-off)=i by omega]
   rwa [List.getElem?_take,if_pos hie] at h
  ·rename_i hie
   rw [if_neg (by omega),show i-off-min (e-off) (rs.length-off)=i-e by omega]
   exact h
 have hnew:RowsAt E G' B w' true sz ⟨w.heap.size,0,off,e+xs.length,sz,newCap⟩ (rs.take e++xs):=by
  refine ⟨rfl,by simp [Nat.min_eq_left he],by simp only;omega,by simp only;omega,fun i row g1 g2 g3=>hw row (List.mem_of_getElem? (hget' i row g1 g3)),cs,el,(0,0),alloc_new _ _,by simpa using Nat.le_of_eq hsz.symm,fun _=>⟨hH.size,by intros;omega⟩,?_⟩
  intro i row j x g1 g2 g3 g4
  simp only at g1 g2
  have g5:=hget' i row g1 g3
  have hfl:=flat_get g4 _ (i-off) hw g5
  obtain ⟨u,hu,ru⟩:=hv.get hfl
  rw [List.getElem?_take] at hu
  split at hu
  ·refine ⟨u,?_,RC.ext hx ru⟩
   simp only [Rec.pos,Nat.zero_add]
   simpa using hu
  ·simp at hu
 obtain ⟨p1,p2,p3⟩:=put_ok (G':=G') (w':=w') (o':=.rows true sz (cur+1) (if e=rs.length then lw else cur+1) (rs.take e++xs)) hH hL hid hx
  (fun j hj=>⟨by funext t;simp [G',gTok,hj],rfl⟩) (by simp [w']) (fun b hb _=>hblk b hb)
  (by
   simp only [RO]
   refine ⟨by split <;> omega,⟨_,by rw [htok,if_pos rfl],by simp [Nat.min_eq_left he]⟩,?_,?_,?_⟩
   ·intro t r' h
    rw [htok] at h
    split at h
    ·omega
    ·have:=h3 _ _ h;omega
   ·intro t r' hle' h
    rw [htok] at h
    split at h
    ·injection h with h
     subst h
     exact hnew
    ·have hlt:=h3 _ _ h
     split at hle'
     rotate_left
     ·omega
     rename_i heq
     have hr':=h4 t r' hle' h
     obtain ⟨cs',el',fz',l1,l2,l3,l4⟩:=hr'.cells
     have hsame:rs.take e=rs:=by rw [heq];simp
     rw [hsame]
     have hrow:∀ (i:Nat) (row:List CV),i<r'.n→(rs++xs)[i]? = some row→rs[i]? = some row:=by
      intro i row hi h
      rw [List.getElem?_append_left (by have:=hr'.len;omega)] at h
      exact h
     refine ⟨hr'.size,by simp;have:=hr'.len;omega,hr'.lo,hr'.fit,fun i row g1 g2 g3=>hr'.width i row g1 g2 (hrow i row g2 g3),cs',el',fz',?_,l2,l3,?_⟩
     ·rw [hblk _ (lt_of_get l1)]
      exact l1
     ·intro i row j x g1 g2 g3 g4
      obtain ⟨v,hv',rv⟩:=l4 i row j x g1 g2 (hrow i row g2 g3) g4
      exact ⟨v,hv',RC.ext hx rv⟩
   ·intro t1 t2 r1 r2 hl1 hl2 g1 g2 hbk
    rw [htok] at g1 g2
    have hfar:∀ t r',(if e=rs.length then lw else cur+1)≤t→G.rows id t=some r'→r'.blk<w.heap.size:=by
     intro t r' hl h
     have hlt:=h3 _ _ h
     split at hl
     ·obtain ⟨cs',el',fz',l1,_⟩:=(h4 t r' hl h).cells
      exact lt_of_get l1
     ·omega
    split at g1 <;> split at g2
    ·injection g1 with g1;injection g2 with g2;subst g1 g2;exact ⟨rfl,rfl,rfl⟩
    ·injection g1 with g1
     subst g1
     have:=hfar t2 r2 hl2 g2
     simp only at hbk
     omega
    ·injection g2 with g2
     subst g2
     have:=hfar t1 r1 hl1 g1
     simp only at hbk
     omega
    ·split at hl1
     ·rename_i heq
      rw [if_pos heq] at hl2
      exact h5 t1 t2 r1 r2 hl1 hl2 g1 g2 hbk
     ·have:=h3 _ _ g1;omega)
  (by
   rintro b wr ⟨hwr,t,r',hle',h,rfl⟩
   rw [htok] at h
   split at h
   ·injection h with h
    subst h
    exact .inr (Nat.le_refl _)
   ·have:=h3 _ _ h
    split at hle'
    ·exact .inl ⟨rfl,t,r',hle',h,rfl⟩
    ·omega)
 refine ⟨p1,p2,p3,⟨rfl,rfl,rfl,by simp [w'],fun b hb' _=>hblk b hb'⟩,by
  have:hp'.obs.length=hp.obs.length:=by simp [hp',Hp.put]
  rw [this];exact hx⟩
theorem growVs_get {vs:List (Option (List (List CV)))} {e t:Nat} {new rs':List (List CV)} (h:(growVs vs e new)[t]? = some (some rs')):(t=vs.length∧rs'=new)∨(t<vs.length∧∃ rs,vs[t]? = some (some rs)∧rs'=rs.take e):=by
 unfold growVs at h
 rw [List.getElem?_append] at h
 split at h
 ·rename_i hlt
  rw [List.length_map] at hlt
  rw [List.getElem?_map] at h
  cases hv:vs[t]? with
  | none=>rw [hv] at h;cases h
  | some o=>
   rw [hv] at h
   cases o with
   | none=>simp at h
   | some rs=>simp at h;exact .inr ⟨hlt,rs,rfl,h.symm⟩
 ·rename_i hge
  rw [List.length_map] at h hge
  have:t-vs.length=0:=by
   rcases Nat.eq_zero_or_pos (t-vs.length) with h'|h'
   ·exact h'
   ·rw [List.getElem?_eq_none (by simp;omega)] at h;cases h
  rw [this] at h
  simp at h
  exact .inl ⟨by omega,h.symm⟩
theorem oneV_get {cur tok t:Nat} {rs rs':List (List CV)} (h:(oneV cur tok rs)[t]? = some (some rs')):t=tok∧rs'=rs:=by
 unfold oneV at h
 rw [List.getElem?_set] at h
 split at h
 ·split at h
  ·simp at h;exact ⟨by omega,h.symm⟩
  ·cases h
 ·rw [List.getElem?_replicate] at h
  split at h <;> simp at h
theorem oneV_self {cur tok:Nat} {rs:List (List CV)} (h:tok≤cur):(oneV cur tok rs)[tok]? = some (some rs):=by
 unfold oneV
 rw [List.getElem?_set,if_pos rfl,if_pos (by simp;omega)]
theorem RowsAt.cut {wr:Bool} {sz e:Nat} {r:Rec} {rs:List (List CV)} (h:RowsAt E G B w wr sz r rs) (h0:r.lo=0) (he:e≤r.n):RowsAt E G B w wr sz { r with n:=(rs.take e).length } (rs.take e):=by
 have hlen:=h.len
 have hl:(rs.take e).length=e:=by simp;omega
 rw [hl]
 obtain ⟨cs,el,fz,k1,k2,k3,k4⟩:=h.cells
 have hrow:∀ (i:Nat) (row:List CV),(rs.take e)[i]? = some row→i<e∧rs[i]? = some row:=by
  intro i row g
  rw [List.getElem?_take] at g
  split at g
  ·exact ⟨‹_›,g⟩
  ·cases g
 refine ⟨h.size,by rw [hl];exact Nat.le_refl _,by simp only;omega,by have:=h.fit;simp only;omega,fun i row g1 g2 g3=>h.width i row (by simp only at g1;omega) (by simp only at g2;omega) (hrow i row g3).2,cs,el,fz,k1,k2,k3,?_⟩
 intro i row j x g1 g2 g3 g4
 simp only at g1 g2
 exact k4 i row j x (by omega) (by omega) (hrow i row g3).2 g4
theorem toGrow {hp:Hp} {lc:List (List CV)} {id sz cur lw tok e:Nat} {rs:List (List CV)} {r:Rec} (hH:RH E G B hp.f w) (hL:RLc E G B hp.f m lc w)
 (hid:hp.f id=some (.rows true sz cur lw rs)) (hlw:lw≤tok) (hg:G.rows id tok=some r) (h0:r.lo=0) (he:e≤r.n) :
 let hp':=hp.put id (.grow sz (oneV cur tok (rs.take e)))
 RH E G B hp'.f w∧RLc E G B hp'.f m lc w∧(∀ b,Owned G hp'.f b→Owned G hp.f b):=by
 intro hp'
 have ho:=hH.each id _ hid
 simp only [RO] at ho
 obtain ⟨h1,_,h3,h4,_⟩:=ho
 have hlen:=(h4 tok r hlw hg).len
 obtain ⟨p1,p2,p3⟩:=put_ok (G':=G) (w':=w) (o':=.grow sz (oneV cur tok (rs.take e))) hH hL hid (Ext.refl _ _) (fun _ _=>⟨rfl,rfl⟩) (Nat.le_refl _) (fun _ _ _=>rfl)
  (by
   simp only [RO]
   refine ⟨fun t r' h=>by have:=h3 t r' h;simp [oneV];omega,?_,?_⟩
   ·intro t r' rs' hv hg'
    obtain ⟨rfl,rfl⟩:=oneV_get hv
    rw [hg] at hg'
    injection hg' with hg'
    subst hg'
    exact ⟨by simp;omega,h0,(h4 t r hlw hg).cut h0 he⟩
   ·intro t1 t2 r1 r2 rs1 rs2 hv1 hv2 g1 g2 _
    obtain ⟨rfl,rfl⟩:=oneV_get hv1
    obtain ⟨rfl,rfl⟩:=oneV_get hv2
    rw [g1] at g2
    injection g2 with g2
    subst g2
    exact ⟨rfl,rfl⟩)
  (by
   rintro b wr ⟨hwr,t,r',rs',hv,h,rfl⟩
   obtain ⟨rfl,rfl⟩:=oneV_get hv
   exact .inl ⟨rfl,t,r',hlw,h,rfl⟩)
 refine ⟨p1,p2,fun b hb=>?_⟩
 obtain ⟨j,oj,wr,h1',h2'⟩:=hb
 rw [f_put _ _ _ _ (f_lt hid)] at h1'
 split at h1'
 ·rename_i hj
  injection h1' with h1'
  subst h1'
  obtain ⟨_,t,r',rs',hv,h,rfl⟩:=h2'
  obtain ⟨rfl,rfl⟩:=oneV_get hv
  exact ⟨id,_,true,hid,rfl,t,r',hlw,by rw [←hj];exact h,rfl⟩
 ·exact ⟨j,oj,wr,h1',h2'⟩
theorem grow_old {e:Nat} {gs:List (Option (List (List CV)))} {sz id t:Nat} {r':Rec} {rs':List (List CV)} (h4:∀ tok r rs,gs[tok]? = some (some rs)→G.rows id tok=some r→rs.length≤r.n∧r.lo=0∧RowsAt E G B w true sz { r with n:=rs.length } rs) (hv1:gs[t]? = some (some rs')) (hg1:G.rows id t=some r') :
 RowsAt E G B w true sz { r' with n:=(rs'.take e).length } (rs'.take e):=by
 obtain ⟨q1,q2,q3⟩:=h4 t r' rs' hv1 hg1
 have hcut:=q3.cut (e:=min e rs'.length) q2 (Nat.min_le_right _ _)
 rw [←List.take_eq_take_min] at hcut
 exact hcut
theorem growGIn {hp:Hp} {lc:List (List CV)} {id sz tok e:Nat} {gs:List (Option (List (List CV)))} {rs xs:List (List CV)} {r:Rec} {cs:Array Value} {el:TypeId} {fz:Nat × Nat} {vs:List Value} (hH:RH E G B hp.f w) (hL:RLc E G B hp.f m lc w)
 (hid:hp.f id=some (.grow sz gs)) (hv0:gs[tok]? = some (some rs)) (hg:G.rows id tok=some r) (hb:w.heap[r.blk]? = some (.cells cs el fz)) (he:e≤rs.length) (hroom:e+xs.length≤r.tot)
 (hw:∀ row∈xs,row.length=sz) (hv:RL E G xs.flatten vs) :
 let hp':=hp.put id (.grow sz (growVs gs e (rs.take e++xs)))
 let w':=setB w r.blk (.cells (putCells cs (r.pos e 0) vs) el fz)
 let G':=gTok G id gs.length { r with n:=e+xs.length }
 r.pos e 0+vs.length≤cs.size∧(∀ o,o<cs.size→¬(fz.1≤o∧o<fz.2))∧RH E G' B hp'.f w'∧RLc E G' B hp'.f m lc w'∧(∀ b,Owned G' hp'.f b→Owned G hp.f b∨w.heap.size≤b)∧Fr (fun b=>Owned G hp.f b∧B≤b) w w'∧Ext G G' hp'.obs.length:=by
 intro hp' w' G'
 have ho:=hH.each id _ hid
 simp only [RO] at ho
 obtain ⟨h3,h4,h5⟩:=ho
 obtain ⟨hrn,hlo,hra⟩:=h4 tok r rs hv0 hg
 obtain ⟨cs0,el0,fz0,k1,k2,k3,k4⟩:=hra.cells
 rw [hb] at k1;injection k1 with k1;injection k1 with e1 e2 e3;subst e1 e2 e3
 have hsz:r.sz=sz:=hra.size
 simp only at k2 k4
 have hvl:=hv.length
 rw [flat_len hw] at hvl
 have hpn:r.pos e 0=r.base+(e-r.lo) * sz:=by simp [Rec.pos,hsz]
 have hfit:r.pos e 0+vs.length≤cs.size:=by
  refine Nat.le_trans ?_ k2
  rw [hpn,hvl]
  have:(e-r.lo+xs.length) * sz≤r.tot * sz:=Nat.mul_le_mul_right _ (by omega)
  rw [Nat.add_mul] at this
  omega
 have hnone:G.rows id gs.length=none:=by
  cases hq:G.rows id gs.length with
  | none=>rfl
  | some r'=>have:=h3 _ _ hq;omega
 have hidlt:=f_lt hid
 have hx:Ext G G' hp.obs.length:=gTok_ext hnone hidlt
 have hget:=setB_get (o:=.cells (putCells cs (r.pos e 0) vs) el fz) hb
 have hown:Owns G id r.blk true (.grow sz gs):=⟨rfl,tok,r,rs,hv0,hg,rfl⟩
 have hput:=fun k=>putCells_get vs cs (r.pos e 0) hfit k
 have htok:∀ t,G'.rows id t=if t=gs.length then some { r with n:=e+xs.length } else G.rows id t:=by
  intro t;simp [G',gTok]
 have hnl:(rs.take e++xs).length=e+xs.length:=by simp;omega
 have hget':∀ (i:Nat) (row:List CV),(rs.take e++xs)[i]? = some row→(i<e∧rs[i]? = some row)∨(e≤i∧xs[i-e]? = some row∧i<e+xs.length):=by
  intro i row h
  rw [List.getElem?_append] at h
  simp only [List.length_take,Nat.min_eq_left he] at h
  split at h
  ·rename_i hi
   rw [List.getElem?_take,if_pos hi] at h
   exact .inl ⟨hi,h⟩
  ·rename_i hi
   have:i-e<xs.length:=by
    rcases Nat.lt_or_ge (i-e) xs.length with h'|h'
    ·exact h'
    ·simp [List.getElem?_eq_none h'] at h
   exact .inr ⟨by omega,h,by omega⟩
 have hnew:RowsAt E G' B w' true sz { r with n:=e+xs.length } (rs.take e++xs):=by
  refine ⟨hsz,by rw [hnl];exact Nat.le_refl _,by simp only;omega,by simp only;omega,?_,putCells cs (r.pos e 0) vs,el,fz,?_,by rw [putCells_size];exact k2,fun ht=>by rw [putCells_size];exact k3 ht,?_⟩
  ·intro i row g1 g2 g3
   simp only at g1 g2
   rcases hget' i row g3 with ⟨c1,c2⟩|⟨c1,c2,c3⟩
   ·exact hra.width i row (by simp only;omega) (by simp only;omega) c2
   ·exact hw row (List.mem_of_getElem? c2)
  ·show (setB w r.blk _).heap[r.blk]? = _
   rw [hget,if_pos rfl]
  ·intro i row j x g1 g2 g3 g4
   simp only at g1 g2
   have hpos:Rec.pos { r with n:=e+xs.length } i j=r.pos i j:=rfl
   rw [hpos,hput]
   rcases hget' i row g3 with ⟨c1,c2⟩|⟨c1,c2,c3⟩
   ·have hwid:=hra.width i row (by simp only;omega) (by simp only;omega) c2
    have hj:j<sz:=by
     rcases Nat.lt_or_ge j row.length with h'|h'
     ·omega
     ·simp [List.getElem?_eq_none h'] at g4
    have:=pos_lt (r:=r) (i:=i) (i':=e) (j:=j) (j':=0) hsz (by omega) c1 hj
    rw [if_neg (by omega)]
    obtain ⟨v,hv',rv⟩:=k4 i row j x (by omega) (by omega) c2 g4
    exact ⟨v,hv',RC.ext hx rv⟩
   ·have hwid:=hw row (List.mem_of_getElem? c2)
    have hj:j<sz:=by
     rcases Nat.lt_or_ge j row.length with h'|h'
     ·omega
     ·simp [List.getElem?_eq_none h'] at g4
    have hpi:r.pos i j=r.pos e 0+((i-e) * sz+j):=by
     have:=pos_next (r:=r) (i:=e) (k:=i-e) hsz (by omega)
     rw [show e+(i-e)=i by omega] at this
     have e4:r.pos i j=r.pos i 0+j:=by simp [Rec.pos]
     omega
    have hfl:=flat_get g4 xs (i-e) hw c2
    obtain ⟨u,hu,ru⟩:=hv.get hfl
    have hlt:(i-e) * sz+j<vs.length:=by
     rcases Nat.lt_or_ge ((i-e) * sz+j) vs.length with h'|h'
     ·exact h'
     ·simp [List.getElem?_eq_none h'] at hu
    rw [hpi,if_pos (by omega),show r.pos e 0+((i-e) * sz+j)-r.pos e 0=(i-e) * sz+j by omega]
    exact ⟨u,hu,RC.ext hx ru⟩
 have hold:∀ t r' rs',gs[t]? = some (some rs')→G.rows id t=some r'→RowsAt E G' B w' true sz { r' with n:=(rs'.take e).length } (rs'.take e):=by
  intro t r' rs' hv1 hg1
  have hcut:=grow_old (e:=e) h4 hv1 hg1
  obtain ⟨_,q2,q3⟩:=h4 t r' rs' hv1 hg1
  obtain ⟨cs',el',fz',l1,l2,l3,l4⟩:=hcut.cells
  simp only at l1 l2 l4
  by_cases hbk:r'.blk=r.blk
  ·rw [hbk,hb] at l1
   injection l1 with l1;injection l1 with a1 a2 a3;subst a1 a2 a3
   obtain ⟨b1,b2⟩:=h5 t tok r' r rs' rs hv1 hv0 hg1 hg hbk
   refine ⟨hcut.size,hcut.len,hcut.lo,hcut.fit,hcut.width,putCells cs (r.pos e 0) vs,el,fz,?_,by rw [putCells_size];exact l2,fun ht=>by rw [putCells_size];exact l3 ht,?_⟩
   ·show (setB w r.blk _).heap[r'.blk]? = _
    rw [hget,if_pos hbk]
   ·intro i row j x g1 g2 g3 g4
    simp only at g1 g2
    obtain ⟨v,hv',rv⟩:=l4 i row j x g1 g2 g3 g4
    have hwid:=hcut.width i row g1 g2 g3
    have hj:j<sz:=by
     rcases Nat.lt_or_ge j row.length with h'|h'
     ·omega
     ·simp [List.getElem?_eq_none h'] at g4
    have hie:i<e:=by simp at g2;omega
    have hpp:Rec.pos { r' with n:=(rs'.take e).length } i j=r.pos i j:=by
     simp only [Rec.pos,b1,q2,hlo,hsz,show r'.sz=sz from q3.size]
    have:=pos_lt (r:=r) (i:=i) (i':=e) (j:=j) (j':=0) hsz (by omega) hie hj
    rw [hpp] at hv' ⊢
    rw [hput,if_neg (by omega)]
    exact ⟨v,hv',RC.ext hx rv⟩
  ·refine ⟨hcut.size,hcut.len,hcut.lo,hcut.fit,hcut.width,cs',el',fz',?_,l2,l3,?_⟩
   ·show (setB w r.blk _).heap[r'.blk]? = _
    rw [hget,if_neg hbk]
    exact l1
   ·intro i row j x g1 g2 g3 g4
    obtain ⟨v,hv',rv⟩:=l4 i row j x g1 g2 g3 g4
    exact ⟨v,hv',RC.ext hx rv⟩
 obtain ⟨p1,p2,p3⟩:=put_ok (G':=G') (w':=w') (o':=.grow sz (growVs gs e (rs.take e++xs))) hH hL hid hx
  (fun j hj=>⟨by funext t;simp [G',gTok,hj],rfl⟩) (by show _≤(setB w r.blk _).heap.size;rw [setB_size];exact Nat.le_refl _)
  (by
   intro b _ hn
   show (setB w r.blk _).heap[b]? = _
   rw [hget,if_neg (by rintro rfl;exact hn hown)])
  (by
   simp only [RO]
   refine ⟨?_,?_,?_⟩
   ·intro t r' h
    rw [htok] at h
    simp only [growVs,List.length_append,List.length_map,List.length_singleton]
    split at h
    ·omega
    ·have:=h3 _ _ h;omega
   ·intro t r' rs' hv1 h
    rw [htok] at h
    rcases growVs_get hv1 with ⟨rfl,rfl⟩|⟨hlt,rs0,hv2,rfl⟩
    ·rw [if_pos rfl] at h
     injection h with h
     subst h
     rw [hnl]
     exact ⟨Nat.le_refl _,hlo,hnew⟩
    ·rw [if_neg (by omega)] at h
     obtain ⟨q1,q2,q3⟩:=h4 t r' rs0 hv2 h
     exact ⟨by simp;omega,q2,hold t r' rs0 hv2 h⟩
   ·intro t1 t2 r1 r2 rs1 rs2 hv1 hv2 g1 g2 hbk
    rw [htok] at g1 g2
    rcases growVs_get hv1 with ⟨rfl,rfl⟩|⟨hlt1,rs01,hv1',rfl⟩ <;> rcases growVs_get hv2 with ⟨rfl,rfl⟩|⟨hlt2,rs02,hv2',rfl⟩
    ·rw [if_pos rfl] at g1 g2
     injection g1 with g1;injection g2 with g2;subst g1 g2;exact ⟨rfl,rfl⟩
    ·rw [if_pos rfl] at g1
     rw [if_neg (by omega)] at g2
     injection g1 with g1
     subst g1
     exact h5 tok t2 r r2 rs rs02 hv0 hv2' hg g2 hbk
    ·rw [if_neg (by omega)] at g1
     rw [if_pos rfl] at g2
     injection g2 with g2
     subst g2
     exact h5 t1 tok r1 r rs01 rs hv1' hv0 g1 hg hbk
    ·rw [if_neg (by omega)] at g1 g2
     exact h5 t1 t2 r1 r2 rs01 rs02 hv1' hv2' g1 g2 hbk)
  (by
   rintro b wr ⟨hwr,t,r',rs',hv1,h,rfl⟩
   rw [htok] at h
   rcases growVs_get hv1 with ⟨rfl,rfl⟩|⟨hlt,rs0,hv2,rfl⟩
   ·rw [if_pos rfl] at h
    injection h with h
    subst h
    exact .inl hown
   ·rw [if_neg (by omega)] at h
    exact .inl ⟨rfl,t,r',rs0,hv2,h,rfl⟩)
 refine ⟨hfit,(k3 rfl).2,p1,p2,p3,⟨rfl,rfl,rfl,by show _≤(setB w r.blk _).heap.size;rw [setB_size];exact Nat.le_refl _,fun b hb' hn=>?_⟩,by
  have:hp'.obs.length=hp.obs.length:=by simp [hp',Hp.put]
  rw [this];exact hx⟩
 show (setB w r.blk _).heap[b]? = _
 rw [hget,if_neg]
 rintro rfl
 exact hn ⟨⟨id,_,true,hid,hown⟩,(k3 rfl).1⟩
theorem growGNew {hp:Hp} {lc:List (List CV)} {id sz tok e newCap:Nat} {gs:List (Option (List (List CV)))} {rs xs:List (List CV)} {cs:Array Value} {el:TypeId} (hH:RH E G B hp.f w) (hL:RLc E G B hp.f m lc w)
 (hid:hp.f id=some (.grow sz gs)) (hv0:gs[tok]? = some (some rs)) (he:e≤rs.length) (hw:∀ row∈rs.take e++xs,row.length=sz) (hcap:e+xs.length≤newCap) (hsz:cs.size=newCap * sz)
 (hv:RL E G (rs.take e++xs).flatten (cs.toList.take ((e+xs.length) * sz))) :
 let hp':=hp.put id (.grow sz (growVs gs e (rs.take e++xs)))
 let w':=w.alloc (.cells cs el)
 let G':=gTok G id gs.length ⟨w.heap.size,0,0,e+xs.length,sz,newCap⟩
 RH E G' B hp'.f w'∧RLc E G' B hp'.f m lc w'∧(∀ b,Owned G' hp'.f b→Owned G hp.f b∨w.heap.size≤b)∧Fr (fun _=>False) w w'∧Ext G G' hp'.obs.length:=by
 intro hp' w' G'
 have ho:=hH.each id _ hid
 simp only [RO] at ho
 obtain ⟨h3,h4,h5⟩:=ho
 have hnone:G.rows id gs.length=none:=by
  cases hq:G.rows id gs.length with
  | none=>rfl
  | some r'=>have:=h3 _ _ hq;omega
 have hidlt:=f_lt hid
 have hx:Ext G G' hp.obs.length:=gTok_ext hnone hidlt
 have hblk:∀ b,b<w.heap.size→w'.heap[b]? = w.heap[b]?:=fun b hb=>Below.heap_alloc w _ b hb
 have htok:∀ t,G'.rows id t=if t=gs.length then some ⟨w.heap.size,0,0,e+xs.length,sz,newCap⟩ else G.rows id t:=by
  intro t;simp [G',gTok]
 have hnl:(rs.take e++xs).length=e+xs.length:=by simp;omega
 have hnew:RowsAt E G' B w' true sz ⟨w.heap.size,0,0,e+xs.length,sz,newCap⟩ (rs.take e++xs):=by
  refine ⟨rfl,by rw [hnl];exact Nat.le_refl _,by simp only;omega,by simp only;omega,fun i row g1 g2 g3=>hw row (List.mem_of_getElem? g3),cs,el,(0,0),alloc_new _ _,by simpa using Nat.le_of_eq hsz.symm,fun _=>⟨hH.size,by intros;omega⟩,?_⟩
  intro i row j x g1 g2 g3 g4
  simp only at g1 g2
  have hfl:=flat_get g4 _ i hw g3
  obtain ⟨u,hu,ru⟩:=hv.get hfl
  rw [List.getElem?_take] at hu
  split at hu
  ·refine ⟨u,?_,RC.ext hx ru⟩
   simp only [Rec.pos,Nat.zero_add,Nat.sub_zero]
   simpa using hu
  ·simp at hu
 have hold:∀ t r' rs',gs[t]? = some (some rs')→G.rows id t=some r'→RowsAt E G' B w' true sz { r' with n:=(rs'.take e).length } (rs'.take e):=by
  intro t r' rs' hv1 hg1
  have hcut:=grow_old (e:=e) h4 hv1 hg1
  obtain ⟨cs',el',fz',l1,l2,l3,l4⟩:=hcut.cells
  refine ⟨hcut.size,hcut.len,hcut.lo,hcut.fit,hcut.width,cs',el',fz',?_,l2,l3,?_⟩
  ·rw [hblk _ (lt_of_get l1)]
   exact l1
  ·intro i row j x g1 g2 g3 g4
   obtain ⟨v,hv',rv⟩:=l4 i row j x g1 g2 g3 g4
   exact ⟨v,hv',RC.ext hx rv⟩
 have hfar:∀ t r' rs',gs[t]? = some (some rs')→G.rows id t=some r'→r'.blk<w.heap.size:=by
  intro t r' rs' hv1 h
  obtain ⟨cs',el',fz',l1,_⟩:=(h4 t r' rs' hv1 h).2.2.cells
  exact lt_of_get l1
 obtain ⟨p1,p2,p3⟩:=put_ok (G':=G') (w':=w') (o':=.grow sz (growVs gs e (rs.take e++xs))) hH hL hid hx
  (fun j hj=>⟨by funext t;simp [G',gTok,hj],rfl⟩) (by simp [w']) (fun b hb _=>hblk b hb)
  (by
   simp only [RO]
   refine ⟨?_,?_,?_⟩
   ·intro t r' h
    rw [htok] at h
    simp only [growVs,List.length_append,List.length_map,List.length_singleton]
    split at h
    ·omega
    ·have:=h3 _ _ h;omega
   ·intro t r' rs' hv1 h
    rw [htok] at h
    rcases growVs_get hv1 with ⟨rfl,rfl⟩|⟨hlt,rs0,hv2,rfl⟩
    ·rw [if_pos rfl] at h
     injection h with h
     subst h
     rw [hnl]
     exact ⟨Nat.le_refl _,rfl,hnew⟩
    ·rw [if_neg (by omega)] at h
     obtain ⟨q1,q2,q3⟩:=h4 t r' rs0 hv2 h
     exact ⟨by simp;omega,q2,hold t r' rs0 hv2 h⟩
   ·intro t1 t2 r1 r2 rs1 rs2 hv1 hv2 g1 g2 hbk
    rw [htok] at g1 g2
    rcases growVs_get hv1 with ⟨rfl,rfl⟩|⟨hlt1,rs01,hv1',rfl⟩ <;> rcases growVs_get hv2 with ⟨rfl,rfl⟩|⟨hlt2,rs02,hv2',rfl⟩
    ·rw [if_pos rfl] at g1 g2
     injection g1 with g1;injection g2 with g2;subst g1 g2;exact ⟨rfl,rfl⟩
    ·rw [if_pos rfl] at g1
     rw [if_neg (by omega)] at g2
     injection g1 with g1
     subst g1
     have:=hfar _ _ _ hv2' g2
     simp only at hbk
     omega
    ·rw [if_neg (by omega)] at g1
     rw [if_pos rfl] at g2
     injection g2 with g2
     subst g2
     have:=hfar _ _ _ hv1' g1
     simp only at hbk
     omega
    ·rw [if_neg (by omega)] at g1 g2
     exact h5 t1 t2 r1 r2 rs01 rs02 hv1' hv2' g1 g2 hbk)
  (by
   rintro b wr ⟨hwr,t,r',rs',hv1,h,rfl⟩
   rw [htok] at h
   rcases growVs_get hv1 with ⟨rfl,rfl⟩|⟨hlt,rs0,hv2,rfl⟩
   ·rw [if_pos rfl] at h
    injection h with h
    subst h
    exact .inr (Nat.le_refl _)
   ·rw [if_neg (by omega)] at h
    exact .inl ⟨rfl,t,r',rs0,hv2,h,rfl⟩)
 refine ⟨p1,p2,p3,⟨rfl,rfl,rfl,by simp [w'],fun b hb' _=>hblk b hb'⟩,by
  have:hp'.obs.length=hp.obs.length:=by simp [hp',Hp.put]
  rw [this];exact hx⟩
theorem overRows {hp:Hp} {lc:List (List CV)} {id sz cur lw k:Nat} {rs xs:List (List CV)} {r:Rec} {cs:Array Value} {el:TypeId} {fz:Nat × Nat} {vs:List Value} (hH:RH E G B hp.f w) (hL:RLc E G B hp.f m lc w)
 (hid:hp.f id=some (.rows true sz cur lw rs)) (hg:G.rows id cur=some r) (hb:w.heap[r.blk]? = some (.cells cs el fz)) (hlo:r.lo≤k) (hk:k+xs.length≤r.n) (hw:∀ row∈xs,row.length=sz) (hv:RL E G xs.flatten vs) :
 let hp':=hp.put id (.rows true sz cur cur (spliceRows rs k xs))
 let w':=setB w r.blk (.cells (putCells cs (r.pos k 0) vs) el fz)
 r.pos k 0+vs.length≤cs.size∧(∀ o,o<cs.size→¬(fz.1≤o∧o<fz.2))∧RH E G B hp'.f w'∧RLc E G B hp'.f m lc w'∧(∀ b,Owned G hp'.f b→Owned G hp.f b∨w.heap.size≤b)∧Fr (fun b=>Owned G hp.f b∧B≤b) w w':=by
 intro hp' w'
 have ho:=hH.each id _ hid
 simp only [RO] at ho
 obtain ⟨h1,⟨rc,h2,h2'⟩,h3,h4,h5⟩:=ho
 rw [hg] at h2;injection h2 with h2;subst h2
 have hra:=h4 cur r h1 hg
 obtain ⟨cs0,el0,fz0,k1,k2,k3,k4⟩:=hra.cells
 rw [hb] at k1;injection k1 with k1;injection k1 with e1 e2 e3;subst e1 e2 e3
 have hvl:=hv.length
 rw [flat_len hw] at hvl
 have hpn:r.pos k 0=r.base+(k-r.lo) * sz:=by simp [Rec.pos,hra.size]
 have hfit:r.pos k 0+vs.length≤cs.size:=by
  refine Nat.le_trans ?_ k2
  rw [hpn,hvl]
  have:(k-r.lo+xs.length) * sz≤r.tot * sz:=Nat.mul_le_mul_right _ (by have:=hra.fit;omega)
  rw [Nat.add_mul] at this
  omega
 have hput:=fun j=>putCells_get vs cs (r.pos k 0) hfit j
 have hlen:rs.length=r.n:=h2'.symm
 have hget':∀ (i:Nat) (row:List CV),(spliceRows rs k xs)[i]? = some row→((i<k∨k+xs.length≤i)∧rs[i]? = some row)∨(k≤i∧i<k+xs.length∧xs[i-k]? = some row):=by
  intro i row h
  simp only [spliceRows,List.append_assoc] at h
  rw [List.getElem?_append] at h
  simp only [List.length_take] at h
  split at h
  ·rename_i hi
   rw [List.getElem?_take,if_pos (by omega)] at h
   exact .inl ⟨.inl (by omega),h⟩
  ·rename_i hi
   rw [List.getElem?_append] at h
   split at h
   ·exact .inr ⟨by omega,by omega,by rwa [show i-k=i-min k rs.length by omega]⟩
   ·rw [List.getElem?_drop] at h
    refine .inl ⟨.inr (by omega),?_⟩
    rwa [show k+xs.length+(i-min k rs.length-xs.length)=i by omega] at h
 obtain ⟨p1,p2,p3,p4⟩:=writeRows (rs':=spliceRows rs k xs) (cs':=putCells cs (r.pos k 0) vs) hH hL hid hg hb (by simp [spliceRows];omega) (putCells_size _ _ _)
  (by
   intro i row g1 g2 g3
   rcases hget' i row g3 with ⟨_,c2⟩|⟨c1,c2,c3⟩
   ·exact hra.width i row g1 g2 c2
   ·exact hw row (List.mem_of_getElem? c3))
  (by
   intro i row j x g1 g2 g3 g4
   rw [hput]
   rcases hget' i row g3 with ⟨c1,c2⟩|⟨c1,c2,c3⟩
   ·have hwid:=hra.width i row g1 g2 c2
    have hj:j<sz:=by
     rcases Nat.lt_or_ge j row.length with h'|h'
     ·omega
     ·simp [List.getElem?_eq_none h'] at g4
    rw [if_neg (by
     rintro ⟨q1,q2⟩
     rcases c1 with c1|c1
     ·have:=pos_lt (r:=r) (i:=i) (i':=k) (j:=j) (j':=0) hra.size g1 c1 hj
      omega
     ·have e5:=pos_next (r:=r) (i:=k) (k:=xs.length) hra.size hlo
      have:r.pos (k+xs.length) 0≤r.pos i j:=by
       rcases Nat.eq_or_lt_of_le c1 with c1|c1
       ·rw [c1];simp only [Rec.pos];omega
       ·rcases Nat.eq_zero_or_pos sz with z|z
        ·omega
        ·have:=pos_lt (r:=r) (i:=k+xs.length) (i':=i) (j:=0) (j':=j) hra.size (by omega) c1 z
         omega
      omega)]
    exact k4 i row j x g1 g2 c2 g4
   ·have hwid:=hw row (List.mem_of_getElem? c3)
    have hj:j<sz:=by
     rcases Nat.lt_or_ge j row.length with h'|h'
     ·omega
     ·simp [List.getElem?_eq_none h'] at g4
    have hpi:r.pos i j=r.pos k 0+((i-k) * sz+j):=by
     have:=pos_next (r:=r) (i:=k) (k:=i-k) hra.size hlo
     rw [show k+(i-k)=i by omega] at this
     have e4:r.pos i j=r.pos i 0+j:=by simp [Rec.pos]
     omega
    have hfl:=flat_get g4 xs (i-k) hw c3
    obtain ⟨u,hu,ru⟩:=hv.get hfl
    have hlt:(i-k) * sz+j<vs.length:=by
     rcases Nat.lt_or_ge ((i-k) * sz+j) vs.length with h'|h'
     ·exact h'
     ·simp [List.getElem?_eq_none h'] at hu
    rw [hpi,if_pos (by omega),show r.pos k 0+((i-k) * sz+j)-r.pos k 0=(i-k) * sz+j by omega]
    exact ⟨u,hu,ru⟩)
 exact ⟨hfit,(k3 rfl).2,p1,p2,p3,p4⟩
end
end
section
section
variable {P:Program} {E:Env} {G:Gh} {B:Nat} {m:Mu} {s:St} {a:Act} {w w1:World}
variable {call:CallF} {orc:Nat→Nat} {o:Oper} {q:Res}
theorem args2 {c:Call} {x y:Operand} (h:c.args.toList=[x,y]):c.args.map a.eval = #[a.eval x,a.eval y]:=by
 apply Array.ext'
 rw [Array.toList_map,h]
 rfl
def CapOk (cap:Option Nat) (off c:Nat) (rr:Rec):Prop:=match cap with|none=>off-rr.lo+c=rr.tot|some q=>c=q∧off+q≤rr.n
theorem slice_rec (hH:RH E G B s.hp.f w) {id tok off len:Nat} {cap:Option Nat} {v:Value} {wr:Bool} {sz cur lw:Nat} {rs:List (List CV)} (r:RC E G (.sl id tok off len cap) v) (hob:s.hp.obs[id]? = some (.rows wr sz cur lw rs)) (hlw:lw≤tok) :
 ∃ (rr:Rec) (oo:Addr) (c:Nat),G.rows id tok=some rr∧rr.lo≤off∧off+len≤rr.n∧v = .slice (some oo) len c∧(oo=⟨rr.blk,rr.pos off 0,none⟩∨c=0)∧len≤c∧CapOk cap off c rr∧RowsAt E G B w wr sz rr rs∧(tok=cur→rr.n=rs.length):=by
 simp only [RC] at r
 obtain ⟨rr,oo,c,h1,h2,h3,h4,h5,h6,h7⟩:=r
 replace h7:CapOk cap off c rr:=h7
 have hoo:=hH.each id _ hob
 simp only [RO] at hoo
 obtain ⟨k1,⟨rc,k2,k2'⟩,k3,k4,k5⟩:=hoo
 refine ⟨rr,oo,c,h1,h2,h3,h4,h5,h6,h7,k4 tok rr hlw h1,?_⟩
 rintro rfl
 rw [h1] at k2;injection k2 with k2;subst k2
 exact k2'
theorem take_rows {rs:List (List CV)} {off len n:Nat} (h:off+len≤n) (hn:n≤rs.length):((rs.drop off).take len).length=len:=by
 simp;omega
theorem op_append (ht:RTm E G m s.tm a.tmps) (hH:RH E G B s.hp.f w) (hL:RLc E G B s.hp.f m s.lc w) {c:Call} {x y:Operand} {nx ny:NX} {e:TypeId} {i:TypeInfo} {z:AV} (ho:o.op = .call c) (hc:c.callee = .builtin .append) (hargs:c.args.toList=[x,y])
 (hx:compX E.rn x=some nx) (hy:compX E.rn y=some ny) (h2:c.argTypes.size=2) (hu:P.underlying (c.argTypes.getD 0 0)=some (.slice e)) (hd1:P.underlying (c.argTypes.getD 1 0)=some .string∨∃ e',P.underlying (c.argTypes.getD 1 0)=some (.slice e'))
 (hi:P.info? e=some i) (hz:zeroOf P e=some z) (hs0:0<i.size) (hb0:0<i.bytes) (hn:nop call orc s (.app i.size i.bytes nx ny)=some q):OpOk P E B G m s a w o q:=by
 simp only [nop,Option.bind_eq_some_iff,Option.map_eq_some_iff] at hn
 obtain ⟨av,hav,xs,hxs,⟨rv,rh⟩,happ,rfl⟩:=hn
 have rs':=asC_rel hav (compX_rel ht hx)
 have ry:=compX_rel ht hy
 obtain ⟨cells,hlen,hfc,hrl,hw,_⟩:=rows_read (P:=P) hH hL ry hxs
 have hclen:cells.size=xs.length * i.size:=by
  have:=hrl.length
  rw [flat_len hw] at this
  simpa using this
 have hall:cells.extract 0 (xs.length * i.size)=cells:=by rw [←hclen];simp
 have hty0:=argTy (c:=c) 0 (by omega)
 have hty1:=argTy (c:=c) 1 (by omega)
 generalize c.argTypes.getD 0 0=t0 at hu hty0
 generalize c.argTypes.getD 1 0=t1 at hd1 hty1
 have hargs':=args2 (a:=a) hargs
 have fin:∀ v w',(Builtin.append_ c.argTypes o.type #[a.eval x,a.eval y]).run P w = .ok v w'→(execOp a.eval o).run P w = .ok (.value v) w':=by
  intro v w' h
  refine run_builtin ho hc fun _=>?_
  simp [builtin,hargs',h]
 have hfirst1:∀ w1:World,w1.heap=w.heap→(Builtin.firstCells i.size xs.length (a.eval y)).run P w1 = .ok cells w1:=fun w1 he=>by
  have:=hfc w1 he xs.length (Nat.le_refl _)
  rwa [hall] at this
 have hfirst:=hfirst1 w rfl
 have hlen:=hlen w rfl
 unfold appRows at happ
 split at happ
 ·
  simp only [RC] at rs'
  cases xs with
  | nil=>
   simp only at happ
   injection happ with happ
   simp only [Prod.mk.injEq] at happ
   obtain ⟨rfl,rfl⟩:=happ
   have h0:cells = #[]:=Array.eq_empty_of_size_eq_zero (by simpa using hclen)
   subst h0
   refine (PureOk.ok (q:=⟨.v (.c .nils),s.lc,s.hp⟩) hH hL ⟨.slice none 0 0,fin _ _ (run_append_none hty0 hty1 hu hd1 hi rs' (by simpa using hlen) (Nat.le_refl _) (by simpa using hfirst)),rfl,rfl,by simp only [RT,RA,RC]⟩)
  | cons x0 xs0=>
   simp only at happ
   generalize hxs0:x0::xs0=xs at *
   split at happ <;> simp at happ
   rename_i hroom
   obtain ⟨rfl,rfl⟩:=happ
   have hpos:0<xs.length:=by rw [←hxs0];simp
   obtain ⟨newCap,rest,w1,g1,g2,g3,g4,g5,g6,g7⟩:=run_append_new (P:=P) (w:=w) (ty:=o.type) (old:=#[]) (new:=cells) hty0 hty1 hu hd1 hi hz hb0 rs' hlen (by omega) (by simpa using hroom)
    (fun w1 _=>by rw [rs'];simp [Builtin.firstCells]) hfirst1
   intro hf hfm
   have hfree:=(hf s.hp.obs.length (Nat.le_refl _) (by simp [Hp.push])).1
   simp only [Nat.zero_add] at g1 g2 g7
   obtain ⟨k1,k2,k3,k4,k5⟩:=newRows (sz:=i.size) (tot:=newCap) (rs:=xs) (cs:=#[]++cells++rest) (el:=e) (fz:=(0,0)) (RH.same g3 hH) (RLc.same g3 hL) hfree hw
    (by simp only [Array.size_append,Array.size_empty,hclen,g2];have:xs.length * i.size+(newCap-xs.length) * i.size=newCap * i.size:=by rw [←Nat.add_mul];congr 1;omega
        omega) g1 (by intros;omega)
    (by
     simp only [Array.toList_append,List.nil_append]
     rw [List.take_append_of_le_length (by simp [hclen]),List.take_of_length_le (by simp [hclen])]
     exact hrl)
   refine ⟨_,_,_,_,_,fin _ _ g7,.inl rfl,Step.same g3 g4 g5 g6 (step_new k1 k2 k3 k4 k5 (by simp [Hp.push]) ?_ (dead_push (by simp) (fun id hid=>⟨by funext tok;simp [gRows,hid],rfl⟩)))⟩
   simp only [RT,RA,RC]
   refine ⟨⟨w1.heap.size,0,0,xs.length,i.size,newCap⟩,⟨w1.heap.size,0,none⟩,newCap,by simp [gRows],Nat.le_refl _,by simp,rfl,.inl (by simp [Rec.pos]),g1,?_⟩
   simp
 ·rename_i id tok off len cap
  have hrc:=rs'
  cases xs with
  | nil=>
   simp only at happ
   injection happ with happ
   simp only [Prod.mk.injEq] at happ
   obtain ⟨rfl,rfl⟩:=happ
   have h0:cells = #[]:=Array.eq_empty_of_size_eq_zero (by simpa using hclen)
   subst h0
   simp only [RC] at rs'
   obtain ⟨rr,oo,cc,j1,j2,j3,j4,j5,j6,j7⟩:=rs'
   refine (PureOk.ok (q:=⟨.v (.c (.sl id tok off len cap)),s.lc,s.hp⟩) hH hL ⟨_,fin _ _ (run_append_none hty0 hty1 hu hd1 hi j4 (by simpa using hlen) j6 (by simpa using hfirst)),rfl,rfl,?_⟩)
   rw [←j4]
   simpa only [RT,RA] using hrc
  | cons x0 xs0=>
   simp only at happ
   generalize hxs0:x0::xs0=xs at *
   have hpos:0<xs.length:=by rw [←hxs0];simp
   have growCase:∀ (hp1:Hp) (gs:List (Option (List (List CV)))) (rows:List (List CV)),hp1.f id=some (.grow i.size gs)→RH E G B hp1.f w→RLc E G B hp1.f m s.lc w→(∀ b,Owned G hp1.f b→Owned G s.hp.f b)→hp1.obs.length=s.hp.obs.length→
    (∀ X,hp1.put id X=s.hp.put id X)→s.hp.f id≠none→gs[tok]? = some (some rows)→len≤rows.length→cap=none→off=0→(len+xs.length) * i.bytes≤room→
    OpOk P E B G m s a w o ⟨.v (.c (.sl id gs.length 0 (len+xs.length) none)),s.lc,s.hp.put id (.grow i.size (growVs gs len (rows.take len++xs)))⟩:=by
    rintro hp1 gs rows hob hH1 hL1 hsub hl1 hput1 hne hgv hle rfl rfl hroom
    obtain ⟨so,hso⟩:∃ so,s.hp.f id=some so:=Option.ne_none_iff_exists'.mp hne
    have hrc':=hrc
    simp only [RC] at hrc'
    obtain ⟨rr,oo,cc,j1,j2,j3,j4,j5,j6,j7⟩:=hrc'
    have hoo:=hH1.each id _ hob
    simp only [RO] at hoo
    obtain ⟨hrn,hlo,hra⟩:=hoo.2.1 tok rr rows hgv j1
    obtain ⟨cs,el,fz,hb,hsz,hwr,hcells⟩:=hra.cells
    rw [hlo] at j7
    have hown:=rows_read (P:=P) (s:={ s with hp:=hp1 }) hH1 hL1 (x:=.v (.c (.sl id tok 0 len none))) (v:=a.eval x) (sz:=i.size) (rs:=(rows.drop 0).take len) (by simpa only [RT,RA] using hrc) (by
     simp only [sliceRows]
     rw [show hp1.obs[id]? = some (.grow i.size gs) from hob]
     simp only [hgv]
     rw [if_pos ⟨trivial,by omega⟩])
    rw [List.drop_zero] at hown
    have hol:(rows.take len).length=len:=by simp;omega
    by_cases hle2:len+xs.length≤cc
    ·intro hf hfm
     obtain ⟨p0,p6,p1,p2,p3,p4,p5⟩:=growGIn (e:=len) (xs:=xs) (vs:=cells.toList) hH1 hL1 hob hgv j1 hb hle (by omega) hw hrl
     have hoo:oo=⟨rr.blk,rr.pos 0 0,none⟩:=by
      rcases j5 with j5|j5
      ·exact j5
      ·omega
     subst hoo
     have hpn:=pos_next (r:=rr) (i:=0) (k:=len) hra.size j2
     rw [Nat.zero_add] at hpn
     have hrun:=run_append_room (P:=P) (w:=w) (ty:=o.type) (new:=cells) hty0 hty1 hu hd1 hi j4 hlen hle2 hfirst hclen hb (by
      have:cells.toList.length=cells.size:=by simp
      omega) p6 hrl.oneCell
     rw [←hpn] at hrun
     rw [hput1] at p1 p2 p3 p5
     refine ⟨_,_,_,_,m,fin _ _ hrun,.inl rfl,⟨?_,p1,p2,p5,⟨fun _ _ h=>h,fun _ _=>rfl⟩,p4.mono (fun _ h=>⟨.inl (hsub _ h.1),h.2⟩),fun b hb=>(p3 b hb).imp (hsub b) (fun h=>h),fun b hb=>.inl hb,⟨by simp [Hp.put],Nat.le_refl _⟩,dead_put hso (by simp) (fun id hid=>⟨by funext tok;simp [gTok,hid],rfl⟩)⟩⟩
     simp only [RT,RA,RC]
     refine ⟨{ rr with n:=len+xs.length },⟨rr.blk,rr.pos 0 0,none⟩,cc,by simp [gTok],by simp only;omega,by simp only;omega,rfl,.inl (by simp [Rec.pos]),hle2,?_⟩
     simp only
     omega
    ·obtain ⟨cells0,l1,l2,l3,l4,_⟩:=hown
     rw [hol] at l2
     have hc0:cells0.size=len * i.size:=by
      have:=l3.length
      rw [flat_len l4,hol] at this
      simpa using this
     have hfirst0':∀ w1:World,w1.heap=w.heap→(Builtin.firstCells i.size len (a.eval x)).run P w1 = .ok cells0 w1:=fun w1 he=>by
      have:=l2 w1 he len (Nat.le_refl _)
      rwa [←hc0,show cells0.extract 0 cells0.size=cells0 by simp] at this
     obtain ⟨newCap,rest,w1,g1,g2,g3,g4,g5,g6,g7⟩:=run_append_new (P:=P) (w:=w) (ty:=o.type) (old:=cells0) (new:=cells) hty0 hty1 hu hd1 hi hz hb0 j4 hlen (by omega) hroom
      hfirst0' hfirst1
     have hcc:(cells0.toList++cells.toList).length=(len+xs.length) * i.size:=by
      rw [List.length_append,Array.length_toList,Array.length_toList,hc0,hclen,Nat.add_mul]
     intro hf hfm
     obtain ⟨k1,k2,k3,k4,k5⟩:=growGNew (e:=len) (newCap:=newCap) (xs:=xs) (cs:=cells0++cells++rest) (el:=e) (RH.same g3 hH1) (RLc.same g3 hL1) hob hgv hle
      (fun row hr=>(List.mem_append.1 hr).elim (l4 row) (hw row)) g1
      (by
       simp only [Array.size_append,hclen,hc0,g2]
       have:len * i.size+xs.length * i.size+(newCap-(len+xs.length)) * i.size=newCap * i.size:=by rw [←Nat.add_mul,←Nat.add_mul];congr 1;omega
       omega)
      (by
       simp only [Array.toList_append,List.flatten_append]
       rw [List.take_append_of_le_length (Nat.le_of_eq hcc.symm),List.take_of_length_le (Nat.le_of_eq hcc)]
       exact l3.append hrl)
     rw [hput1] at k1 k2 k3 k5
     refine ⟨_,_,_,_,_,fin _ _ g7,.inl rfl,Step.same g3 g4 g5 g6 ⟨?_,k1,k2,k5,⟨fun _ _ h=>h,fun _ _=>rfl⟩,k4.mono (fun _ h=>h.elim),fun b hb=>(k3 b hb).imp (hsub b) (fun h=>h),fun b hb=>.inl hb,⟨by simp [Hp.put],Nat.le_refl _⟩,dead_put hso (by simp) (fun id hid=>⟨by funext tok;simp [gTok,hid],rfl⟩)⟩⟩
     simp only [RT,RA,RC]
     refine ⟨⟨w1.heap.size,0,0,len+xs.length,i.size,newCap⟩,⟨w1.heap.size,0,none⟩,newCap,by simp [gTok],Nat.le_refl _,by simp only;omega,rfl,.inl (by simp [Rec.pos]),by omega,?_⟩
     simp only
     omega
   split at happ
   rotate_left
   ·rename_i sz' gs hob
    split at happ
    rotate_left
    ·simp at happ
    rename_i hcond
    obtain ⟨rfl,rfl,rfl,hroom⟩:=hcond
    split at happ
    rotate_left
    ·simp at happ
    rename_i rows hgv
    split at happ
    rotate_left
    ·simp at happ
    rename_i hle
    simp at happ
    obtain ⟨rfl,rfl⟩:=happ
    exact growCase s.hp gs rows hob hH hL (fun _ h=>h) rfl (fun _=>rfl) (by rw [show s.hp.f id=_ from hob];simp) hgv hle rfl rfl hroom
   ·simp at happ
   rename_i wr sz' cur lw rows hob
   split at happ
   rotate_left
   ·simp at happ
   rename_i hcond
   obtain ⟨rfl,hlw,hroom⟩:=hcond
   obtain ⟨rr,oo,cc,j1,j2,j3,j4,j5,j6,j7,hra,hncur⟩:=slice_rec hH rs' hob hlw
   obtain ⟨cs,el,fz,hb,hsz,hwr,hcells⟩:=hra.cells
   have hown:=rows_read (P:=P) hH hL (x:=.v (.c (.sl id tok off len cap))) (v:=a.eval x) (sz:=i.size) (rs:=(rows.drop off).take len) (by simpa only [RT,RA] using hrc) (by simp [sliceRows,hob,hlw])
   have hol:((rows.drop off).take len).length=len:=take_rows j3 hra.len
   have newCase:cc<len+xs.length→∃ (newCap:Nat) (cs2:Array Value) (w1:World),len+xs.length≤newCap∧cs2.size=newCap * i.size∧w1.heap=w.heap∧w1.os=w.os∧w1.tape=w.tape∧w1.output=w.output∧
    (execOp a.eval o).run P w = .ok (.value (.slice (some ⟨w1.heap.size,0,none⟩) (len+xs.length) newCap)) (w1.alloc (.cells cs2 e))∧RL E G ((rows.drop off).take len++xs).flatten (cs2.toList.take ((len+xs.length) * i.size))∧(∀ row∈(rows.drop off).take len++xs,row.length=i.size):=by
    intro hgt
    obtain ⟨cells0,l1,l2,l3,l4,_⟩:=hown
    rw [hol] at l2
    have hc0:cells0.size=len * i.size:=by
     have:=l3.length
     rw [flat_len l4,hol] at this
     simpa using this
    have hfirst0':∀ w1:World,w1.heap=w.heap→(Builtin.firstCells i.size len (a.eval x)).run P w1 = .ok cells0 w1:=fun w1 he=>by
     have:=l2 w1 he len (Nat.le_refl _)
     rwa [←hc0,show cells0.extract 0 cells0.size=cells0 by simp] at this
    obtain ⟨newCap,rest,w1,g1,g2,g3,g4,g5,g6,g7⟩:=run_append_new (P:=P) (w:=w) (ty:=o.type) (old:=cells0) (new:=cells) hty0 hty1 hu hd1 hi hz hb0 j4 hlen hgt hroom
     hfirst0' hfirst1
    refine ⟨newCap,cells0++cells++rest,w1,g1,?_,g3,g4,g5,g6,fin _ _ g7,?_,?_⟩
    ·simp only [Array.size_append,hclen,hc0,g2]
     have:len * i.size+xs.length * i.size+(newCap-(len+xs.length)) * i.size=newCap * i.size:=by rw [←Nat.add_mul,←Nat.add_mul];congr 1;omega
     omega
    ·simp only [Array.toList_append,List.flatten_append]
     have hcc:(cells0.toList++cells.toList).length=(len+xs.length) * i.size:=by
      rw [List.length_append,Array.length_toList,Array.length_toList,hc0,hclen,Nat.add_mul]
     rw [List.take_append_of_le_length (Nat.le_of_eq hcc.symm),List.take_of_length_le (Nat.le_of_eq hcc)]
     exact l3.append hrl
    ·intro row hr
     rcases List.mem_append.1 hr with hr|hr
     ·exact l4 row hr
     ·exact hw row hr
   cases cap with
   | some qq=>
    simp only [CapOk] at j7
    simp only at happ
    split at happ
    ·
     rename_i hle
     split at happ <;> simp at happ
     rename_i hwc
     obtain ⟨rfl,rfl⟩:=hwc
     obtain ⟨rfl,rfl⟩:=happ
     intro hf hfm
     obtain ⟨p0,p1,p2,p3,p4,p5⟩:=overRows (k:=off+len) (xs:=xs) (vs:=cells.toList) hH hL hob j1 hb (by omega) (by omega) hw hrl
     have hoo:oo=⟨rr.blk,rr.pos off 0,none⟩:=by
      rcases j5 with j5|j5
      ·exact j5
      ·omega
     subst hoo
     have hpn:=pos_next (r:=rr) (i:=off) (k:=len) hra.size j2
     have hrun:=run_append_room (P:=P) (w:=w) (ty:=o.type) (new:=cells) hty0 hty1 hu hd1 hi j4 hlen (by omega) hfirst hclen hb (by
      have:cells.toList.length=cells.size:=by simp
      omega) p1 hrl.oneCell
     rw [←hpn] at hrun
     refine ⟨_,_,_,G,m,fin _ _ hrun,.inl rfl,⟨?_,p2,p3,Ext.refl _ _,⟨fun _ _ h=>h,fun _ _=>rfl⟩,p5.mono (fun _ h=>⟨.inl h.1,h.2⟩),p4,fun b hb=>.inl hb,⟨by simp [Hp.put],Nat.le_refl _⟩,dead_put (by assumption) (by simp) (fun _ _=>⟨rfl,rfl⟩)⟩⟩
     simp only [RT,RA,RC]
     exact ⟨rr,⟨rr.blk,rr.pos off 0,none⟩,cc,j1,j2,by omega,rfl,.inl rfl,by omega,by omega⟩
    ·
     rename_i hgt
     simp at happ
     obtain ⟨rfl,rfl⟩:=happ
     obtain ⟨newCap,cs2,w1,g1,g2,g3,g4,g5,g6,g7,g8,g9⟩:=newCase (by omega)
     intro hf hfm
     have hfree:=(hf s.hp.obs.length (Nat.le_refl _) (by simp [Hp.push])).1
     have hl2:((rows.drop off).take len++xs).length=len+xs.length:=by rw [List.length_append,hol]
     obtain ⟨k1,k2,k3,k4,k5⟩:=newRows (sz:=i.size) (tot:=newCap) (rs:=(rows.drop off).take len++xs) (cs:=cs2) (el:=e) (fz:=(0,0)) (RH.same g3 hH) (RLc.same g3 hL) hfree g9 g2 (by omega) (by intros;omega)
      (by rw [hl2];exact g8)
     refine ⟨_,_,_,_,_,g7,.inl rfl,Step.same g3 g4 g5 g6 (step_new k1 k2 k3 k4 k5 (by simp [Hp.push]) ?_ (dead_push (by simp) (fun id hid=>⟨by funext tok;simp [gRows,hid],rfl⟩)))⟩
     simp only [RT,RA,RC]
     refine ⟨⟨w1.heap.size,0,0,len+xs.length,i.size,newCap⟩,⟨w1.heap.size,0,none⟩,newCap,by simp only [gRows,hl2,if_true],Nat.le_refl _,by simp,rfl,.inl (by simp [Rec.pos]),g1,?_⟩
     simp
   | none=>
    simp only [CapOk] at j7
    simp only at happ
    split at happ
    rotate_left
    ·simp at happ
    rename_i hwt
    subst hwt
    split at happ
    ·rename_i hst
     obtain ⟨hst1,rfl,hst2⟩:=hst
     simp at happ
     obtain ⟨rfl,rfl⟩:=happ
     obtain ⟨t1,t2,t3⟩:=toGrow (e:=len) hH hL hob hlw j1 (by omega) (by omega)
     have:=growCase _ (oneV cur tok (rows.take len)) (rows.take len) (by rw [f_put _ _ _ _ (f_lt hob),if_pos rfl]) t1 t2 t3 (by simp [Hp.put]) (fun X=>by simp [Hp.put]) (by rw [show s.hp.f id=_ from hob];simp) (oneV_self (by omega)) (by simp;have:=hra.len;omega) rfl rfl hroom
     rw [show (oneV cur tok (rows.take len)).length=cur+1 by simp [oneV],List.take_take,Nat.min_self] at this
     exact this
    split at happ
    ·
     rename_i hin
     obtain ⟨rfl,hin⟩:=hin
     simp at happ
     obtain ⟨rfl,rfl⟩:=happ
     have hnr:=hncur rfl
     have hft:=hra.fit
     intro hf hfm
     obtain ⟨p0,p1,p2,p3,p4,p5⟩:=overRows (k:=off+len) (xs:=xs) (vs:=cells.toList) hH hL hob j1 hb (by omega) (by omega) hw hrl
     have hoo:oo=⟨rr.blk,rr.pos off 0,none⟩:=by
      rcases j5 with j5|j5
      ·exact j5
      ·omega
     subst hoo
     have hpn:=pos_next (r:=rr) (i:=off) (k:=len) hra.size j2
     have hrun:=run_append_room (P:=P) (w:=w) (ty:=o.type) (new:=cells) hty0 hty1 hu hd1 hi j4 hlen (by omega) hfirst hclen hb (by
      have:cells.toList.length=cells.size:=by simp
      omega) p1 hrl.oneCell
     rw [←hpn] at hrun
     refine ⟨_,_,_,G,m,fin _ _ hrun,.inl rfl,⟨?_,p2,p3,Ext.refl _ _,⟨fun _ _ h=>h,fun _ _=>rfl⟩,p5.mono (fun _ h=>⟨.inl h.1,h.2⟩),p4,fun b hb=>.inl hb,⟨by simp [Hp.put],Nat.le_refl _⟩,dead_put (by assumption) (by simp) (fun _ _=>⟨rfl,rfl⟩)⟩⟩
     simp only [RT,RA,RC]
     exact ⟨rr,⟨rr.blk,rr.pos off 0,none⟩,cc,j1,j2,by omega,rfl,.inl rfl,by omega,j7⟩
    rename_i hnin
    simp at happ
    obtain ⟨rfl,rfl⟩:=happ
    by_cases hle:len+xs.length≤cc
    ·
     intro hf hfm
     obtain ⟨p0,p1,p2,p3,p4,p5⟩:=growIn (e:=off+len) (xs:=xs) (vs:=cells.toList) hH hL hob hlw j1 hb (by omega) j3 (by omega) hw hrl
     have hoo:oo=⟨rr.blk,rr.pos off 0,none⟩:=by
      rcases j5 with j5|j5
      ·exact j5
      ·omega
     subst hoo
     have hpn:=pos_next (r:=rr) (i:=off) (k:=len) hra.size j2
     have hrun:=run_append_room (P:=P) (w:=w) (ty:=o.type) (new:=cells) hty0 hty1 hu hd1 hi j4 hlen hle hfirst hclen hb (by
      have:cells.toList.length=cells.size:=by simp
      omega) (hwr rfl).2 hrl.oneCell
     rw [←hpn] at hrun
     refine ⟨_,_,_,_,m,fin _ _ hrun,.inl rfl,⟨?_,p1,p2,p5,⟨fun _ _ h=>h,fun _ _=>rfl⟩,p4.mono (fun _ h=>⟨.inl h.1,h.2⟩),p3,fun b hb=>.inl hb,⟨by simp [Hp.put],Nat.le_refl _⟩,dead_put hob (by simp) (fun id hid=>⟨by funext tok;simp [gTok,hid],rfl⟩)⟩⟩
     simp only [RT,RA,RC]
     refine ⟨{ rr with n:=off+len+xs.length },⟨rr.blk,rr.pos off 0,none⟩,cc,by simp [gTok],j2,by simp only;omega,rfl,.inl (by simp [Rec.pos]),hle,?_⟩
     simpa using j7
    ·obtain ⟨newCap,cs2,w1,g1,g2,g3,g4,g5,g6,g7,g8,g9⟩:=newCase (by omega)
     intro hf hfm
     have e1:off+len-off=len:=by omega
     obtain ⟨k1,k2,k3,k4,k5⟩:=growNew (off:=off) (e:=off+len) (newCap:=newCap) (xs:=xs) (cs:=cs2) (el:=e) (RH.same g3 hH) (RLc.same g3 hL) hob hlw j1 (by omega) (by have:=hra.len;omega) (by rw [e1];exact g9) (by omega) g2
      (by rw [e1];exact g8)
     refine ⟨_,_,_,_,_,g7,.inl rfl,Step.same g3 g4 g5 g6 ⟨?_,k1,k2,k5,⟨fun _ _ h=>h,fun _ _=>rfl⟩,k4.mono (fun _ h=>h.elim),k3,fun b hb=>.inl hb,⟨by simp [Hp.put],Nat.le_refl _⟩,dead_put hob (by simp) (fun id hid=>⟨by funext tok;simp [gTok,hid],rfl⟩)⟩⟩
     simp only [RT,RA,RC]
     refine ⟨⟨w1.heap.size,0,off,off+len+xs.length,i.size,newCap⟩,⟨w1.heap.size,0,none⟩,newCap,by simp [gTok],Nat.le_refl _,by simp only;omega,rfl,.inl (by simp [Rec.pos]),by omega,?_⟩
     simp only
     omega
 ·simp at happ
end
end
section
section
variable {P:Program} {E:Env} {G:Gh} {B:Nat} {m:Mu} {s:St} {a:Act} {w w1:World}
variable {call:CallF} {orc:Nat→Nat} {o:Oper} {q:Res}
theorem op_copy (ht:RTm E G m s.tm a.tmps) (hH:RH E G B s.hp.f w) (hL:RLc E G B s.hp.f m s.lc w) {c:Call} {x y:Operand} {nx ny:NX} {e:TypeId} {n:Nat} (ho:o.op = .call c) (hc:c.callee = .builtin .copy) (hargs:c.args.toList=[x,y])
 (hx:compX E.rn x=some nx) (hy:compX E.rn y=some ny) (h2:c.argTypes.size=2) (hu:P.underlying (c.argTypes.getD 0 0)=some (.slice e)) (hs:szOf P e=some n) (hn:nop call orc s (.copy n nx ny)=some q):OpOk P E B G m s a w o q:=by
 simp only [nop] at hn
 have rx:=compX_rel ht hx
 have ry:=compX_rel ht hy
 have hty0:=argTy (c:=c) 0 (by omega)
 generalize c.argTypes.getD 0 0=t0 at hu hty0
 have hargs':=args2 (a:=a) hargs
 have fin:∀ v w',(Builtin.copy_ c.argTypes o.type #[a.eval x,a.eval y]).run P w = .ok v w'→(execOp a.eval o).run P w = .ok (.value v) w':=by
  intro v w' h
  refine run_builtin ho hc fun _=>?_
  simp [builtin,hargs',h]
 generalize hev:nx.ev s.tm=tv at hn rx
 unfold copyV at hn
 split at hn
 ·simp only [Option.map_eq_some_iff] at hn
  obtain ⟨xs,hxs,rfl⟩:=hn
  obtain ⟨cells,hlen,hfc,hrl,hw,_⟩:=rows_read (P:=P) hH hL ry hxs
  simp only [RT,RA,RC] at rx
  refine PureOk.ok (q:=⟨.v (.c (.int .i64 0)),s.lc,s.hp⟩) hH hL ⟨.int .i64 0,fin _ _ ?_,rfl,rfl,by simp only [RT,RA,RC]⟩
  have h0:=hfc w rfl 0 (Nat.zero_le _)
  simp [Builtin.copy_,hty0,run_und hu,rx,hlen w rfl,run_size hs,h0,goInt]
 ·rename_i id tok off len cap
  simp only [Option.bind_eq_some_iff] at hn
  obtain ⟨xs,hxs,hn⟩:=hn
  obtain ⟨cells,hlen,hfc,hrl,hw,_⟩:=rows_read (P:=P) hH hL ry hxs
  split at hn
  rotate_left
  ·simp at hn
  rename_i wr sz' cur lw rows hob
  split at hn
  rotate_left
  ·simp at hn
  rename_i hcond
  obtain ⟨rfl,rfl,rfl⟩:=hcond
  injection hn with hn
  subst hn
  simp only [RT,RA] at rx
  have hoo:=hH.each id _ hob
  simp only [RO] at hoo
  have hlw:=hoo.1
  obtain ⟨rr,oo,cc,j1,j2,j3,j4,j5,j6,j7,hra,hncur⟩:=slice_rec hH rx hob hlw
  obtain ⟨cs,el,fz,hb,hsz,hwr,hcells⟩:=hra.cells
  have hkl:(xs.take len).length=min len xs.length:=by simp
  have hcl:cells.size=xs.length * sz':=by
   have:=hrl.length
   rw [flat_len hw] at this
   simpa using this
  have hwt:∀ row∈xs.take len,row.length=sz':=fun row hr=>hw row (List.mem_of_mem_take hr)
  have hvt:RL E G (xs.take len).flatten (cells.extract 0 (min len xs.length * sz')).toList:=by
   have hfl:(xs.take len).flatten=xs.flatten.take (min len xs.length * sz'):=by
    have h1:xs.flatten=(xs.take len).flatten++(xs.drop len).flatten:=by rw [←List.flatten_append,List.take_append_drop]
    have hl:(xs.take len).flatten.length=min len xs.length * sz':=by rw [flat_len hwt,hkl]
    rw [h1,←hl,List.take_left]
   rw [hfl]
   refine RL.mk (by simp [hcl,flat_len hw]) (fun i c hc=>?_)
   rw [List.getElem?_take] at hc
   split at hc
   ·rename_i hi
    obtain ⟨u,hu,ru⟩:=hrl.get hc
    refine ⟨u,?_,ru⟩
    rw [Array.getElem?_toList] at hu ⊢
    rw [Array.getElem?_extract]
    rw [if_pos (by
     have:i<cells.size:=by
      rcases Nat.lt_or_ge i cells.size with h'|h'
      ·exact h'
      ·simp [Array.getElem?_eq_none h'] at hu
     omega)]
    simpa using hu
   ·simp at hc
  intro hf hfm
  obtain ⟨p0,p1,p2,p3,p4,p5⟩:=overRows (k:=off) (xs:=xs.take len) (vs:=(cells.extract 0 (min len xs.length * sz')).toList) hH hL hob j1 hb (by omega) (by rw [hkl];omega) hwt hvt
  have hst:(Builtin.copy_ c.argTypes o.type #[a.eval x,a.eval y]).run P w = .ok (.int .i64 (min len xs.length:Nat)) (setB w rr.blk (.cells (putCells cs (rr.pos off 0) (cells.extract 0 (min len xs.length * sz')).toList) el fz)):=by
   have hfirst:=hfc w rfl (min len xs.length) (by omega)
   obtain ⟨lo,hi⟩:=fz
   have hmin:Nat.min xs.length len=min len xs.length:=Nat.min_comm _ _
   by_cases hz:min len xs.length=0
   ·have hst:=run_storeCells P (b:=rr.blk) (o:=rr.pos off 0) ([]:List Value) 0 w cs hb (by simp;have:=p0;omega) p1 (by simp)
    rw [hz] at hfirst ⊢
    simp only [Nat.zero_mul] at hfirst ⊢
    have he:cells.extract 0 0 = #[]:=by simp
    rw [he] at hfirst ⊢
    simp only [Builtin.copy_,hty0,List.getElem?_toArray,List.getElem?_cons_zero,List.getElem?_cons_succ,Sem.run_bind,run_und hu,Result.andThen_ok,j4,hlen w rfl,Sem.run_pure,run_size hs,hmin,hz,hfirst]
    simp only [storeCells,Sem.run_pure,putCells] at hst
    simp only [storeCells,Sem.run_pure,Result.andThen_ok,goInt,putCells]
    injection hst with h1 h2
    rw [←h2]
   ·have hoo':oo=⟨rr.blk,rr.pos off 0,none⟩:=by
     rcases j5 with j5|j5
     ·exact j5
     ·omega
    have hst:=run_storeCells P (b:=rr.blk) (o:=rr.pos off 0) (cells.extract 0 (min len xs.length * sz')).toList 0 w cs hb (by have:=p0;omega) p1 hvt.oneCell
    rw [Nat.add_zero] at hst
    simp only [Builtin.copy_,hty0,List.getElem?_toArray,List.getElem?_cons_zero,List.getElem?_cons_succ,Sem.run_bind,run_und hu,Result.andThen_ok,j4,hlen w rfl,Sem.run_pure,run_size hs,hmin,hfirst,hoo',hst,goInt]
  refine ⟨_,_,_,G,m,fin _ _ hst,.inl rfl,⟨?_,p2,p3,Ext.refl _ _,⟨fun _ _ h=>h,fun _ _=>rfl⟩,p5.mono (fun _ h=>⟨.inl h.1,h.2⟩),p4,fun b hb=>.inl hb,⟨by simp [Hp.put],Nat.le_refl _⟩,dead_put (by assumption) (by simp) (fun _ _=>⟨rfl,rfl⟩)⟩⟩
  simp only [RT,RA,RC]
  rw [Nat.min_comm]
 ·simp at hn
theorem args1 {c:Call} {x:Operand} (h:c.args.toList=[x]):c.args.map a.eval = #[a.eval x]:=by
 apply Array.ext'
 rw [Array.toList_map,h]
 rfl
theorem op_clear (ht:RTm E G m s.tm a.tmps) (hH:RH E G B s.hp.f w) (hL:RLc E G B s.hp.f m s.lc w) {c:Call} {x:Operand} {nx:NX} {e:TypeId} {n:Nat} {z:AV} (ho:o.op = .call c) (hc:c.callee = .builtin .clear) (hargs:c.args.toList=[x])
 (hx:compX E.rn x=some nx) (h1:c.argTypes.size=1) (hu:P.underlying (c.argTypes.getD 0 0)=some (.slice e)) (hz:zeroOf P e=some z) (hs:szOf P e=some n) (hn:nop call orc s (.clear n z.cells nx)=some q):OpOk P E B G m s a w o q:=by
 simp only [nop] at hn
 have rx:=compX_rel ht hx
 have hty0:=argTy (c:=c) 0 (by omega)
 generalize c.argTypes.getD 0 0=t0 at hu hty0
 have hargs':=args1 (a:=a) hargs
 have fin:∀ v w',(Builtin.clear_ c.argTypes o.type #[a.eval x]).run P w = .ok v w'→(execOp a.eval o).run P w = .ok (.value v) w':=by
  intro v w' h
  refine run_builtin ho hc fun _=>?_
  simp [builtin,hargs',h]
 generalize hev:nx.ev s.tm=tv at hn rx
 have none_ok:∀ (q:Res),q=⟨.v (.tup []),s.lc,s.hp⟩→(∃ ad cc,a.eval x = .slice ad 0 cc)→OpOk P E B G m s a w o q:=by
  rintro q rfl ⟨ad,cc,hv⟩
  refine PureOk.ok (q:=⟨.v (.tup []),s.lc,s.hp⟩) hH hL ⟨.tuple #[],fin _ _ ?_,rfl,rfl,by simp [RT,RA,RAL]⟩
  cases ad <;> simp [Builtin.clear_,hty0,run_und hu,hv]
 unfold clearV at hn
 split at hn
 ·injection hn with hn
  simp only [RT,RA,RC] at rx
  exact none_ok q hn.symm ⟨_,_,rx⟩
 ·rename_i id tok off len cap
  simp only [RT,RA] at rx
  split at hn
  ·rename_i h0
   subst h0
   injection hn with hn
   simp only [RC] at rx
   obtain ⟨rr,oo,cc,_,_,_,h4,_⟩:=rx
   exact none_ok q hn.symm ⟨_,_,h4⟩
  rename_i h0
  split at hn
  rotate_left
  ·simp at hn
  rename_i wr sz' cur lw rows hob
  split at hn
  rotate_left
  ·simp at hn
  rename_i hcond
  obtain ⟨rfl,rfl,rfl⟩:=hcond
  injection hn with hn
  subst hn
  have hoo:=hH.each id _ hob
  simp only [RO] at hoo
  have hlw:=hoo.1
  obtain ⟨rr,oo,cc,j1,j2,j3,j4,j5,j6,j7,hra,hncur⟩:=slice_rec hH rx hob hlw
  obtain ⟨cs,el,fz,hb,hsz,hwr,hcells⟩:=hra.cells
  obtain ⟨zv,hzv,rz,hnt,hzl⟩:=run_zero hz w
  rw [hs] at hzl
  injection hzl with hzl
  have rzc:=(rz E G).cells hnt
  have hrep:=repl_rel rzc hzl.symm len
  have hzs:zv.cells.size=sz':=by
   have:=rzc.length
   simp only [Array.length_toList] at this
   omega
  have hzc:(Builtin.zeroCells zv.cells len).toList=((Array.range (len * sz')).map (zv.cells[· % zv.cells.size]!)).toList:=by
   simp [Builtin.zeroCells,hzs]
  rw [←hzc] at hrep
  intro hf hfm
  obtain ⟨p0,p1,p2,p3,p4,p5⟩:=overRows (k:=off) (xs:=List.replicate len z.cells) (vs:=(Builtin.zeroCells zv.cells len).toList) hH hL hob j1 hb (by omega) (by simpa using j3) (fun row hr=>by rw [List.eq_of_mem_replicate hr,←hzl]) hrep
  have hoo':oo=⟨rr.blk,rr.pos off 0,none⟩:=by
   rcases j5 with j5|j5
   ·exact j5
   ·omega
  obtain ⟨lo,hi⟩:=fz
  have hst:=run_storeCells P (b:=rr.blk) (o:=rr.pos off 0) (Builtin.zeroCells zv.cells len).toList 0 w cs hb (by have:=p0;omega) p1 hrep.oneCell
  rw [Nat.add_zero] at hst
  obtain ⟨l',rfl⟩:∃ l',len=l'+1:=⟨len-1,by omega⟩
  refine ⟨_,.tuple #[],_,G,m,fin _ _ (by
   simp only [Builtin.clear_,hty0,List.getElem?_toArray,List.getElem?_cons_zero,Sem.run_bind,run_und hu,Result.andThen_ok,j4,hoo',hzv,hst,Sem.run_pure]),.inl rfl,
   ⟨by simp [RT,RA,RAL],p2,p3,Ext.refl _ _,⟨fun _ _ h=>h,fun _ _=>rfl⟩,p5.mono (fun _ h=>⟨.inl h.1,h.2⟩),p4,fun b hb=>.inl hb,⟨by simp [Hp.put],Nat.le_refl _⟩,dead_put (by assumption) (by simp) (fun _ _=>⟨rfl,rfl⟩)⟩⟩
 ·simp at hn
end
end
section
section
variable {P:Program} {E:Env} {G:Gh} {B:Nat} {m:Mu} {s:St} {a:Act} {w w1:World}
variable {call:CallF} {orc:Nat→Nat} {o:Oper} {q:Res}
theorem findKey_at {k:AV}:∀ (es:List ME) (j i:Nat) (v:AV),findKey k es j=some (some (i,v))→j≤i∧∃ e,es[i-j]? = some e∧keq k e.key=some true∧e.val=v:=by
 intro es
 induction es with
 | nil=>intro j i v h;simp [findKey] at h
 | cons e es ih=>
  intro j i v h
  simp only [findKey] at h
  split at h
  ·rename_i hq
   simp at h
   obtain ⟨rfl,rfl⟩:=h
   exact ⟨Nat.le_refl _,e,by simp,hq,rfl⟩
  ·obtain ⟨h1,e',h2,h3,h4⟩:=ih _ _ _ h
   refine ⟨by omega,e',?_,h3,h4⟩
   rw [show i-j=(i-(j+1))+1 by omega]
   simpa using h2
  ·simp at h
theorem bytes_eq {a b:ByteArray} (h:(a == b)=true):a=b:=by
 rw [←bytes_beq] at h
 have h2:a.toList=b.toList:=by simpa using h
 rw [ByteArray.toList_eq,ByteArray.toList_eq] at h2
 obtain ⟨⟨x⟩⟩:=a
 obtain ⟨⟨y⟩⟩:=b
 simp at h2
 rw [h2]
theorem bytes_self (a:ByteArray):(a == a)=true:=by
 rw [←bytes_beq]
 simp
theorem keqL_eq:∀ (x y:List CV) (u v:List Value),keqL x y=some true→RL E G x u→RL E G y v→u=v:=by
 intro x
 induction x with
 | nil=>
  intro y u v h hu hv
  cases y with
  | nil=>simp only [RL] at hu hv;rw [hu,hv]
  | cons _ _=>simp [keqL] at h
 | cons c x ih=>
  intro y u v h hu hv
  cases y with
  | nil=>simp [keqL] at h
  | cons d y=>
   simp only [keqL,Option.bind_eq_some_iff] at h
   obtain ⟨r,hr,h⟩:=h
   cases r with
   | false=>simp at h
   | true=>
    simp only [if_true] at h
    simp only [RL] at hu hv
    obtain ⟨u0,us,rfl,h1,h2⟩:=hu
    obtain ⟨v0,vs,rfl,h3,h4⟩:=hv
    rw [ih y us vs h h2 h4]
    congr 1
    unfold keqC at hr
    split at hr
    ·split at hr <;> simp at hr
     rename_i hk
     subst hk hr
     simp only [RC] at h1 h3
     rw [h1,h3]
    ·simp only [Option.some.injEq] at hr
     have hr:=bytes_eq hr
     subst hr
     simp only [RC] at h1 h3
     rw [h1,h3]
    ·simp at hr
     subst hr
     simp only [RC] at h1 h3
     rw [h1,h3]
    ·simp at hr
theorem keq_eq {x y:AV} {u v:Value} (h:keq x y=some true) (hu:RA E G x u) (hv:RA E G y v):u=v:=by
 unfold keq at h
 split at h
 ·rename_i c d
  have:=keqL_eq (E:=E) (G:=G) [c] [d] [u] [v] (by simp [keqL,h]) (by simp only [RL];exact ⟨u,[],rfl,by simpa only [RA] using hu,rfl⟩) (by simp only [RL];exact ⟨v,[],rfl,by simpa only [RA] using hv,rfl⟩)
  simpa using this
 ·simp only [RA] at hu hv
  obtain ⟨us,rfl,hu⟩:=hu
  obtain ⟨vs,rfl,hv⟩:=hv
  have:=keqL_eq _ _ _ _ h hu hv
  rw [Array.toList_inj.1 this]
 ·simp at h
theorem sameBits_self {kt:KT} {x:AV} {u:Value} (h:okKey kt x=true) (hu:RA E G x u):Instr.sameBits 10000 u u=true:=by
 cases x with
 | c c=>
  simp only [RA] at hu
  cases kt <;> cases c <;> simp [okKey] at h <;> simp only [RC] at hu <;> subst hu <;> simp [Instr.sameBits,bytes_self]
 | agg cs=>
  cases kt <;> simp [okKey] at h
  rename_i nn kk
  simp only [RA] at hu
  obtain ⟨us,rfl,hu⟩:=hu
  obtain ⟨_,hall⟩:=h
  have:∀ (l:List CV) (vs:List Value),(∀ c∈l,isInt kk c=true)→RL E G l vs→((vs.zip vs).all fun (x,y)=>Instr.sameBits 9999 x y)=true:=by
   intro l
   induction l with
   | nil=>intro vs _ h;simp only [RL] at h;subst h;rfl
   | cons c l ih=>
    intro vs hi h
    simp only [RL] at h
    obtain ⟨v,ws,rfl,h1,h2⟩:=h
    have hc:=hi c (by simp)
    cases c <;> simp [isInt] at hc
    simp only [RC] at h1
    subst h1
    simp only [List.zip_cons_cons,List.all_cons,Bool.and_eq_true]
    exact ⟨by simp [Instr.sameBits],ih ws (fun c hc=>hi c (by simp [hc])) h2⟩
  rw [show (10000:Nat)=9999+1 from rfl,Instr.sameBits]
  simp only [beq_self_eq_true,Bool.true_and]
  exact this cs us.toList hall hu
 | tup l=>cases kt <;> simp [okKey] at h
theorem run_setObj {b:Nat} {re:Array MapEntry} {clock:Nat} (h:w.heap[b]? = some (.map re clock)) (ob:Obj):(setObj b ob).run P w = .ok () (setB w b ob):=by
 simp [setObj,Sem.run,h,setB]
theorem putMap {hp:Hp} {lc:List (List CV)} {id b clock clock':Nat} {es es':List ME} {re re':Array MapEntry} (hH:RH E G B hp.f w) (hL:RLc E G B hp.f m lc w) (hid:hp.f id=some (.map true es clock)) (hg:G.obj id=some b)
 (hb:w.heap[b]? = some (.map re clock)) (hr:REnts E G es' re'.toList) :
 let hp':=hp.put id (.map true es' clock')
 let w':=setB w b (.map re' clock')
 RH E G B hp'.f w'∧RLc E G B hp'.f m lc w'∧(∀ b,Owned G hp'.f b→Owned G hp.f b∨w.heap.size≤b)∧Fr (fun b=>Owned G hp.f b∧B≤b) w w':=by
 intro hp' w'
 have ho:=hH.each id _ hid
 simp only [RO] at ho
 obtain ⟨b0,re0,k1,k2,k3,k4⟩:=ho
 rw [hg] at k1;injection k1 with k1;subst k1
 have hget:=setB_get (o:=.map re' clock') hb
 have hown:Owns G id b true (.map true es clock):=⟨rfl,hg⟩
 obtain ⟨p1,p2,p3⟩:=put_ok (G':=G) (w':=w') (o':=.map true es' clock') hH hL hid (Ext.refl _ _) (fun _ _=>⟨rfl,rfl⟩) (by show _≤(setB w b _).heap.size;rw [setB_size];exact Nat.le_refl _)
  (by
   intro b' _ hn
   show (setB w b _).heap[b']? = _
   rw [hget,if_neg (by rintro rfl;exact hn hown)])
  (by
   simp only [RO]
   refine ⟨b,re',hg,?_,hr,k4⟩
   show (setB w b _).heap[b]? = _
   rw [hget,if_pos rfl])
  (by
   rintro b' wr ⟨_,h⟩
   rw [hg] at h
   injection h with h
   subst h
   exact .inl hown)
 refine ⟨p1,p2,p3,⟨rfl,rfl,rfl,by show _≤(setB w b _).heap.size;rw [setB_size];exact Nat.le_refl _,fun b' hb' hn=>?_⟩⟩
 show (setB w b _).heap[b']? = _
 rw [hget,if_neg (by rintro rfl;exact hn ⟨⟨id,_,true,hid,hown⟩,k4 trivial⟩)]
theorem REnts.mk {ms:List ME} {es:List MapEntry} (h:es.length=ms.length) (k:∀ (i:Nat) (x:ME),ms[i]? = some x→∃ e,es[i]? = some e∧REnt E G x e):REnts E G ms es:=by
 induction ms generalizing es with
 | nil=>simp only [REnts];exact List.eq_nil_of_length_eq_zero (by simpa using h)
 | cons x ms ih=>
  cases es with
  | nil=>simp at h
  | cons e es=>
   simp only [REnts]
   refine ⟨e,es,rfl,?_,ih (by simpa using h) (fun i y hy=>by simpa using k (i+1) y (by simpa using hy))⟩
   obtain ⟨e',he',hr⟩:=k 0 x rfl
   simp at he'
   subst he'
   exact hr
theorem REnts.modify {ms:List ME} {es:List MapEntry} {f:ME→ME} {g:MapEntry→MapEntry} {i:Nat} (h:REnts E G ms es) (k:∀ x e,ms[i]? = some x→es[i]? = some e→REnt E G x e→REnt E G (f x) (g e)):REnts E G (ms.modify i f) (es.modify i g):=by
 refine REnts.mk (by simp [h.length]) (fun j x hx=>?_)
 rw [List.getElem?_modify] at hx ⊢
 simp only [Option.map_eq_map,Option.map_eq_some_iff] at hx
 obtain ⟨y,hy,rfl⟩:=hx
 obtain ⟨e,he,hr⟩:=h.get hy
 refine ⟨if i=j then g e else e,by simp [he],?_⟩
 split
 ·rename_i hij
  subst hij
  exact k y e hy he hr
 ·exact hr
theorem REnts.snoc {ms:List ME} {es:List MapEntry} {x:ME} {e:MapEntry} (h:REnts E G ms es) (k:REnt E G x e):REnts E G (ms++[x]) (es++[e]):=by
 induction ms generalizing es with
 | nil=>simp only [REnts] at h;subst h;simp only [List.nil_append,REnts];exact ⟨e,[],rfl,k,rfl⟩
 | cons y ms ih=>
  simp only [REnts] at h
  obtain ⟨e0,rest,rfl,h1,h2⟩:=h
  simp only [List.cons_append,REnts]
  exact ⟨e0,rest++[e],rfl,h1,ih h2⟩
theorem REnts.erase {ms:List ME} {es:List MapEntry} (h:REnts E G ms es) (i:Nat):REnts E G (ms.eraseIdx i) (es.eraseIdx i):=by
 induction ms generalizing es i with
 | nil=>simp only [REnts] at h;subst h;simp [REnts]
 | cons y ms ih=>
  simp only [REnts] at h
  obtain ⟨e0,rest,rfl,h1,h2⟩:=h
  cases i with
  | zero=>simpa using h2
  | succ i=>
   simp only [List.eraseIdx_cons_succ,REnts]
   exact ⟨e0,_,rfl,h1,ih h2 i⟩
theorem map_at (hH:RH E G B s.hp.f w) {id:Nat} {v:Value} {wr:Bool} {es:List ME} {clock:Nat} (r:RC E G (.map id) v) (hob:s.hp.obs[id]? = some (.map wr es clock)) :
 ∃ b re,G.obj id=some b∧v = .map (some b)∧w.heap[b]? = some (.map re clock)∧REnts E G es re.toList:=by
 simp only [RC] at r
 obtain ⟨b,h1,h2⟩:=r
 have hm:=hH.each _ _ hob
 simp only [RO] at hm
 obtain ⟨b',re,k1,k2,k3,k4⟩:=hm
 rw [h1] at k1;injection k1 with k1;subst k1
 exact ⟨b,re,h1,h2,k2,k3⟩
theorem step_map {hp':Hp} {tv:TV} {v:Value} {w':World} (hv:RT E G m tv v) (h:RH E G B hp'.f w'∧RLc E G B hp'.f m s.lc w'∧(∀ b,Owned G hp'.f b→Owned G s.hp.f b∨w.heap.size≤b)∧Fr (fun b=>Owned G s.hp.f b∧B≤b) w w')
 (hl:s.hp.obs.length≤hp'.obs.length) (hd:DeadOk G G s.hp hp':=by first|exact dead_put (by assumption) (by simp) (fun _ _=>⟨rfl,rfl⟩)|exact fun id h=>⟨.inl h,rfl,rfl⟩):Step E B G m s.hp s.lc w ⟨tv,s.lc,hp'⟩ v w' G m:=
 ⟨hv,h.1,h.2.1,Ext.refl _ _,⟨fun _ _ h=>h,fun _ _=>rfl⟩,h.2.2.2.mono (fun _ h=>⟨.inl h.1,h.2⟩),h.2.2.1,fun b hb=>.inl hb,⟨hl,Nat.le_refl _⟩,hd⟩
theorem key_stays {kt:KT} {kv:AV} {u:Value} {es:List ME} {re:Array MapEntry} {i:Nat} {v:AV} (hok:okKey kt kv=true) (rk:RA E G kv u) (he:REnts E G es re.toList) (hf:findKey kv es 0=some (some (i,v))) :
 ∃ e,re[i]? = some e∧e.key=u∧(Instr.keyThatStays (((re[i]?).map (·.key)).getD u) u).run P w = .ok u w:=by
 obtain ⟨_,me,h1,h2,h3⟩:=findKey_at es 0 i v hf
 rw [Nat.sub_zero] at h1
 obtain ⟨e,h4,h5⟩:=he.get h1
 have h6:u=e.key:=keq_eq h2 rk h5.1
 have h7:re[i]? = some e:=by simpa using h4
 refine ⟨e,h7,h6.symm,?_⟩
 have:((re[i]?).map (·.key)).getD u=u:=by simp [h7,h6]
 rw [this]
 simp [Instr.keyThatStays,sameBits_self hok rk]
theorem op_mupd (ht:RTm E G m s.tm a.tmps) (hH:RH E G B s.hp.f w) (hL:RLc E G B s.hp.f m s.lc w) {t kt e:TypeId} {x k y:Operand} {nx nk ny:NX} {qk:KT} (ho:o.op = .mapUpdate t x k y∨o.op = .insert t x k y)
 (hu:P.underlying t=some (.map kt e)) (hk:keyOf? P kt=some qk) (hx:compX E.rn x=some nx) (hkx:compX E.rn k=some nk) (hy:compX E.rn y=some ny) (hn:nop call orc s (.mupd qk nx nk ny)=some q):OpOk P E B G m s a w o q:=by
 simp only [nop,Option.bind_eq_some_iff] at hn
 obtain ⟨mv,hmv,kv,hkv,xv,hxv,hn⟩:=hn
 have rm:=asC_rel hmv (compX_rel ht hx)
 have rk:=(asV_rel hkv (compX_rel ht hkx)).1
 have rv:=(asV_rel hxv (compX_rel ht hy)).1
 split at hn
 rotate_left
 ·simp at hn
 rename_i id
 split at hn
 rotate_left
 ·simp at hn
 rename_i es clock hob
 split at hn
 rotate_left
 ·simp at hn
 rename_i hok
 simp only [Option.map_eq_some_iff] at hn
 obtain ⟨r,hr,rfl⟩:=hn
 obtain ⟨b,re,h1,h2,h3,h4⟩:=map_at hH rm hob
 obtain ⟨fv,hfv,hres⟩:=run_findKey (P:=P) (w:=w) hk hok rk h4 hr
 have hck:=run_checkKey (P:=P) (w:=w) (em:=false) hk hok rk
 have hgo:=go_map (P:=P) h3
 have fin:∀ w',(Instr.mapUpdate t (a.eval x) (a.eval k) (a.eval y)).run P w = .ok () w'→(execOp a.eval o).run P w = .ok .skip w':=by
  intro w' h
  rcases ho with ho|ho <;> simp [execOp,ho,h]
 intro hf hfm
 cases r with
 | none=>
  simp only [FoundOk] at hres
  subst hres
  refine ⟨.skip,undef,_,G,m,fin (setB w b (.map (re.push { key:=a.eval k,val:=a.eval y,born:=clock }) (clock+1))) ?_,.inr ⟨rfl,rfl⟩,step_map (by simp only [RT]) (putMap hH hL hob h1 h3 (by simpa using h4.snoc ⟨rk,rv,rfl⟩)) (by simp [Hp.put])⟩
  simp only [Instr.mapUpdate,Sem.run_bind,run_und hu,Result.andThen_ok,h2,hgo,hck,hfv,run_setObj h3]
 | some p=>
  obtain ⟨i,v0⟩:=p
  obtain ⟨uv,rfl,_⟩:=hres
  obtain ⟨e0,g1,g2,g3⟩:=key_stays (P:=P) (w:=w) hok rk h4 hr
  refine ⟨.skip,undef,_,G,m,fin (setB w b (.map (re.modify i fun e=>{ e with key:=a.eval k,val:=a.eval y }) clock)) ?_,.inr ⟨rfl,rfl⟩,step_map (by simp only [RT]) (putMap hH hL hob h1 h3 (by
   have:=h4.modify (i:=i) (f:=fun e=>{ e with key:=kv,val:=xv }) (g:=fun e=>{ e with key:=a.eval k,val:=a.eval y }) (fun x' e' _ _ hr'=>⟨rk,rv,hr'.2.2⟩)
   simpa using this)) (by simp [Hp.put])⟩
  simp only [Instr.mapUpdate,Sem.run_bind,run_und hu,Result.andThen_ok,h2,hgo,hck,hfv,g3,run_setObj h3]
theorem op_ment (ht:RTm E G m s.tm a.tmps) (hH:RH E G B s.hp.f w) (hL:RLc E G B s.hp.f m s.lc w) {t kt e:TypeId} {x k:Operand} {nx nk:NX} {qk:KT} {z:AV} (ho:o.op = .mapEntry t x k)
 (hu:P.underlying t=some (.map kt e)) (hk:keyOf? P kt=some qk) (hz:zeroOf P e=some z) (hx:compX E.rn x=some nx) (hkx:compX E.rn k=some nk) (hn:nop call orc s (.ment qk z nx nk)=some q):OpOk P E B G m s a w o q:=by
 simp only [nop,Option.bind_eq_some_iff] at hn
 obtain ⟨mv,hmv,kv,hkv,hn⟩:=hn
 have rm:=asC_rel hmv (compX_rel ht hx)
 have rk:=(asV_rel hkv (compX_rel ht hkx)).1
 split at hn
 rotate_left
 ·simp at hn
 rename_i id
 split at hn
 rotate_left
 ·simp at hn
 rename_i es clock hob
 split at hn
 rotate_left
 ·simp at hn
 rename_i hok
 simp only [Option.map_eq_some_iff] at hn
 obtain ⟨r,hr,rfl⟩:=hn
 obtain ⟨b,re,h1,h2,h3,h4⟩:=map_at hH rm hob
 obtain ⟨fv,hfv,hres⟩:=run_findKey (P:=P) (w:=w) hk hok rk h4 hr
 have hck:=run_checkKey (P:=P) (w:=w) (em:=false) hk hok rk
 have hgo:=go_map (P:=P) h3
 obtain ⟨zv,hzv,rz,_⟩:=run_zero hz w
 have fin:∀ v w',(Instr.mapEntry t (a.eval x) (a.eval k)).run P w = .ok v w'→(execOp a.eval o).run P w = .ok (.value v) w':=by
  intro v w' h
  simp [execOp,ho,h]
 intro hf hfm
 cases r with
 | none=>
  simp only [FoundOk] at hres
  subst hres
  refine ⟨_,.tuple #[zv,goInt clock],_,G,m,fin _ (setB w b (.map (re.push { key:=a.eval k,val:=zv,born:=clock }) (clock+1))) ?_,.inl rfl,step_map ?_ (putMap hH hL hob h1 h3 (by simpa using h4.snoc ⟨rk,rz E G,rfl⟩)) (by simp [Hp.put])⟩
  ·simp only [Instr.mapEntry,Sem.run_bind,run_und hu,Result.andThen_ok,h2,hgo,hck,hfv,hzv,run_setObj h3,Sem.run_pure]
  ·simp only [RT,RA,RAL,RC,goInt]
   exact ⟨_,rfl,_,_,rfl,rz E G,_,_,rfl,rfl,rfl⟩
 | some p=>
  obtain ⟨i,v0⟩:=p
  obtain ⟨uv,rfl,ruv⟩:=hres
  obtain ⟨e0,g1,g2,g3⟩:=key_stays (P:=P) (w:=w) hok rk h4 hr
  refine ⟨_,.tuple #[uv,goInt (((re[i]?).map (·.born)).getD 0)],_,G,m,fin _ (setB w b (.map (re.modify i fun e=>{ e with key:=a.eval k }) clock)) ?_,.inl rfl,step_map ?_ (putMap hH hL hob h1 h3 (by
   have:=h4.modify (i:=i) (f:=fun e=>{ e with key:=kv }) (g:=fun e=>{ e with key:=a.eval k }) (fun x' e' _ _ hr'=>⟨rk,hr'.2.1,hr'.2.2⟩)
   simpa using this)) (by simp [Hp.put])⟩
  ·simp only [Instr.mapEntry,Sem.run_bind,run_und hu,Result.andThen_ok,h2,hgo,hck,hfv,g3,run_setObj h3,Sem.run_pure]
  ·simp only [RT,RA,RAL,RC,goInt]
   refine ⟨_,rfl,_,_,rfl,ruv,_,_,rfl,?_,rfl⟩
   obtain ⟨_,me,q1,_⟩:=findKey_at es 0 i v0 hr
   rw [Nat.sub_zero] at q1
   obtain ⟨e1,q2,q3⟩:=h4.get q1
   have q4:re[i]? = some e1:=by simpa using q2
   simp [q1,q4,q3.2.2]
theorem op_mdel (ht:RTm E G m s.tm a.tmps) (hH:RH E G B s.hp.f w) (hL:RLc E G B s.hp.f m s.lc w) {c:Call} {kt e:TypeId} {x k:Operand} {nx nk:NX} {qk:KT} (ho:o.op = .call c) (hc:c.callee = .builtin .delete) (hargs:c.args.toList=[x,k]) (h2':c.argTypes.size=2)
 (hu:P.underlying (c.argTypes.getD 0 0)=some (.map kt e)) (hk:keyOf? P kt=some qk) (hx:compX E.rn x=some nx) (hkx:compX E.rn k=some nk) (hn:nop call orc s (.mdel qk nx nk)=some q):OpOk P E B G m s a w o q:=by
 simp only [nop,Option.bind_eq_some_iff] at hn
 obtain ⟨mv,hmv,kv,hkv,hn⟩:=hn
 have rm:=asC_rel hmv (compX_rel ht hx)
 have rk:=(asV_rel hkv (compX_rel ht hkx)).1
 have hty0:=argTy (c:=c) 0 (by omega)
 generalize c.argTypes.getD 0 0=t0 at hu hty0
 have hargs':=args2 (a:=a) hargs
 have fin:∀ v w',(Builtin.delete_ c.argTypes o.type #[a.eval x,a.eval k]).run P w = .ok v w'→(execOp a.eval o).run P w = .ok (.value v) w':=by
  intro v w' h
  refine run_builtin ho hc fun _=>?_
  simp [builtin,hargs',h]
 split at hn
 ·split at hn <;> simp at hn
  rename_i hok
  subst hn
  simp only [RC] at rm
  have hck:=run_checkKey (P:=P) (w:=w) (em:=true) hk hok rk
  refine PureOk.ok (q:=⟨.v (.tup []),s.lc,s.hp⟩) hH hL ⟨.tuple #[],fin _ _ ?_,rfl,rfl,by simp [RT,RA,RAL]⟩
  simp only [Builtin.delete_,hty0,List.getElem?_toArray,List.getElem?_cons_zero,List.getElem?_cons_succ,Sem.run_bind,run_und hu,Result.andThen_ok,rm,hck,Sem.run_pure]
 ·rename_i id
  split at hn
  rotate_left
  ·simp at hn
  rename_i es clock hob
  split at hn
  rotate_left
  ·simp at hn
  rename_i hok
  simp only [Option.map_eq_some_iff] at hn
  obtain ⟨r,hr,rfl⟩:=hn
  obtain ⟨b,re,h1,h2,h3,h4⟩:=map_at hH rm hob
  obtain ⟨fv,hfv,hres⟩:=run_findKey (P:=P) (w:=w) hk hok rk h4 hr
  have hck:=fun em=>run_checkKey (P:=P) (w:=w) (em:=em) hk hok rk
  have hgo:=go_map (P:=P) h3
  intro hf hfm
  cases r with
  | none=>
   simp only [FoundOk] at hres
   subst hres
   refine ⟨_,.tuple #[],_,G,m,fin _ (setB w b (.map re clock)) ?_,.inl rfl,step_map (by simp [RT,RA,RAL]) (putMap hH hL hob h1 h3 h4) (by simp [Hp.put])⟩
   simp only [Builtin.delete_,hty0,List.getElem?_toArray,List.getElem?_cons_zero,List.getElem?_cons_succ,Sem.run_bind,run_und hu,Result.andThen_ok,h2,hgo,hck,hfv,run_setObj h3,Sem.run_pure]
  | some p=>
   obtain ⟨i,v0⟩:=p
   obtain ⟨uv,rfl,ruv⟩:=hres
   refine ⟨_,.tuple #[],_,G,m,fin _ (setB w b (.map (re.eraseIdxIfInBounds i) clock)) ?_,.inl rfl,step_map (by simp [RT,RA,RAL]) (putMap hH hL hob h1 h3 (by
    have:=h4.erase i
    simpa using this)) (by simp [Hp.put])⟩
   simp only [Builtin.delete_,hty0,List.getElem?_toArray,List.getElem?_cons_zero,List.getElem?_cons_succ,Sem.run_bind,run_und hu,Result.andThen_ok,h2,hgo,hck,hfv,run_setObj h3,Sem.run_pure]
 ·simp at hn
theorem op_mest (ht:RTm E G m s.tm a.tmps) (hH:RH E G B s.hp.f w) (hL:RLc E G B s.hp.f m s.lc w) {t:TypeId} {x st y:Operand} {nx nst ny:NX} (ho:o.op = .entryStore t x st y) (hx:compX E.rn x=some nx) (hst:compX E.rn st=some nst) (hy:compX E.rn y=some ny)
 (hn:nop call orc s (.mest nx nst ny)=some q):OpOk P E B G m s a w o q:=by
 simp only [nop,Option.bind_eq_some_iff] at hn
 obtain ⟨mv,hmv,n,hnn,xv,hxv,hn⟩:=hn
 have rm:=asC_rel hmv (compX_rel ht hx)
 have rn':=asI_rel hnn (compX_rel ht hst)
 have rv:=(asV_rel hxv (compX_rel ht hy)).1
 split at hn
 rotate_left
 ·simp at hn
 rename_i id
 split at hn
 rotate_left
 ·simp at hn
 rename_i es clock hob
 split at hn
 rotate_left
 ·simp at hn
 rename_i i hi
 injection hn with hn
 subst hn
 obtain ⟨b,re,h1,h2,h3,h4⟩:=map_at hH rm hob
 have hgo:=go_map (P:=P) h3
 have hfi:re.findIdx? (fun e=>(e.born:Int) == n.2)=some i:=by
  obtain ⟨rel,rfl⟩:∃ rel:List MapEntry,re=rel.toArray:=⟨re.toList,by simp⟩
  rw [List.findIdx?_toArray]
  simp only at h4
  rw [List.findIdx?_eq_some_iff_getElem] at hi ⊢
  obtain ⟨g1,g2,g3⟩:=hi
  have hlen:=h4.length
  refine ⟨by omega,?_,?_⟩
  ·obtain ⟨e,q1,q2⟩:=h4.get (List.getElem?_eq_getElem g1)
   rw [List.getElem?_eq_getElem (by omega)] at q1
   injection q1 with q1
   rw [q1,←q2.2.2]
   exact g2
  ·intro j hj
   obtain ⟨e,q1,q2⟩:=h4.get (List.getElem?_eq_getElem (show j<es.length by omega))
   rw [List.getElem?_eq_getElem (by omega)] at q1
   injection q1 with q1
   rw [q1,←q2.2.2]
   exact g3 j hj
 intro hf hfm
 refine ⟨.skip,undef,setB w b (.map (re.modify i fun e=>{ e with val:=a.eval y }) clock),G,m,?_,.inr ⟨rfl,rfl⟩,step_map (by simp only [RT]) (putMap hH hL hob h1 h3 (by
  have:=h4.modify (i:=i) (f:=fun e=>{ e with val:=xv }) (g:=fun e=>{ e with val:=a.eval y }) (fun x' e' _ _ hr'=>⟨hr'.1,rv,hr'.2.2⟩)
  simpa using this)) (by simp [Hp.put])⟩
 simp [execOp,ho,Instr.entryStore,h2,hgo,rn',asInt,asIntOf,hfi,run_setObj h3]
end
end
section
section
variable {P:Program} {E:Env} {G:Gh} {B:Nat} {m:Mu} {s:St} {a:Act} {w w1:World}
variable {call:CallF} {orc:Nat→Nat} {o:Oper} {q:Res}
theorem REnts.filter {p:ME→Bool} {p':MapEntry→Bool} (hp:∀ x e,x.born=e.born→p x=p' e):∀ {ms:List ME} {es:List MapEntry},REnts E G ms es→REnts E G (ms.filter p) (es.filter p')
 | [],es,h=>by simp only [REnts] at h;subst h;simp [REnts]
 | x::ms,es,h=>by
  simp only [REnts] at h
  obtain ⟨e,rest,rfl,h1,h2⟩:=h
  rw [List.filter_cons,List.filter_cons,hp x e h1.2.2]
  split
  ·simp only [REnts];exact ⟨e,_,rfl,h1,REnts.filter hp h2⟩
  ·exact REnts.filter hp h2
theorem REnts.append {ms ns:List ME} {es fs:List MapEntry} (h:REnts E G ms es) (k:REnts E G ns fs):REnts E G (ms++ns) (es++fs):=by
 induction ms generalizing es with
 | nil=>simp only [REnts] at h;subst h;simpa using k
 | cons y ms ih=>
  simp only [REnts] at h
  obtain ⟨e0,rest,rfl,h1,h2⟩:=h
  simp only [List.cons_append,REnts]
  exact ⟨e0,rest++fs,rfl,h1,ih h2⟩
def candR (es:List MapEntry) (since:Nat) (seen:List Nat):List (Option MapEntry):=
 let left:=es.filter fun e=>!seen.contains e.born
 let old:=left.filter fun e=>decide (e.born<since)
 let new:=left.filter fun e=>decide (e.born ≥ since)
 (if old.isEmpty then [none] else [])++(old++new).map some
def candA (es:Array MapEntry) (since:Nat) (seen:Array Nat):Array (Option MapEntry):=
 let left:=es.filter fun e=>!seen.contains e.born
 let old:=left.filter (·.born<since)
 let new:=left.filter (·.born ≥ since)
 (if old.isEmpty then #[none] else #[])++(old++new).map some
theorem candA_eq (es:Array MapEntry) (since:Nat) (seen:List Nat):candA es since seen.toArray=(candR es.toList since seen).toArray:=by
 apply Array.toList_inj.mp
 simp only [candA,candR]
 have h:(Array.filter (fun e=>decide (e.born<since)) (Array.filter (fun e=>!seen.toArray.contains e.born) es)).isEmpty=(List.filter (fun e=>decide (e.born<since)) (List.filter (fun e=>!seen.contains e.born) es.toList)).isEmpty:=by
  rw [Bool.eq_iff_iff]
  simp
 rw [h]
 simp only [Array.toList_append,Array.toList_map,Array.toList_filter]
 split <;> simp
theorem run_choose (P:Program) (w:World) (n:Nat):(choose (.mapNext n)).run P w = .ok (if n≤1 then 0 else w.tape w.drawn (.mapNext n) % n) (if n≤1 then w else { w with drawn:=w.drawn+1 }):=by
 simp only [choose,Sem.run,Question.forced,Question.cut]
 by_cases h:n≤1 <;> simp [h]
theorem next_map {P:Program} {w:World} {b mb since clock last:Nat} {seen:List Nat} {re:Array MapEntry} {t:TypeId}
 (hgo:(getObj b).run P w = .ok (.mapIter (some mb) since seen.toArray last) w) (hgm:(getObj mb).run P w = .ok (.map re clock) w)
 (hc:¬(seen≠[]∧re.toList≠[]∧re.toList.all (fun e=>decide (e.born ≥ last))=true)) :
 (Instr.next (.pointer (some ⟨b,0,none⟩)) false t).run P w =
  (match (candR re.toList since seen)[if (candR re.toList since seen).length≤1 then 0 else w.tape w.drawn (.mapNext (candR re.toList since seen).length) % (candR re.toList since seen).length]? with
   | some (some e)=>(do setObj b (.mapIter (some mb) since (seen.toArray.push e.born) clock);pure (.tuple #[.bool true,e.key,e.val]):Sem Value)
   | some none=>pure (.tuple #[.bool false])
   | none => stuck "Next: no such candidate").run P (if (candR re.toList since seen).length ≤ 1 then w else { w with drawn := w.drawn + 1 }) := by
 have h0:(!seen.toArray.isEmpty && !re.isEmpty && re.all (fun e=>decide (e.born ≥ last)))=false:=by
  rw [Bool.eq_false_iff]
  intro h
  apply hc
  rw [Bool.and_eq_true,Bool.and_eq_true,←Array.all_toList] at h
  exact ⟨by simpa using h.1.1,by simpa using h.1.2,h.2⟩
 have this:=candA_eq re since seen
 simp only [candA] at this
 unfold Instr.next
 simp only [Sem.run_bind,hgo,Result.andThen_ok,hgm,h0,Bool.false_eq_true,if_false,this,List.size_toArray,run_choose,List.getElem?_toArray]
 rcases (candR re.toList since seen)[if (candR re.toList since seen).length≤1 then 0 else w.tape w.drawn (.mapNext (candR re.toList since seen).length) % (candR re.toList since seen).length]? with _|_|_ <;> rfl
theorem cand_aux {A N:List ME} {A' N':List MapEntry} (ho:REnts E G A A') (hn:REnts E G N N') :
 ((if A'.isEmpty then [none] else [])++(A'++N').map some).length=((if A.isEmpty then [none] else [])++(A++N).map some).length∧
 ∀ i:Nat,match ((if A.isEmpty then [none] else [])++(A++N).map some)[i]? with
  | none=>((if A'.isEmpty then [none] else [])++(A'++N').map some)[i]? = none
  | some none=>((if A'.isEmpty then [none] else [])++(A'++N').map some)[i]? = some none
  | some (some x)=>∃ e,((if A'.isEmpty then [none] else [])++(A'++N').map some)[i]? = some (some e)∧REnt E G x e:=by
 have hall:=ho.append hn
 have hemp:A'.isEmpty=A.isEmpty:=by
  have:=ho.length
  rw [Bool.eq_iff_iff,List.isEmpty_iff_length_eq_zero,List.isEmpty_iff_length_eq_zero]
  omega
 have hlen:=hall.length
 rw [hemp]
 generalize A++N=C at hall hlen
 generalize A'++N'=C' at hall hlen
 have key:∀ i:Nat,match (C.map some)[i]? with
  | none=>(C'.map some)[i]? = none
  | some none=>(C'.map some)[i]? = some none
  | some (some x)=>∃ e,(C'.map some)[i]? = some (some e)∧REnt E G x e:=by
  intro i
  rw [List.getElem?_map,List.getElem?_map]
  cases hi:C[i]? with
  | none=>
   simp only [Option.map_none]
   rw [List.getElem?_eq_none_iff] at hi
   rw [List.getElem?_eq_none (by omega)]
   rfl
  | some x=>
   obtain ⟨e,he,hr⟩:=hall.get hi
   simp only [Option.map_some]
   exact ⟨e,by rw [he];rfl,hr⟩
 cases A.isEmpty with
 | false=>
  simp only [Bool.false_eq_true,if_false,List.nil_append]
  exact ⟨by rw [List.length_map,List.length_map];exact hlen,key⟩
 | true=>
  simp only [if_true,List.cons_append,List.nil_append]
  refine ⟨by rw [List.length_cons,List.length_cons,List.length_map,List.length_map,hlen],fun i=>?_⟩
  cases i with
  | zero=>rw [List.getElem?_cons_zero,List.getElem?_cons_zero]
  | succ i=>rw [List.getElem?_cons_succ,List.getElem?_cons_succ];exact key i
theorem cand_rel {ms:List ME} {es:List MapEntry} (h:REnts E G ms es) (since:Nat) (seen:List Nat):(candR es since seen).length=(candOf ms since seen).length∧
 ∀ i:Nat,match (candOf ms since seen)[i]? with
  | none=>(candR es since seen)[i]? = none
  | some none=>(candR es since seen)[i]? = some none
  | some (some x)=>∃ e,(candR es since seen)[i]? = some (some e)∧REnt E G x e:=by
 have hl:REnts E G (ms.filter fun e=>!seen.contains e.born) (es.filter fun e=>!seen.contains e.born):=h.filter (fun x e hb=>by rw [hb])
 have ho:=hl.filter (p:=fun e=>decide (e.born<since)) (p':=fun e=>decide (e.born<since)) (fun x e hb=>by rw [hb])
 have hn:=hl.filter (p:=fun e=>decide (e.born ≥ since)) (p':=fun e=>decide (e.born ≥ since)) (fun x e hb=>by rw [hb])
 exact cand_aux ho hn
end
end
section
section
variable {P:Program} {E:Env} {G:Gh} {B:Nat} {m:Mu} {s:St} {a:Act} {w w1:World}
variable {call:CallF} {orc:Nat→Nat} {o:Oper} {q:Res}
theorem op_next (ht:RTm E G m s.tm a.tmps) (hH:RH E G B s.hp.f w) (hL:RLc E G B s.hp.f m s.lc w) {x:Operand} {nx:NX} {str:Bool} (ho:o.op = .next x str) (hx:compX E.rn x=some nx)
 (horc:∀ id mm since seen last wr es clock,nx.ev s.tm = .v (.c (.it id))→s.hp.obs[id]? = some (.miter (some mm) since seen last)→s.hp.obs[mm]? = some (.map wr es clock)→orc s.hp.cnt=w.tape w.drawn (.mapNext (candOf es since seen).length))
 (hn:nop call orc s (.next str nx)=some q):OpOk P E B G m s a w o q:=by
 have rx:=compX_rel ht hx
 simp only [nop] at hn
 generalize hev:nx.ev s.tm=tv at hn rx horc
 have fin:∀ v w',(Instr.next (a.eval x) str o.type).run P w = .ok v w'→(execOp a.eval o).run P w = .ok (.value v) w':=by
  intro v w' h
  simp [execOp,ho,h]
 unfold nextV at hn
 split at hn
 rotate_left
 ·simp at hn
 rename_i id
 simp only [RT,RA,RC] at rx
 obtain ⟨b,g1,g2⟩:=rx
 split at hn
 ·
  rename_i bs pos hob
  have hio:=hH.each _ _ hob
  simp only [RO] at hio
  obtain ⟨b',k1,k2,k3⟩:=hio
  rw [g1] at k1;injection k1 with k1;subst k1
  have hgo:(getObj b).run P w = .ok (.stringIter bs pos) w:=by simp [getObj,Sem.run,k2]
  split at hn
  ·rename_i hlt
   injection hn with hn
   subst hn
   have hst:∀ ob,(setObj b ob).run P w = .ok () (setB w b ob):=fun ob=>by simp [setObj,Sem.run,k2,setB]
   have hget:=setB_get (o:=.stringIter bs (pos+(Utf8.decode bs pos).2)) k2
   have hown:Owns G id b true (.siter bs pos):=⟨rfl,g1⟩
   obtain ⟨p1,p2,p3⟩:=put_ok (G':=G) (w':=setB w b (.stringIter bs (pos+(Utf8.decode bs pos).2))) (o':=.siter bs (pos+(Utf8.decode bs pos).2)) hH hL hob (Ext.refl _ _) (fun _ _=>⟨rfl,rfl⟩) (by rw [setB_size];exact Nat.le_refl _)
    (by intro b' _ hn';rw [hget,if_neg (by rintro rfl;exact hn' hown)])
    (by simp only [RO];exact ⟨b,g1,by rw [hget,if_pos rfl],k3⟩)
    (by rintro b' wr ⟨_,h⟩;rw [g1] at h;injection h with h;subst h;exact .inl hown)
   intro hf hfm
   refine ⟨_,.tuple #[.bool true,goInt pos,.int .i32 (Utf8.decode bs pos).1],_,G,m,fin _ (setB w b (.stringIter bs (pos+(Utf8.decode bs pos).2))) ?_,.inl rfl,step_map ?_ ⟨p1,p2,p3,⟨rfl,rfl,rfl,by rw [setB_size];exact Nat.le_refl _,fun b' _ hn'=>by rw [hget,if_neg (by rintro rfl;exact hn' ⟨⟨id,_,true,hob,hown⟩,k3⟩)]⟩⟩ (by simp [Hp.put])⟩
   ·rw [g2]
    simp [Instr.next,hgo,hlt,hst]
   ·simp only [RT,RA,RAL,RC,goInt]
    exact ⟨_,rfl,_,_,rfl,rfl,_,_,rfl,rfl,_,_,rfl,rfl,rfl⟩
  ·rename_i hge
   injection hn with hn
   subst hn
   refine PureOk.ok (q:=⟨_,s.lc,s.hp⟩) hH hL ⟨.tuple #[.bool false],fin _ _ ?_,rfl,rfl,by simp only [RT,RA,RAL,RC];exact ⟨_,rfl,_,_,rfl,rfl,rfl⟩⟩
   rw [g2]
   simp [Instr.next,hgo,hge]
 ·
  rename_i since seen last hob
  have hio:=hH.each _ _ hob
  simp only [RO] at hio
  obtain ⟨b',k1,k2,rm,k3,k4⟩:=hio
  rw [g1] at k1;injection k1 with k1;subst k1
  subst k4
  have hgo:(getObj b).run P w = .ok (.mapIter none since seen.toArray last) w:=by simp [getObj,Sem.run,k3]
  injection hn with hn
  subst hn
  refine PureOk.ok (q:=⟨_,s.lc,s.hp⟩) hH hL ⟨.tuple #[.bool false],fin _ _ ?_,rfl,rfl,by simp only [RT,RA,RAL,RC];exact ⟨_,rfl,_,_,rfl,rfl,rfl⟩⟩
  rw [g2]
  simp [Instr.next,hgo]
 ·
  rename_i mm since seen last hob
  unfold nextM at hn
  split at hn
  rotate_left
  ·simp at hn
  rename_i wr es clock hom
  have horc':=horc id mm since seen last wr es clock rfl hob hom
  have hio:=hH.each _ _ hob
  simp only [RO] at hio
  obtain ⟨b',k1,k2,rm,k3,mb,k4,k5⟩:=hio
  rw [g1] at k1;injection k1 with k1;subst k1
  subst k5
  have hmo:=hH.each _ _ hom
  simp only [RO] at hmo
  obtain ⟨b',re,l1,l2,l3,l4⟩:=hmo
  rw [k4] at l1;injection l1 with l1;subst l1
  have hgo:(getObj b).run P w = .ok (.mapIter (some mb) since seen.toArray last) w:=by simp [getObj,Sem.run,k3]
  have hgm:=go_map (P:=P) l2
  split at hn
  ·simp at hn
  rename_i hcond
  obtain ⟨c1,c2⟩:=cand_rel l3 since seen
  have hemp:¬(seen≠[]∧re.toList≠[]∧re.toList.all (fun e=>decide (e.born ≥ last))=true):=by
   rintro ⟨h1,h2,h3⟩
   apply hcond
   refine ⟨h1,?_,?_⟩
   ·rintro rfl;simp only [REnts] at l3;exact h2 l3
   ·rw [List.all_eq_true] at h3 ⊢
    intro x hx
    obtain ⟨i,hi⟩:=List.mem_iff_getElem?.mp hx
    obtain ⟨e,he,hr⟩:=l3.get hi
    rw [hr.2.2]
    exact h3 e (List.mem_of_getElem? he)
  have hrun:=next_map (t:=o.type) hgo hgm hemp
  have hidx:(if (candR re.toList since seen).length≤1 then 0 else w.tape w.drawn (.mapNext (candR re.toList since seen).length) % (candR re.toList since seen).length) =
   (if (candOf es since seen).length≤1 then 0 else orc s.hp.cnt % (candOf es since seen).length):=by rw [c1,horc']
  rw [hidx,c1] at hrun
  generalize (if (candOf es since seen).length≤1 then 0 else orc s.hp.cnt % (candOf es since seen).length)=ix at hrun hn
  have c3:=c2 ix
  obtain ⟨w1,hw1⟩:∃ w1,w1=(if (candOf es since seen).length≤1 then w else { w with drawn:=w.drawn+1 }):=⟨_,rfl⟩
  rw [←hw1] at hrun
  have he1:w1.heap=w.heap:=by rw [hw1];split <;> rfl
  have he2:w1.os=w.os:=by rw [hw1];split <;> rfl
  have he3:w1.tape=w.tape:=by rw [hw1];split <;> rfl
  have he4:w1.output=w.output:=by rw [hw1];split <;> rfl
  rw [←g2] at hrun
  cases hcx:(candOf es since seen)[ix]? with
  | none=>rw [hcx] at hn;simp at hn
  | some me=>
   cases me with
   | none=>
    rw [hcx] at hn c3
    simp only at c3
    rw [c3] at hrun
    injection hn with hn
    subst hn
    intro hf hfm
    refine ⟨_,.tuple #[.bool false],_,G,m,fin _ w1 hrun,.inl rfl,Step.same he1 he2 he3 he4 (step_map ?_ ⟨RH.same he1 hH,RLc.same he1 hL,fun b h=>.inl h,Fr.refl _ _⟩ (Nat.le_refl _))⟩
    simp only [RT,RA,RAL,RC]
    exact ⟨_,rfl,_,_,rfl,rfl,rfl⟩
   | some me=>
    rw [hcx] at hn c3
    simp only at c3
    obtain ⟨e,c4,c5⟩:=c3
    rw [c4] at hrun
    injection hn with hn
    subst hn
    have k3':w1.heap[b]? = some (.mapIter (some mb) since seen.toArray last):=by rw [he1];exact k3
    have hst:∀ ob,(setObj b ob).run P w1 = .ok () (setB w1 b ob):=fun ob=>by simp [setObj,Sem.run,k3',setB]
    have hget:=setB_get (o:=.mapIter (some mb) since (seen.toArray.push e.born) clock) k3'
    have hown:Owns G id b true (.miter (some mm) since seen last):=⟨rfl,g1⟩
    obtain ⟨p1,p2,p3⟩:=put_ok (G':=G) (w':=setB w1 b (.mapIter (some mb) since (seen.toArray.push e.born) clock)) (o':=.miter (some mm) since (seen++[me.born]) clock) (RH.same he1 hH) (RLc.same he1 hL) hob (Ext.refl _ _) (fun _ _=>⟨rfl,rfl⟩) (by rw [setB_size];exact Nat.le_refl _)
     (by intro b' _ hn';rw [hget,if_neg (by rintro rfl;exact hn' hown)])
     (by simp only [RO];exact ⟨b,g1,k2,some mb,by rw [hget,if_pos rfl,c5.2.2];simp,mb,k4,rfl⟩)
     (by rintro b' wr ⟨_,h⟩;rw [g1] at h;injection h with h;subst h;exact .inl hown)
    intro hf hfm
    refine ⟨_,.tuple #[.bool true,e.key,e.val],_,G,m,fin _ (setB w1 b (.mapIter (some mb) since (seen.toArray.push e.born) clock)) ?_,.inl rfl,Step.same he1 he2 he3 he4 (step_map ?_ ⟨p1,p2,p3,⟨rfl,rfl,rfl,by rw [setB_size];exact Nat.le_refl _,fun b' _ hn'=>by rw [hget,if_neg (by rintro rfl;exact hn' ⟨⟨id,_,true,hob,hown⟩,k2⟩)]⟩⟩ (by simp [Hp.put]))⟩
    ·rw [hrun]
     simp [hst]
    ·simp only [RT,RA,RAL,RC]
     exact ⟨_,rfl,_,_,rfl,rfl,_,_,rfl,c5.1,_,_,rfl,c5.2.1,rfl⟩
 ·simp at hn
theorem find_rel {stamp:Nat}:∀ {ms:List ME} {es:List MapEntry},REnts E G ms es→∀ {x:ME},ms.find? (fun e=>e.born == stamp)=some x→∃ e,es.find? (fun e=>e.born == stamp)=some e∧REnt E G x e
 | [],es,h,x,hx=>by simp at hx
 | y::ms,es,h,x,hx=>by
  simp only [REnts] at h
  obtain ⟨e,rest,rfl,h1,h2⟩:=h
  rw [List.find?_cons] at hx
  rw [List.find?_cons,←h1.2.2]
  split at hx
  ·rename_i hb
   injection hx with hx
   subst hx
   exact ⟨e,rfl,h1⟩
  ·rename_i hb
   exact find_rel h2 hx
theorem op_entry (ht:RTm E G m s.tm a.tmps) (hH:RH E G B s.hp.f w) (hL:RLc E G B s.hp.f m s.lc w) {x:Operand} {nx:NX} (ho:o.op = .entry x) (hx:compX E.rn x=some nx)
 (hn:nop call orc s (.entry nx)=some q):OpOk P E B G m s a w o q:=by
 have rx:=compX_rel ht hx
 simp only [nop,Option.map_eq_some_iff] at hn
 obtain ⟨tv,hn,rfl⟩:=hn
 generalize hev:nx.ev s.tm=t at hn rx
 unfold entryV at hn
 split at hn
 rotate_left
 ·cases hn
 rename_i id
 simp only [RT,RA,RC] at rx
 obtain ⟨b,g1,g2⟩:=rx
 split at hn
 rotate_left
 ·cases hn
 rename_i mm since seen last hob
 have hio:=hH.each _ _ hob
 simp only [RO] at hio
 obtain ⟨b',k1,k2,rm,k3,mb,k4,k5⟩:=hio
 rw [g1] at k1;injection k1 with k1;subst k1
 subst k5
 split at hn
 rotate_left
 ·cases hn
 rename_i stamp hst
 split at hn
 rotate_left
 ·cases hn
 rename_i wr es clock hom
 have hmo:=hH.each _ _ hom
 simp only [RO] at hmo
 obtain ⟨b',re,l1,l2,l3,l4⟩:=hmo
 rw [k4] at l1;injection l1 with l1;subst l1
 split at hn
 rotate_left
 ·cases hn
 rename_i hcl
 subst hcl
 simp only [Option.map_eq_some_iff] at hn
 obtain ⟨me,hf,rfl⟩:=hn
 obtain ⟨e,c1,c2⟩:=find_rel l3 hf
 have hgo:(getObj b).run P w = .ok (.mapIter (some mb) since seen.toArray clock) w:=by simp [getObj,Sem.run,k3]
 have hgm:=go_map (P:=P) l2
 have c1':re.find? (fun e=>e.born == stamp)=some e:=by rw [←Array.find?_toList];exact c1
 have hback:seen.toArray.back? = some stamp:=by rw [←hst];simp
 refine PureOk.ok hH hL ⟨.tuple #[e.key,e.val],?_,rfl,rfl,?_⟩
 ·have hrun:(Instr.entry (a.eval x)).run P w = .ok (.tuple #[e.key,e.val]) w:=by
   rw [g2]
   unfold Instr.entry
   simp only [Sem.run_bind,hgo,Result.andThen_ok,hback,hgm,c1',bne_self_eq_false,Bool.false_eq_true,if_false]
   rfl
  simp [execOp,ho,hrun]
 ·simp only [RT,RA,RAL]
  exact ⟨_,rfl,_,_,rfl,c2.1,_,_,rfl,c2.2.1,rfl⟩
end
end
section
section
variable {P:Program} {E:Env} {G:Gh} {B:Nat} {m:Mu} {s:St} {a:Act} {w w1:World}
variable {call:CallF} {orc:Nat→Nat} {o:Oper} {q:Res}
def NO.still:NO→Bool
 | .call _ _=>false
 | .dyn _ _=>false
 | .inv _ _ _=>false
 | _=>true
def OrcOk (orc:Nat→Nat) (s:St) (w:World) (n:NO):Prop:=
 ∀ str x id mm since seen last wr es clock,n = .next str x→x.ev s.tm = .v (.c (.it id))→s.hp.obs[id]? = some (.miter (some mm) since seen last)→s.hp.obs[mm]? = some (.map wr es clock)→
  orc s.hp.cnt=w.tape w.drawn (.mapNext (candOf es since seen).length)
theorem compXs_list {rn:FuncId→Nat}:∀ {xs:List Operand} {l:List NX},compXs rn xs=some l→xs.length=l.length∧∀ (i:Nat) (x:Operand),xs[i]? = some x→∃ n,l[i]? = some n∧compX rn x=some n
 | [],l,h=>by simp [compXs] at h;subst h;simp
 | y::ys,l,h=>by
  simp only [compXs,Option.bind_eq_some_iff,Option.some.injEq] at h
  obtain ⟨n,h1,ns,h2,rfl⟩:=h
  obtain ⟨k1,k2⟩:=compXs_list h2
  refine ⟨by simp [k1],fun i x hi=>?_⟩
  cases i with
  | zero=>simp at hi;subst hi;exact ⟨n,rfl,h1⟩
  | succ i=>simpa using k2 i x (by simpa using hi)
theorem compXs_one {rn:FuncId→Nat} {xs:List Operand} {n:NX} (h:compXs rn xs=some [n]):∃ x,xs=[x]∧compX rn x=some n:=by
 match xs,h with
 | [],h=>simp [compXs] at h
 | [x],h=>
  simp only [compXs,Option.bind_eq_some_iff,Option.some.injEq] at h
  obtain ⟨n',h1,ns,h2,h3⟩:=h
  injection h3 with h3 h4
  subst h3
  exact ⟨x,rfl,h1⟩
 | x::y::l,h=>
  have:=(compXs_list h).1
  simp at this
theorem compXs_two {rn:FuncId→Nat} {xs:List Operand} {n k:NX} (h:compXs rn xs=some [n,k]):∃ x y,xs=[x,y]∧compX rn x=some n∧compX rn y=some k:=by
 match xs,h with
 | [],h=>simp [compXs] at h
 | [x],h=>have:=(compXs_list h).1;simp at this
 | [x,y],h=>
  simp only [compXs,Option.bind_eq_some_iff,Option.some.injEq] at h
  obtain ⟨n',h1,ns,⟨k',h2,_,rfl,rfl⟩,h3⟩:=h
  simp at h3
  obtain ⟨rfl,rfl⟩:=h3
  exact ⟨x,y,rfl,h1,h2⟩
 | x::y::z::l,h=>
  have:=(compXs_list h).1
  simp at this
theorem op_builtin (ht:RTm E G m s.tm a.tmps) (hH:RH E G B s.hp.f w) (hL:RLc E G B s.hp.f m s.lc w) {c:Call} {b:Builtin} {n:NO} (ho:o.op = .call c) (hb:c.callee = .builtin b)
 (hc:compCall P E.rn c=some n) (hn:nop call orc s n=some q):OpOk P E B G m s a w o q:=by
 unfold compCall at hc
 rw [Option.bind_eq_some_iff] at hc
 obtain ⟨args,hx,hc⟩:=hc
 rw [hb] at hc
 simp only at hc
 split at hc
 ·
  obtain ⟨x,y,hl,h1,h2⟩:=compXs_two hx
  split at hc
  rotate_left
  ·cases hc
  rename_i e hu
  split at hc
  ·rename_i i e' hi hd hz
   split at hc
   rotate_left
   ·cases hc
   rename_i hcond
   injection hc with hc
   subst hc
   obtain ⟨z,hz⟩:=Option.isSome_iff_exists.mp hz
   exact op_append ht hH hL ho hb hl h1 h2 hcond.2.2 hu (.inr ⟨_,hd⟩) hi hz hcond.1 hcond.2.1 hn
  ·rename_i i hi hd hz
   split at hc
   rotate_left
   ·cases hc
   rename_i hcond
   injection hc with hc
   subst hc
   obtain ⟨z,hz⟩:=Option.isSome_iff_exists.mp hz
   exact op_append ht hH hL ho hb hl h1 h2 hcond.2.2 hu (.inl hd) hi hz (by omega) hcond.2.1 hn
  ·cases hc
 ·
  obtain ⟨x,y,hl,h1,h2⟩:=compXs_two hx
  split at hc
  rotate_left
  ·cases hc
  rename_i e hu
  split at hc
  rotate_left
  ·cases hc
  rename_i i hi
  split at hc
  rotate_left
  ·cases hc
  rename_i hcond
  injection hc with hc
  subst hc
  exact op_copy ht hH hL ho hb hl h1 h2 hcond.2 hu (by simp [szOf,hi]) hn
 ·
  obtain ⟨x,hl,h1⟩:=compXs_one hx
  split at hc
  rotate_left
  ·cases hc
  rename_i e hu h2
  simp only [Option.bind_eq_some_iff] at hc
  obtain ⟨z,hz,n',hs,hc⟩:=hc
  split at hc
  rotate_left
  ·cases hc
  injection hc with hc
  subst hc
  exact op_clear ht hH hL ho hb hl h1 h2 hu hz hs hn
 ·
  obtain ⟨x,y,hl,h1,h2⟩:=compXs_two hx
  split at hc
  rotate_left
  ·cases hc
  rename_i kt e hu h3
  simp only [Option.map_eq_some_iff] at hc
  obtain ⟨qk,hk,hc⟩:=hc
  subst hc
  exact op_mdel ht hH hL ho hb hl h3 hu hk h1 h2 hn
 ·
  obtain ⟨x,hl,h1⟩:=compXs_one hx
  split at hc
  ·rename_i hu h2
   injection hc with hc
   subst hc
   exact (op_len ht hH ho hb hl h1 (.inl ⟨rfl,hu⟩) h2 hn).ok hH hL
  ·rename_i e hu h2
   injection hc with hc
   subst hc
   exact (op_len ht hH ho hb hl h1 (.inr (.inl ⟨rfl,_,hu⟩)) h2 hn).ok hH hL
  ·rename_i k e hu h2
   injection hc with hc
   subst hc
   exact (op_len ht hH ho hb hl h1 (.inr (.inr ⟨rfl,_,_,hu⟩)) h2 hn).ok hH hL
  ·rename_i len e hu h2
   injection hc with hc
   subst hc
   simp only [nop,Option.some.injEq] at hn
   subst hn
   have harg:=arg0 (a:=a) hl
   have hty:=argTy (c:=c) 0 (by omega)
   generalize c.argTypes.getD 0 0=t0 at hu hty
   refine PureOk.ok (q:=⟨_,s.lc,s.hp⟩) hH hL ⟨.int .i64 len,run_builtin ho hb fun _=>?_,rfl,rfl,by simp [NX.ev,RT,RA,RC]⟩
   simp [builtin,Builtin.len_,harg,hty,run_und hu,goInt]
  ·cases hc
 ·
  obtain ⟨x,hl,h1⟩:=compXs_one hx
  split at hc
  rotate_left
  ·cases hc
  rename_i e hu h2
  injection hc with hc
  subst hc
  exact (op_cap ht ho hb hl h1 hu h2 hn).ok hH hL
 ·injection hc with hc
  subst hc
  exact (op_min ht ho hb hx hn).ok hH hL
 ·injection hc with hc
  subst hc
  exact (op_max ht ho hb hx hn).ok hH hL
 ·cases hc
theorem op_ok (ht:RTm E G m s.tm a.tmps) (hH:RH E G B s.hp.f w) (hL:RLc E G B s.hp.f m s.lc w) {loc:Bool} {n:NO} (hc:compOp P E.rn loc o.op=some n) (hs:n.still=true)
 (horc:OrcOk orc s w n) (hn:nop call orc s n=some q):OpOk P E B G m s a w o q:=by
 generalize hop:o.op=op at hc
 unfold compOp at hc
 split at hc
 ·
  simp only [Option.map_eq_some_iff] at hc
  obtain ⟨nx,hx,rfl⟩:=hc
  exact (op_move ht (.inl hop) hx hn).ok hH hL
 ·simp only [Option.map_eq_some_iff] at hc
  obtain ⟨nx,hx,rfl⟩:=hc
  exact (op_move ht (.inr hop) hx hn).ok hH hL
 ·
  simp only [Option.bind_eq_some_iff,Option.map_eq_some_iff] at hc
  obtain ⟨nc,hcc,nx,hx,ny,hy,rfl⟩:=hc
  exact (op_pick ht hop hcc hx hy hn).ok hH hL
 ·
  simp only [Option.bind_eq_some_iff,Option.map_eq_some_iff] at hc
  obtain ⟨z,hz,k,hk,rfl⟩:=hc
  exact op_alloc hH hL hop hz hn
 ·
  simp only [Option.bind_eq_some_iff,Option.map_eq_some_iff] at hc
  obtain ⟨nx,hx,k,hk,rfl⟩:=hc
  exact op_box ht hH hL hop hx hn
 ·
  simp only [Option.bind_eq_some_iff] at hc
  obtain ⟨z,hz,hc⟩:=hc
  split at hc
  ·rename_i fields hu
   split at hc
   rotate_left
   ·cases hc
   rename_i hall
   simp only [Option.map_eq_some_iff] at hc
   obtain ⟨l,hl,rfl⟩:=hc
   exact (op_build ht hop hz (.inl ⟨_,hu,hall,hl⟩) hn).ok hH hL
  ·rename_i len e hu
   simp only [Option.bind_eq_some_iff,Option.map_eq_some_iff] at hc
   obtain ⟨k,hk,l,hl,rfl⟩:=hc
   exact (op_build ht hop hz (.inr ⟨_,_,_,hu,hk,hl⟩) hn).ok hH hL
  ·cases hc
 ·
  split at hc
  rotate_left
  ·cases hc
  rename_i e hu
  simp only [Option.bind_eq_some_iff] at hc
  obtain ⟨z,hz,k,hk,hc⟩:=hc
  split at hc
  rotate_left
  ·cases hc
  rename_i hcond
  simp only [Option.map_eq_some_iff] at hc
  obtain ⟨l,hl,rfl⟩:=hc
  exact op_bslice ht hH hL hop hu hz hk hcond.1 hcond.2 hl hn
 ·
  split at hc
  rotate_left
  ·cases hc
  rename_i kt e hu
  simp only [Option.bind_eq_some_iff,Option.map_eq_some_iff] at hc
  obtain ⟨qk,hk,nx,hx,nk,hkx,ny,hy,rfl⟩:=hc
  exact op_mupd ht hH hL (.inr hop) hu hk hx hkx hy hn
 ·
  simp only [Option.bind_eq_some_iff,Option.map_eq_some_iff] at hc
  obtain ⟨nx,hx,sh,hsh,rfl⟩:=hc
  exact (op_load ht hH hL hop hx hsh hn).ok hH hL
 ·
  simp only [Option.bind_eq_some_iff,Option.map_eq_some_iff] at hc
  obtain ⟨nx,hx,ny,hy,k,hk,rfl⟩:=hc
  exact op_store ht hH hL hop hx hy hk hn
 ·simp only [Option.map_eq_some_iff] at hc
  obtain ⟨nx,hx,rfl⟩:=hc
  exact (op_nilck ht hop hx hn).ok hH hL
 ·
  split at hc
  ·rename_i b hb
   simp only [Option.map_eq_some_iff] at hc
   obtain ⟨nx,hx,rfl⟩:=hc
   exact (op_isnil ht hop hb hx hn).ok hH hL
  ·simp only [Option.bind_eq_some_iff,Option.map_eq_some_iff] at hc
   obtain ⟨nx,hx,ny,hy,rfl⟩:=hc
   exact (op_bin ht hop hx hy hn).ok hH hL
 ·simp only [Option.map_eq_some_iff] at hc
  obtain ⟨nx,hx,rfl⟩:=hc
  exact (op_un ht hop hx hn).ok hH hL
 ·
  simp only [Option.bind_eq_some_iff] at hc
  obtain ⟨nx,hx,hc⟩:=hc
  split at hc
  ·rename_i k' k h1 h2
   injection hc with hc
   subst hc
   exact (op_toInt ht hop hx h1 h2 hn).ok hH hL
  ·rename_i h1 h2
   injection hc with hc
   subst hc
   exact (op_same ht hop hx h1 h2 hn).ok hH hL
  ·rename_i k h1 h2
   injection hc with hc
   subst hc
   exact (op_intToStr ht hop hx h1 h2 hn).ok hH hL
  ·rename_i e h1 h2
   split at hc
   ·rename_i he
    injection hc with hc
    subst hc
    exact (op_bytesToStr ht hH hL hop hx h1 h2 he hn).ok hH hL
   ·rename_i he
    injection hc with hc
    subst hc
    exact (op_runesToStr ht hH hL hop hx h1 h2 he hn).ok hH hL
   ·cases hc
  ·rename_i e h1 h2
   split at hc
   ·rename_i he
    injection hc with hc
    subst hc
    exact op_strToBytes ht hH hL hop hx h1 h2 he hn
   ·rename_i he
    injection hc with hc
    subst hc
    exact op_strToRunes ht hH hL hop hx h1 h2 he hn
   ·cases hc
  ·cases hc
 ·
  split at hc
  rotate_left
  ·cases hc
  rename_i h0
  simp only [Option.map_eq_some_iff] at hc
  obtain ⟨l,hl,rfl⟩:=hc
  exact (op_mkfn ht hop h0 hl hn).ok hH hL
 ·injection hc with hc
  subst hc
  exact op_mkmap hH hL hop hn
 ·
  split at hc
  rotate_left
  ·cases hc
  rename_i e hu
  simp only [Option.bind_eq_some_iff] at hc
  obtain ⟨z,hz,i,hi,nx,hx,ny,hy,hc⟩:=hc
  split at hc
  rotate_left
  ·cases hc
  rename_i hpos
  injection hc with hc
  subst hc
  exact op_mkslice ht hH hL hop hu hz hi hpos hx hy hn
 ·
  simp only [Option.bind_eq_some_iff] at hc
  obtain ⟨nx,hx,nlo,hlo,nhi,hhi,nmx,hmx,hc⟩:=hc
  split at hc
  ·rename_i hu
   injection hc with hc
   subst hc
   exact (op_slice ht hH hop hx hlo hhi hmx (.inl ⟨hu,rfl⟩) hn).ok hH hL
  ·rename_i e hu
   simp only [Option.bind_eq_some_iff] at hc
   obtain ⟨k,hk,hc⟩:=hc
   split at hc
   rotate_left
   ·cases hc
   rename_i hpos
   injection hc with hc
   subst hc
   exact (op_slice ht hH hop hx hlo hhi hmx (.inr ⟨_,hu,hk,hpos⟩) hn).ok hH hL
  ·cases hc
 ·
  split at hc
  rotate_left
  ·cases hc
  rename_i fields hu
  simp only [Option.bind_eq_some_iff] at hc
  obtain ⟨fd,hf,k,hk,hc⟩:=hc
  split at hc
  ·cases hc
  rename_i hk0
  simp only [Option.map_eq_some_iff] at hc
  obtain ⟨nx,hx,rfl⟩:=hc
  exact (op_faddr ht hop hu hf hk hk0 hx hn).ok hH hL
 ·
  split at hc
  rotate_left
  ·cases hc
  rename_i fields hu
  simp only [Option.bind_eq_some_iff,Option.map_eq_some_iff] at hc
  obtain ⟨fd,hf,sh,hsh,nx,hx,rfl⟩:=hc
  exact (op_field ht hop hu hf hsh hx hn).ok hH hL
 ·
  split at hc
  ·cases hc
  ·rename_i d hni hu
   simp only [Option.map_eq_some_iff] at hc
   obtain ⟨nx,hx,rfl⟩:=hc
   exact (op_mkif ht hop hu hni hx hn).ok hH hL
  ·cases hc
 ·
  split at hc
  ·cases hc
  rename_i ok hok
  split at hc
  ·cases hc
  ·rename_i d hni hu
   simp only [Option.bind_eq_some_iff,Option.map_eq_some_iff] at hc
   obtain ⟨z,hz,nx,hx,rfl⟩:=hc
   obtain rfl:ok=true:=by simpa using hok
   exact (op_assert ht hop hu hni hz hx hn).ok hH hL
  ·cases hc
 ·
  simp only [Option.bind_eq_some_iff] at hc
  obtain ⟨nx,hx,ni,hi,hc⟩:=hc
  split at hc
  ·rename_i e hu
   simp only [Option.map_eq_some_iff] at hc
   obtain ⟨k,hk,rfl⟩:=hc
   exact (op_iaddr ht hH hop hx hi hu hk hn).ok hH hL
  ·rename_i len e hu
   simp only [Option.map_eq_some_iff] at hc
   obtain ⟨k,hk,rfl⟩:=hc
   exact (op_iaddrA ht hop hx hi hu hk hn).ok hH hL
  ·cases hc
 ·
  simp only [Option.bind_eq_some_iff] at hc
  obtain ⟨nx,hx,ni,hi,hc⟩:=hc
  split at hc
  ·rename_i len e hu
   simp only [Option.bind_eq_some_iff,Option.map_eq_some_iff] at hc
   obtain ⟨b,hb,k,hk,rfl⟩:=hc
   exact (op_index ht hop hu hb hk hx hi hn).ok hH hL
  ·rename_i hu
   injection hc with hc
   subst hc
   exact (op_indexS ht hop hu hx hi hn).ok hH hL
  ·cases hc
 ·
  split at hc
  rotate_left
  ·cases hc
  rename_i kt e hu
  simp only [Option.bind_eq_some_iff,Option.map_eq_some_iff] at hc
  obtain ⟨qk,hk,z,hz,nx,hx,nk,hkx,rfl⟩:=hc
  exact (op_look ht hH hop hu hk hz hx hkx hn).ok hH hL
 ·
  split at hc
  rotate_left
  ·cases hc
  rename_i kt e hu
  simp only [Option.bind_eq_some_iff,Option.map_eq_some_iff] at hc
  obtain ⟨qk,hk,nx,hx,nk,hkx,ny,hy,rfl⟩:=hc
  exact op_mupd ht hH hL (.inl hop) hu hk hx hkx hy hn
 ·
  split at hc
  rotate_left
  ·cases hc
  rename_i kt e hu
  simp only [Option.bind_eq_some_iff,Option.map_eq_some_iff] at hc
  obtain ⟨qk,hk,z,hz,nx,hx,nk,hkx,rfl⟩:=hc
  exact op_ment ht hH hL hop hu hk hz hx hkx hn
 ·
  simp only [Option.bind_eq_some_iff,Option.map_eq_some_iff] at hc
  obtain ⟨nx,hx,ns,hst,ny,hy,rfl⟩:=hc
  exact op_mest ht hH hL hop hx hst hy hn
 ·
  split at hc
  ·rename_i hu
   simp only [Option.map_eq_some_iff] at hc
   obtain ⟨nx,hx,rfl⟩:=hc
   exact op_range ht hH hL hop hx (.inl ⟨rfl,hu⟩) hn
  ·rename_i k e hu
   simp only [Option.map_eq_some_iff] at hc
   obtain ⟨nx,hx,rfl⟩:=hc
   exact op_range ht hH hL hop hx (.inr ⟨rfl,_,_,hu⟩) hn
  ·cases hc
 ·
  simp only [Option.map_eq_some_iff] at hc
  obtain ⟨nx,hx,rfl⟩:=hc
  exact op_next ht hH hL hop hx (fun id mm since seen last wr es clock h1 h2 h3=>horc _ _ _ _ _ _ _ _ _ _ rfl h1 h2 h3) hn
 ·
  simp only [Option.map_eq_some_iff] at hc
  obtain ⟨nx,hx,rfl⟩:=hc
  exact op_entry ht hH hL hop hx hn
 ·simp only [Option.map_eq_some_iff] at hc
  obtain ⟨nx,hx,rfl⟩:=hc
  exact (op_ext ht hop hx hn).ok hH hL
 ·
  rename_i c
  cases hcal:c.callee with
  | builtin b=>exact op_builtin ht hH hL hop hcal hc hn
  | value x=>
   unfold compCall at hc
   rw [Option.bind_eq_some_iff] at hc
   obtain ⟨args,hx,hc⟩:=hc
   rw [hcal] at hc
   cases x with
   | func f=>simp only [Option.some.injEq] at hc;subst hc;simp [NO.still] at hs
   | tmp t=>simp only [Option.some.injEq] at hc;subst hc;simp [NO.still] at hs
   | _=>cases hc
  | invoke r f=>
   unfold compCall at hc
   rw [Option.bind_eq_some_iff] at hc
   obtain ⟨args,hx,hc⟩:=hc
   rw [hcal] at hc
   simp only [Option.map_eq_some_iff] at hc
   obtain ⟨nx,_,rfl⟩:=hc
   simp [NO.still] at hs
 ·cases hc
end
end
end Camp
