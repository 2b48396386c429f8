/- Loads, addresses in slices, slice expressions, lengths. Slice expressions, lengths, capacities. Keys of maps, look-ups, lengths. Lengths, conversions, structs built, closures made. Conversions, structs built, closures made. What keeps the heap's relation: new objects, objects turned. Operations that make memory. Operations that make memory: slices. Strings turned into slices; iterators; stores. -/
import Derived.Test.YtjcbeikfobfjmaaGreatEngA
import Derived.ChangeKeysEq
set_option linter.unnecessarySimpa false
set_option linter.unusedVariables false
set_option linter.unusedSimpArgs false
set_option linter.unusedSectionVars false
namespace Camp
open Go Go.RowKit
section
section
variable {P:Program} {E:Env} {G:Gh} {B:Nat} {m:Mu} {s:St} {a:Act} {w:World}
variable {call:CallF} {orc:Nat→Nat} {o:Oper} {q:Res}
def RowIn (E:Env) (G:Gh) (cs:Array Value) (p:Nat) (row:List CV):Prop:=∀ (j:Nat) (x:CV),row[j]? = some x→∃ v,cs[p+j]? = some v∧RC E G x v
theorem RowIn.list {cs:Array Value} {p:Nat} {row:List CV} (h:RowIn E G cs p row) (h0:row=[]→p≤cs.size):p+row.length≤cs.size∧RL E G row ((cs.toList.drop p).take row.length):=by
 have hsz:p+row.length≤cs.size:=by
  rcases Nat.eq_zero_or_pos row.length with h1|h1
  ·have:=h0 (List.eq_nil_of_length_eq_zero h1);omega
  ·obtain ⟨v,hv,_⟩:=h (row.length-1) _ (List.getElem?_eq_getElem (by omega))
   rcases Nat.lt_or_ge (p+(row.length-1)) cs.size with h2|h2
   ·omega
   ·simp [Array.getElem?_eq_none h2] at hv
 refine ⟨hsz,RL.mk (by simp;omega) (fun i c hc=>?_)⟩
 obtain ⟨v,hv,rv⟩:=h i c hc
 have hi:i<row.length:=by
  rcases Nat.lt_or_ge i row.length with h2|h2
  ·exact h2
  ·simp [List.getElem?_eq_none h2] at hc
 exact ⟨v,by rw [List.getElem?_take,if_pos hi,List.getElem?_drop];simpa using hv,rv⟩
theorem RowIn.drop {cs:Array Value} {p:Nat} {row:List CV} (h:RowIn E G cs p row) (k:Nat):RowIn E G cs (p+k) (row.drop k):=by
 intro j x hx
 rw [List.getElem?_drop] at hx
 have:=h (k+j) x hx
 rwa [←Nat.add_assoc] at this
theorem RowIn.take {cs:Array Value} {p:Nat} {row:List CV} (h:RowIn E G cs p row) (k:Nat):RowIn E G cs p (row.take k):=by
 intro j x hx
 rw [List.getElem?_take] at hx
 split at hx
 ·exact h j x hx
 ·simp at hx
theorem load_ok {t:TypeId} {sh:Option Nat} {b p j:Nat} {cs:Array Value} {el:TypeId} {fz:Nat × Nat} {row:List CV} {v:AV} (hs:shapeOf P t=some sh)
 (hb:w.heap[b]? = some (.cells cs el fz)) (hr:RowIn E G cs p row) (hp:p+row.length≤cs.size) (h:takeCells sh row j=some v) :
 ∃ u,(Instr.loadAt t (.pointer (some ⟨b,p+j,none⟩))).run P w = .ok u w∧RA E G v u:=by
 simp only [shapeOf,Option.bind_eq_some_iff,Option.map_eq_some_iff] at hs
 obtain ⟨bb,hbb,n,hn,rfl⟩:=hs
 unfold Instr.loadAt loadVar
 cases bb with
 | true=>
  simp only [takeCells,↓reduceIte] at h
  split at h <;> simp at h
  rename_i hle
  subst h
  have hl:=((hr.drop j).take n).list (fun _=>by omega)
  have hlen:((row.drop j).take n).length=n:=by simp;omega
  rw [hlen] at hl
  refine ⟨.agg ((cs.toList.drop (p+j)).take n).toArray,?_,?_⟩
  ·simp only [Instr.sureAddr,Sem.run_bind,Sem.run_pure,Result.andThen_ok,run_agg hbb,if_true,run_size hn]
   have:=run_loadCells P (w:=w) (b:=b) (o:=p+j) ((cs.toList.drop (p+j)).take n) (fun i u hu=>by
    rw [cell_eq hb]
    rw [List.getElem?_take] at hu
    split at hu
    ·rw [List.getElem?_drop] at hu;simpa using hu
    ·simp at hu)
   have hlen2:((cs.toList.drop (p+j)).take n).length=n:=by simp;omega
   rw [hlen2] at this
   rw [this]
   rfl
  ·simp only [RA]
   exact ⟨_,rfl,by simpa using hl.2⟩
 | false=>
  simp only [takeCells,Bool.false_eq_true,↓reduceIte,Option.map_eq_some_iff] at h
  obtain ⟨c,hc,rfl⟩:=h
  obtain ⟨u,hu,ru⟩:=hr j c hc
  refine ⟨u,?_,by simpa only [RA] using ru⟩
  simp only [Instr.sureAddr,Sem.run_bind,Sem.run_pure,Result.andThen_ok,run_agg hbb,Bool.false_eq_true,if_false,run_load,cell_eq hb,hu]
theorem row_at {id tok i:Nat} {row:List CV} {r:Rec} (hH:RH E G B s.hp.f w) (hr:row? s.hp id tok i=some row) (hg:G.rows id tok=some r) (h1:r.lo≤i) (h2:i<r.n) :
 ∃ cs el fz,w.heap[r.blk]? = some (.cells cs el fz)∧RowIn E G cs (r.pos i 0) row∧r.pos i 0+row.length≤cs.size∧row.length=r.sz:=by
 have fin:∀ (rr:Rec) (wr:Bool) (sz:Nat) (rs:List (List CV)),rr.blk=r.blk→rr.base=r.base→rr.lo=r.lo→rr.sz=r.sz→rr.lo≤i→i<rr.n→rs[i]? = some row→RowsAt E G B w wr sz rr rs→
  ∃ cs el fz,w.heap[r.blk]? = some (.cells cs el fz)∧RowIn E G cs (r.pos i 0) row∧r.pos i 0+row.length≤cs.size∧row.length=r.sz:=by
  intro rr wr sz rs q1 q2 q3 q4 h1 h2 hr hra
  have hpp:∀ j,r.pos i j=rr.pos i j:=fun j=>by simp only [Rec.pos,q2,q3,q4]
  rw [←q1,←q4]
  simp only [hpp]
  obtain ⟨cs,el,fz,hb,hsz,_,hcells⟩:=hra.cells
  have hw:=hra.width i row h1 h2 hr
  have hri:RowIn E G cs (rr.pos i 0) row:=fun j x hx=>by
   obtain ⟨v,hv,rv⟩:=hcells i row j x h1 h2 hr hx
   refine ⟨v,?_,rv⟩
   have:rr.pos i 0+j=rr.pos i j:=by simp [Rec.pos]
   rwa [this]
  refine ⟨cs,el,fz,hb,hri,?_,by rw [hw,hra.size]⟩
  refine Nat.le_trans ?_ hsz
  rw [hw]
  have hfit:=hra.fit
  have:(i-rr.lo+1) * sz≤rr.tot * sz:=Nat.mul_le_mul_right _ (by omega)
  simp only [Rec.pos,hra.size]
  rw [Nat.add_mul] at this
  omega
 unfold row? at hr
 split at hr
 ·rename_i wr sz cur lw rs hob
  split at hr
  rotate_left
  ·simp at hr
  rename_i hlw
  have ho:=hH.each id _ hob
  simp only [RO] at ho
  obtain ⟨_,_,_,hrows,_⟩:=ho
  exact fin r wr sz rs rfl rfl rfl rfl h1 h2 hr (hrows tok r hlw hg)
 ·rename_i sz vs hob
  split at hr
  rotate_left
  ·simp at hr
  rename_i rs hv
  have ho:=hH.each id _ hob
  simp only [RO] at ho
  obtain ⟨_,_,hra⟩:=ho.2.1 tok r rs hv hg
  have hi:i<rs.length:=by
   rcases Nat.lt_or_ge i rs.length with h|h
   ·exact h
   ·rw [List.getElem?_eq_none h] at hr;cases hr
  exact fin { r with n:=rs.length } true sz rs rfl rfl rfl rfl h1 hi hr hra
 ·simp at hr
theorem op_load (ht:RTm E G m s.tm a.tmps) (hH:RH E G B s.hp.f w) (hL:RLc E G B s.hp.f m s.lc w) {t:TypeId} {x:Operand} {nx:NX} {sh:Option Nat} (ho:o.op = .load t x)
 (hx:compX E.rn x=some nx) (hs:shapeOf P t=some sh) (hn:nop call orc s (.load sh nx)=some q):PureOk P E G m s a w o q:=by
 have r:=compX_rel ht hx
 simp only [nop,Option.map_eq_some_iff] at hn
 obtain ⟨v,hv,rfl⟩:=hn
 unfold loadAt at hv
 split at hv
 ·rename_i id tok i j e
  rw [e] at r
  simp only [RT,RA,RC] at r
  obtain ⟨rr,h1,h2,h3,h4⟩:=r
  simp only [Option.bind_eq_some_iff] at hv
  obtain ⟨row,hrow,htk⟩:=hv
  obtain ⟨cs,el,fz,hb,hri,hle,_⟩:=row_at hH hrow h1 h2 h3
  obtain ⟨u,hu,ru⟩:=load_ok (P:=P) (j:=j) hs hb hri hle htk
  have:rr.pos i 0+j=rr.pos i j:=by simp [Rec.pos]
  rw [this] at hu
  exact ⟨u,by simp [execOp,ho,h4,hu],rfl,rfl,by simpa only [RT] using ru⟩
 ·rename_i k j e
  rw [e] at r
  simp only [RT] at r
  obtain ⟨b,h1,h2⟩:=r
  simp only [Option.bind_eq_some_iff] at hv
  obtain ⟨row,hrow,htk⟩:=hv
  obtain ⟨b',vs,el,fz,hb1,hb2,hrl,_⟩:=hL.each k row hrow
  rw [h1] at hb1
  injection hb1 with hb1
  subst hb1
  have hri:RowIn E G vs 0 row:=fun j x hx=>by
   obtain ⟨u,hu,ru⟩:=hrl.get hx
   exact ⟨u,by simpa using hu,ru⟩
  have hlen:=hrl.length
  obtain ⟨u,hu,ru⟩:=load_ok (P:=P) (p:=0) (j:=j) hs hb2 hri (by simp at hlen;omega) htk
  rw [Nat.zero_add] at hu
  exact ⟨u,by simp [execOp,ho,h2,hu],rfl,rfl,by simpa only [RT] using ru⟩
 ·simp at hv
theorem op_iaddr (ht:RTm E G m s.tm a.tmps) (hH:RH E G B s.hp.f w) {t e:TypeId} {x i:Operand} {nx ni:NX} {n:Nat} (ho:o.op = .indexAddr t x i)
 (hx:compX E.rn x=some nx) (hi:compX E.rn i=some ni) (hu:P.underlying t=some (.slice e)) (hs:szOf P e=some n) (hn:nop call orc s (.iaddr n nx ni)=some q):PureOk P E G m s a w o q:=by
 have r:=compX_rel ht hx
 simp only [nop,Option.bind_eq_some_iff,Option.map_eq_some_iff] at hn
 obtain ⟨p,hp,tv,htv,rfl⟩:=hn
 have ri:=asI_rel hp (compX_rel ht hi)
 have key:∀ b off len c,a.eval x = .slice (some ⟨b,off,none⟩) len c→0≤p.2→p.2<len→(execOp a.eval o).run P w = .ok (.value (.pointer (some ⟨b,off+p.2.toNat * n,none⟩))) w:=by
  intro b off len c e1 e2 e3
  simp [execOp,ho,Instr.indexAt,ri,asIntOf,run_und hu,e1,e2,e3,run_size hs,addr_add]
 unfold iaddrV at htv
 split at htv
 ·rename_i id tok off len cap ev
  rw [ev] at r
  simp only [RT,RA,RC] at r
  obtain ⟨rr,oo,c,h1,h2,h3,h4,h5,h6,h7⟩:=r
  have fin:rr.sz=n→0≤p.2→p.2<len→tv = .v (.c (.ptr id tok (off+p.2.toNat) 0))→PureOk P E G m s a w o ⟨tv,s.lc,s.hp⟩:=by
   rintro hsz hc3 hc4 rfl
   have hoff:oo=⟨rr.blk,rr.pos off 0,none⟩:=by
    rcases h5 with h5|h5
    ·exact h5
    ·omega
   subst hoff
   refine ⟨_,key _ _ _ _ h4 hc3 hc4,rfl,rfl,?_⟩
   simp only [RT,RA,RC]
   refine ⟨rr,h1,by omega,by omega,?_⟩
   simp only [Rec.pos,hsz]
   congr 3
   rw [show off+p.2.toNat-rr.lo=(off-rr.lo)+p.2.toNat by omega,Nat.add_mul]
   omega
  split at htv
  ·rename_i wr sz' cur lw rs hob
   split at htv
   rotate_left
   ·simp at htv
   rename_i hc
   obtain ⟨hc1,hc2,hc3,hc4⟩:=hc
   injection htv with htv
   have hoo:=hH.each id _ hob
   simp only [RO] at hoo
   have hra:=hoo.2.2.2.1 tok rr hc2 h1
   exact fin (by rw [hra.size,hc1]) hc3 hc4 htv.symm
  ·rename_i sz' vs hob
   split at htv
   rotate_left
   ·simp at htv
   rename_i rs hv
   split at htv
   rotate_left
   ·simp at htv
   rename_i hc
   obtain ⟨hc1,hc3,hc4⟩:=hc
   injection htv with htv
   have hoo:=hH.each id _ hob
   simp only [RO] at hoo
   have hra:=(hoo.2.1 tok rr rs hv h1).2.2
   exact fin (by rw [show rr.sz=sz' from hra.size,hc1]) hc3 hc4 htv.symm
  ·simp at htv
 ·rename_i k nn ev
  rw [ev] at r
  simp only [RT] at r
  obtain ⟨b,h1,h2⟩:=r
  split at htv
  rotate_left
  ·simp at htv
  rename_i hc
  injection htv with htv
  subst htv
  refine ⟨_,key _ _ _ _ h2 hc.1 hc.2,rfl,rfl,?_⟩
  simp only [RT]
  exact ⟨b,h1,by rw [Nat.zero_add]⟩
 ·simp at htv
theorem op_iaddrA (ht:RTm E G m s.tm a.tmps) {t e:TypeId} {len:Nat} {x i:Operand} {nx ni:NX} {n:Nat} (ho:o.op = .indexAddr t x i)
 (hx:compX E.rn x=some nx) (hi:compX E.rn i=some ni) (hu:P.underlying t=some (.array len e)) (hs:szOf P e=some n) (hn:nop call orc s (.iaddrA len n nx ni)=some q):PureOk P E G m s a w o q:=by
 have r:=compX_rel ht hx
 simp only [nop,Option.bind_eq_some_iff,Option.map_eq_some_iff] at hn
 obtain ⟨p,hp,tv,htv,rfl⟩:=hn
 have ri:=asI_rel hp (compX_rel ht hi)
 unfold iaddrAV at htv
 split at htv
 rotate_left
 ·simp at htv
 rename_i hc
 have key:∀ b off,a.eval x = .pointer (some ⟨b,off,none⟩)→(execOp a.eval o).run P w = .ok (.value (.pointer (some ⟨b,off+p.2.toNat * n,none⟩))) w:=by
  intro b off e1
  simp [execOp,ho,Instr.indexAt,ri,asIntOf,run_und hu,e1,hc,run_size hs,addr_add,Instr.sureAddr]
 split at htv
 ·rename_i id tok rw' j ev
  rw [ev] at r
  injection htv with htv
  subst htv
  simp only [RT,RA,RC] at r
  obtain ⟨rr,h1,h2,h3,h4⟩:=r
  refine ⟨_,key _ _ h4,rfl,rfl,?_⟩
  simp only [RT,RA,RC]
  refine ⟨rr,h1,h2,h3,?_⟩
  simp only [Rec.pos]
  rw [Nat.add_assoc]
 ·rename_i k j ev
  rw [ev] at r
  injection htv with htv
  subst htv
  simp only [RT] at r
  obtain ⟨b,h1,h2⟩:=r
  refine ⟨_,key _ _ h2,rfl,rfl,?_⟩
  simp only [RT]
  exact ⟨b,h1,rfl⟩
 ·simp at htv
end
end
section
section
variable {P:Program} {E:Env} {G:Gh} {B:Nat} {m:Mu} {s:St} {a:Act} {w:World}
variable {call:CallF} {orc:Nat→Nat} {o:Oper} {q:Res}
theorem optI_rel (ht:RTm E G m s.tm a.tmps) {x:Option Operand} {nx:Option NX} {r:Option Int} (hx:compO E.rn x=some nx) (h:optI s.tm nx=some r) :
 match r with
 | none=>x.map a.eval=none
 | some n=>∃ k,x.map a.eval=some (.int k n):=by
 cases x with
 | none=>
  simp [compO] at hx
  subst hx
  simp [optI] at h
  subst h
  rfl
 | some x=>
  simp only [compO,Option.map_eq_some_iff] at hx
  obtain ⟨y,hy,rfl⟩:=hx
  simp only [optI,Option.map_eq_some_iff] at h
  obtain ⟨p,hp,rfl⟩:=h
  exact ⟨p.1,by simp [asI_rel hp (compX_rel ht hy)]⟩
theorem run_bound {k:IntKind} {n:Int} {y:Nat} {c:BoundsCode} (h0:0≤n) (h1:n≤y):(Instr.sliceBound (.int k n) y c).run P w = .ok n.toNat w:=by
 simp [Instr.sliceBound,asIntOf,h0,h1]
def bnd (x:Option Value) (r:Option Int):Prop:=match r with|none=>x=none|some n=>∃ k,x=some (.int k n)
theorem run_bounds {isS:Bool} {len cap:Nat} {lo hi mx:Option Value} {l h mm:Option Int} (rl:bnd lo l) (rh:bnd hi h) (rm:bnd mx mm)
 (hm:mm.isSome→h.isSome) (h1:0≤mm.getD cap) (h2:mm.getD cap≤cap) (h3:0≤h.getD len) (h4:h.getD len≤mm.getD cap) (h5:0≤l.getD 0) (h6:l.getD 0≤h.getD len) :
 (Instr.sliceBounds isS len cap lo hi mx).run P w = .ok ((l.getD 0).toNat,(h.getD len).toNat,(mm.getD cap).toNat) w:=by
 cases mm with
 | none=>
  simp only [bnd] at rm
  subst rm
  cases h with
  | none=>
   simp only [bnd] at rh
   subst rh
   cases l with
   | none=>simp only [bnd] at rl;subst rl;simp [Instr.sliceBounds]
   | some n=>
    obtain ⟨k,rfl⟩:=rl
    simp only [Option.getD] at *
    simp [Instr.sliceBounds,run_bound h5 h6]
  | some g=>
   obtain ⟨kg,rfl⟩:=rh
   simp only [Option.getD] at *
   have hg:((g.toNat:Nat):Int)=g:=by omega
   cases l with
   | none=>simp only [bnd] at rl;subst rl;simp [Instr.sliceBounds,run_bound h3 h4]
   | some n=>
    obtain ⟨k,rfl⟩:=rl
    simp only at *
    simp [Instr.sliceBounds,run_bound h3 h4,run_bound (y:=g.toNat) h5 (by omega)]
 | some z=>
  obtain ⟨kz,rfl⟩:=rm
  cases h with
  | none=>simp at hm
  | some g=>
   obtain ⟨kg,rfl⟩:=rh
   simp only [Option.getD] at *
   cases l with
   | none=>simp only [bnd] at rl;subst rl;simp [Instr.sliceBounds,run_bound h1 h2,run_bound (y:=z.toNat) h3 (by omega)]
   | some n=>
    obtain ⟨k,rfl⟩:=rl
    simp only at *
    simp [Instr.sliceBounds,run_bound h1 h2,run_bound (y:=z.toNat) h3 (by omega),run_bound (y:=g.toNat) h5 (by omega)]
theorem op_slice (ht:RTm E G m s.tm a.tmps) (hH:RH E G B s.hp.f w) {t:TypeId} {x:Operand} {lo hi mx:Option Operand} {nx:NX} {nlo nhi nmx:Option NX} {n:Nat}
 (ho:o.op = .slice t x lo hi mx) (hx:compX E.rn x=some nx) (hlo:compO E.rn lo=some nlo) (hhi:compO E.rn hi=some nhi) (hmx:compO E.rn mx=some nmx)
 (hd:(P.underlying t=some .string∧n=0)∨∃ e,P.underlying t=some (.slice e)∧szOf P e=some n∧0<n) (hn:nop call orc s (.slice n nx nlo nhi nmx)=some q):PureOk P E G m s a w o q:=by
 have r:=compX_rel ht hx
 simp only [nop,Option.bind_eq_some_iff,Option.map_eq_some_iff] at hn
 obtain ⟨l,hl,h,hh,mm,hm,cv,hcv,rfl⟩:=hn
 have bl:bnd (lo.map a.eval) l:=by have:=optI_rel ht hlo hl;cases l <;> exact this
 have bh:bnd (hi.map a.eval) h:=by have:=optI_rel ht hhi hh;cases h <;> exact this
 have bm:bnd (mx.map a.eval) mm:=by have:=optI_rel ht hmx hm;cases mm <;> exact this
 have hrun:∀ v,(Instr.slice t (a.eval x) (lo.map a.eval) (hi.map a.eval) (mx.map a.eval)).run P w = .ok v w→(execOp a.eval o).run P w = .ok (.value v) w:=by
  intro v hv
  rcases hd with ⟨hu,_⟩|⟨e,hu,_⟩ <;> simp [execOp,ho,Instr.sliceAt,run_und hu,hv]
 unfold sliceV at hcv
 split at hcv
 ·rename_i ev
  rw [ev] at r
  simp only [RT,RA,RC] at r
  split at hcv
  rotate_left
  ·simp at hcv
  rename_i hz
  injection hcv with hcv
  subst hcv
  obtain ⟨hpos,hz0,hl0,hh0,hm0⟩:=hz
  refine ⟨.slice none 0 0,hrun _ ?_,rfl,rfl,by simp only [RT,RA,RC]⟩
  rcases hd with ⟨hu,h0⟩|⟨e,hu,hs,_⟩
  ·omega
  ·have hb:=run_bounds (P:=P) (w:=w) (isS:=true) (len:=0) (cap:=0) bl bh bm hz0 (by simp [hm0]) (by simp [hm0]) (by simp [hh0]) (by simp [hh0,hm0]) (by simp [hl0]) (by simp [hh0,hl0])
   have e1:h.getD ((0:Nat):Int)=0:=by simpa using hh0
   have e2:mm.getD ((0:Nat):Int)=0:=by simpa using hm0
   rw [e1,e2,hl0] at hb
   simp [Instr.slice,run_und hu,r,hb,run_size hs]
 ·rename_i id tok off len cap ev
  rw [ev] at r
  simp only [RT,RA,RC] at r
  obtain ⟨rr,oo,c,h1,h2,h3,h4,h5,h6,h7⟩:=r
  split at hcv
  rotate_left
  ·simp at hcv
  rename_i wr sz' cur lw rs hob
  split at hcv
  rotate_left
  ·simp at hcv
  rename_i hc
  obtain ⟨hpos,hsz,hlw⟩:=hc
  simp only [Option.map_eq_some_iff] at hcv
  obtain ⟨tr,hsb,rfl⟩:=hcv
  have hoo:=hH.each id _ hob
  simp only [RO] at hoo
  have hra:=hoo.2.2.2.1 tok rr hlw h1
  by_cases hB:sliceB len cap l h mm=none
  ·
   rw [hB,Option.none_or] at hsb
   unfold sliceM at hsb
   generalize hbn:(if tok=cur then rs.length-off else 0)=bn at hsb
   split at hsb
   rotate_left
   ·cases hsb
   rename_i hcond
   obtain ⟨rfl,rfl,k5,k6,k4⟩:=hcond
   injection hsb with hsb
   obtain ⟨l1,h1',nc⟩:=tr
   simp only [Prod.mk.injEq] at hsb
   obtain ⟨e1,e2,e3⟩:=hsb
   subst e3
   rcases hd with ⟨hu,h0⟩|⟨e,hu,hs,_⟩
   ·omega
   have hft:=hra.fit
   have hlo:=hra.lo
   simp only at h7
   have hbd:off+h1'≤rr.n∧h.getD (len:Int)≤c:=by
    by_cases htc:tok=cur
    ·subst htc
     rw [if_pos rfl] at hbn
     obtain ⟨rc,q1,q2⟩:=hoo.2.1
     rw [h1] at q1;injection q1 with q1;subst q1
     omega
    ·rw [if_neg htc] at hbn
     omega
   have hb:=run_bounds (P:=P) (w:=w) (isS:=true) (len:=len) (cap:=c) bl bh bm (by simp) (by simp) (by simp) (by omega) (by simpa using hbd.2) k5 k6
   simp only [Option.getD_none,Int.toNat_natCast] at hb
   rw [e1,e2] at hb
   have hlh:l1≤h1':=by omega
   have hhm:h1'≤c:=by omega
   have hfin:∀ oo':Addr,(oo'=⟨rr.blk,rr.pos (off+l1) 0,none⟩∨c-l1=0)→RT E G m (.v (.c (.sl id tok (off+l1) (h1'-l1) none))) (.slice (some oo') (h1'-l1) (c-l1)):=by
    intro oo' ho'
    simp only [RT,RA,RC]
    exact ⟨rr,oo',c-l1,h1,by omega,by omega,rfl,ho',by omega,by omega⟩
   by_cases he:c=l1
   ·refine ⟨.slice (some oo) (h1'-l1) (c-l1),hrun _ ?_,rfl,rfl,hfin oo (.inr (by omega))⟩
    simp only [Instr.slice,Sem.run_bind,run_und hu,Result.andThen_ok,h4,hb,run_size hs,Sem.run_pure]
    simp [he]
   ·have h5:oo=⟨rr.blk,rr.pos off 0,none⟩:=h5.resolve_right (by omega)
    subst h5
    refine ⟨.slice (some ⟨rr.blk,rr.pos off 0+l1 * n,none⟩) (h1'-l1) (c-l1),hrun _ ?_,rfl,rfl,hfin _ ?_⟩
    ·simp only [Instr.slice,Sem.run_bind,run_und hu,Result.andThen_ok,h4,hb,run_size hs,Sem.run_pure]
     simp [he,addr_add]
    ·left
     simp only [Rec.pos,hra.size,hsz]
     rw [show off+l1-rr.lo=(off-rr.lo)+l1 by omega,Nat.add_mul]
     congr 1
     omega
  replace hsb:sliceB len cap l h mm=some tr:=by
   cases hB2:sliceB len cap l h mm with
   | none=>exact absurd hB2 hB
   | some z=>rw [hB2,Option.some_or] at hsb;exact hsb
  unfold sliceB at hsb
  split at hsb
  rotate_left
  ·simp at hsb
  rename_i hcond
  obtain ⟨k0,k1,k2,k3,k4,k5,k6⟩:=hcond
  injection hsb with hsb
  obtain ⟨l1,h1',nc⟩:=tr
  simp only [Prod.mk.injEq] at hsb
  obtain ⟨e1,e2,e3⟩:=hsb
  rcases hd with ⟨hu,h0⟩|⟨e,hu,hs,_⟩
  ·omega
  have hq:cap.getD len≤c:=by
   cases cap with
   | none=>simpa using h6
   | some q=>simp only at h7;simp;omega
  have hmm:mm.getD (c:Int)≤c∧h.getD (len:Int)≤mm.getD (c:Int)∧0≤mm.getD (c:Int):=by
   cases mm with
   | none=>simp only [Option.getD_none] at *;omega
   | some z=>simp only [Option.getD_some] at *;omega
  have hb:=run_bounds (P:=P) (w:=w) (isS:=true) (len:=len) (cap:=c) bl bh bm k0 hmm.2.2 hmm.1 k3 hmm.2.1 k5 k6
  generalize hm':(mm.getD (c:Int)).toNat=m1 at *
  rw [e1,e2] at hb
  have hlh:l1≤h1':=by omega
  have hmc:m1≤c:=by omega
  have hhm:h1'≤m1:=by omega
  have hfin:∀ oo':Addr,(oo'=⟨rr.blk,rr.pos (off+l1) 0,none⟩∨m1-l1=0)→RT E G m (.v (.c (.sl id tok (off+l1) (h1'-l1) nc))) (.slice (some oo') (h1'-l1) (m1-l1)):=by
   intro oo' ho'
   simp only [RT,RA,RC]
   refine ⟨rr,oo',m1-l1,h1,by omega,?_,rfl,ho',by omega,?_⟩
   ·have:h1'≤cap.getD len:=by omega
    cases cap with
    | none=>simp at this;omega
    | some q=>simp at this h7;omega
   ·rw [←e3]
    cases mm with
    | some z=>
     simp only [Option.getD_some] at hm' k2
     simp only
     refine ⟨by omega,?_⟩
     cases cap with
     | none=>simp at k2;omega
     | some q=>simp at k2 h7;omega
    | none=>
     simp only [Option.getD_none] at hm'
     simp only
     have hmc':m1=c:=by omega
     cases cap with
     | none=>simp only [Option.map_none] at *;omega
     | some q=>simp only [Option.map_some] at *;omega
  by_cases he:m1=l1
  ·refine ⟨.slice (some oo) (h1'-l1) (m1-l1),hrun _ ?_,rfl,rfl,hfin oo (.inr (by omega))⟩
   simp only [Instr.slice,Sem.run_bind,run_und hu,Result.andThen_ok,h4,hb,run_size hs,Sem.run_pure]
   simp [he]
  ·have h5:oo=⟨rr.blk,rr.pos off 0,none⟩:=h5.resolve_right (by omega)
   subst h5
   refine ⟨.slice (some ⟨rr.blk,rr.pos off 0+l1 * n,none⟩) (h1'-l1) (m1-l1),hrun _ ?_,rfl,rfl,hfin _ ?_⟩
   ·simp only [Instr.slice,Sem.run_bind,run_und hu,Result.andThen_ok,h4,hb,run_size hs,Sem.run_pure]
    simp [he,addr_add]
   ·left
    simp only [Rec.pos,hra.size,hsz]
    rw [show off+l1-rr.lo=(off-rr.lo)+l1 by omega,Nat.add_mul]
    congr 1
    omega
 ·rename_i bs ev
  rw [ev] at r
  simp only [RT,RA,RC] at r
  split at hcv
  rotate_left
  ·simp at hcv
  rename_i hz
  obtain ⟨hz0,rfl⟩:=hz
  rcases hd with ⟨hu,h0⟩|⟨e,hu,hs,hp⟩
  rotate_left
  ·omega
  simp only [Option.map_eq_some_iff] at hcv
  obtain ⟨tr,hsb,rfl⟩:=hcv
  unfold sliceB at hsb
  split at hsb
  rotate_left
  ·simp at hsb
  rename_i hcond
  obtain ⟨k0,k1,k2,k3,k4,k5,k6⟩:=hcond
  injection hsb with hsb
  subst hsb
  have hb:=run_bounds (P:=P) (w:=w) (isS:=false) (len:=bs.size) (cap:=bs.size) bl bh (mx:=none) (mm:=none) (by simp [bnd]) (by simp) (by simp) (by simp) k3 (by simpa using k4) k5 k6
  have hmx0:mx.map a.eval=none:=bm
  refine ⟨.string (bs.extract (l.getD 0).toNat (h.getD bs.size).toNat),hrun _ ?_,rfl,rfl,by simp only [RT,RA,RC]⟩
  simp [Instr.slice,run_und hu,r,hmx0,hb]
 ·simp at hcv
theorem argTy {c:Call} (i:Nat) (h:i<c.argTypes.size):c.argTypes[i]? = some (c.argTypes.getD i 0):=by
 rw [Array.getElem?_eq_getElem h]
 simp [Array.getD,h]
theorem op_cap (ht:RTm E G m s.tm a.tmps) {c:Call} {x:Operand} {nx:NX} {e:TypeId} (ho:o.op = .call c) (hc:c.callee = .builtin .cap) (hargs:c.args.toList=[x]) (hx:compX E.rn x=some nx)
 (hu:P.underlying (c.argTypes.getD 0 0)=some (.slice e)) (h1:c.argTypes.size=1) (hn:nop call orc s (.cap nx)=some q):PureOk P E G m s a w o q:=by
 have r:=compX_rel ht hx
 simp only [nop,Option.map_eq_some_iff] at hn
 obtain ⟨n,hn,rfl⟩:=hn
 have harg:(c.args.map a.eval)[0]? = some (a.eval x):=by
  rw [←Array.getElem?_toList,Array.toList_map,hargs];rfl
 have hty:=argTy (c:=c) 0 (by omega)
 generalize c.argTypes.getD 0 0=t0 at hu hty
 have hrun:∀ p l k,a.eval x = .slice p l k→(execOp a.eval o).run P w = .ok (.value (.int .i64 k)) w:=by
  intro p l k he
  refine run_builtin ho hc fun _=>?_
  simp [builtin,Builtin.cap_,harg,hty,run_und hu,he,goInt]
 unfold capV at hn
 split at hn
 ·rename_i ev
  rw [ev] at r
  simp only [RT,RA,RC] at r
  injection hn with hn
  subst hn
  exact ⟨_,hrun _ _ _ r,rfl,rfl,by simp [RT,RA,RC]⟩
 ·rename_i ev
  rw [ev] at r
  simp only [RT,RA,RC] at r
  obtain ⟨rr,oo,c',g1,g2,g3,g4,g5,g6,g7⟩:=r
  injection hn with hn
  subst hn
  exact ⟨_,hrun _ _ _ g4,rfl,rfl,by simp [RT,RA,RC,g7.1]⟩
 ·rename_i ev
  rw [ev] at r
  simp only [RT] at r
  obtain ⟨b,g1,g2⟩:=r
  injection hn with hn
  subst hn
  exact ⟨_,hrun _ _ _ g2,rfl,rfl,by simp [RT,RA,RC]⟩
 ·simp at hn
end
end
section
section
variable {P:Program} {E:Env} {G:Gh} {B:Nat} {m:Mu} {s:St} {a:Act} {w:World}
variable {call:CallF} {orc:Nat→Nat} {o:Oper} {q:Res}
theorem bytes_beq (a b:ByteArray):(a.toList == b.toList)=(a == b):=(Go.beq_toListBytes a b).symm
theorem REnts.get {ms:List ME} {es:List MapEntry} (h:REnts E G ms es):∀ {i:Nat} {x:ME},ms[i]? = some x→∃ e,es[i]? = some e∧REnt E G x e:=by
 induction ms generalizing es with
 | nil=>intro i x hx;simp at hx
 | cons y ms ih=>
  intro i x hx
  simp only [REnts] at h
  obtain ⟨e,rest,rfl,h1,h2⟩:=h
  cases i with
  | zero=>simp at hx;subst hx;exact ⟨e,rfl,h1⟩
  | succ i=>simpa using ih h2 (by simpa using hx)
theorem REnts.length {ms:List ME} {es:List MapEntry} (h:REnts E G ms es):es.length=ms.length:=by
 induction ms generalizing es with
 | nil=>simp only [REnts] at h;subst h;rfl
 | cons y ms ih=>
  simp only [REnts] at h
  obtain ⟨e,rest,rfl,h1,h2⟩:=h
  simp [ih h2]
theorem equal_ints {e:TypeId} {k:IntKind} (hu:P.underlying e=some (.int k)) (x y:Int) (d:Nat) (w:World) :
 (Op.equalIn (d+1) e (.int k x) (.int k y)).run P w = .ok (x == y) w:=by
 rw [Op.equalIn]
 simp [run_und hu]
theorem part_int {e:TypeId} {k:IntKind} (hu:P.underlying e=some (.int k)) {xs:Array Value} {j:Nat} {v:Value} (h:xs[j]? = some v) (w:World):(part e xs j).run P w = .ok v w:=by
 have hb:aggOf P e=some false:=by simp [aggOf,hu]
 simp [part,run_agg hb,h]
theorem eqItems_ok {e:TypeId} {k:IntKind} (hu:P.underlying e=some (.int k)) (hs:P.cellsOf e=1) {xs ys:Array Value} (d:Nat):∀ (as bs:List CV) (n j:Nat) (r:Bool),
 RL E G as (xs.toList.drop j)→RL E G bs (ys.toList.drop j)→as.all (isInt k)=true→as.length=n→keqL as bs=some r→
 (Op.eqItems (d+1) e (P.cellsOf e) xs ys (List.range' j n)).run P w = .ok r w:=by
 intro as
 induction as with
 | nil=>
  intro bs n j r ha hb _ hn hk
  cases bs with
  | nil=>simp [keqL] at hk;subst hk;simp at hn;subst hn;simp [Op.eqItems]
  | cons b bs=>simp [keqL] at hk
 | cons x as ih=>
  intro bs n j r ha hb hi hn hk
  cases bs with
  | nil=>simp [keqL] at hk
  | cons y bs=>
   simp only [keqL,Option.bind_eq_some_iff] at hk
   obtain ⟨r0,hr0,hk⟩:=hk
   simp only [RL] at ha hb
   obtain ⟨u,us,hu1,hru,hau⟩:=ha
   obtain ⟨v,vs,hv1,hrv,hbv⟩:=hb
   simp only [List.all_cons,Bool.and_eq_true] at hi
   obtain ⟨hi1,hi⟩:=hi
   cases x <;> simp [isInt] at hi1
   rename_i k1 n1
   subst hi1
   cases y <;> simp [keqC] at hr0
   rename_i k2 n2
   obtain ⟨rfl,rfl⟩:=hr0
   simp only [RC] at hru hrv
   subst hru hrv
   have gx:xs[j]? = some (.int k1 n1):=by
    have:=congrArg (·[0]?) hu1
    simpa using this
   have gy:ys[j]? = some (.int k1 n2):=by
    have:=congrArg (·[0]?) hv1
    simpa using this
   have dx:xs.toList.drop (j+1)=us:=by
    have:=congrArg List.tail hu1
    simpa using this
   have dy:ys.toList.drop (j+1)=vs:=by
    have:=congrArg List.tail hv1
    simpa using this
   simp only [List.length_cons] at hn
   subst hn
   simp only [List.range'_succ,Op.eqItems,hs,Nat.mul_one,Sem.run_bind,part_int hu gx,part_int hu gy,Result.andThen_ok,equal_ints hu]
   cases hr:(n1 == n2) with
   | false=>simp only [hr] at hk;simp at hk;subst hk;simp
   | true=>
    simp only [hr,if_true] at hk
    simp only [Bool.not_true,Bool.false_eq_true,if_false]
    have:=ih bs as.length (j+1) r (by rw [dx];exact hau) (by rw [dy];exact hbv) hi rfl hk
    rwa [hs] at this
theorem keyEq_ok {t:TypeId} {kt:KT} {x y:AV} {u v:Value} {r:Bool} (hk:keyOf? P t=some kt) (hx:okKey kt x=true) (h:keq x y=some r) (rx:RA E G x u) (ry:RA E G y v) :
 (∀ d,P.underlying t=some d→Instr.sameNow d u v=some r)∨(∃ n e,P.underlying t=some (.array n e)∧(∃ us,u = .agg us)∧(Op.equal t u v).run P w = .ok r w):=by
 unfold keyOf? at hk
 split at hk
 ·rename_i k hu
  injection hk with hk
  subst hk
  cases x with
  | c x=>
   cases x <;> simp [okKey] at hx
   subst hx
   cases y with
   | c y=>
    cases y <;> simp [keq,keqC] at h
    obtain ⟨rfl,rfl⟩:=h
    simp only [RA,RC] at rx ry
    subst rx ry
    left
    intro d hd
    rw [hu] at hd
    injection hd with hd
    subst hd
    simp [Instr.sameNow]
   | agg _=>simp [keq] at h
   | tup _=>simp [keq] at h
  | agg _=>simp [okKey] at hx
  | tup _=>simp [okKey] at hx
 ·rename_i hu
  injection hk with hk
  subst hk
  cases x with
  | c x=>
   cases x <;> simp [okKey] at hx
   cases y with
   | c y=>
    cases y <;> simp [keq,keqC] at h
    subst h
    simp only [RA,RC] at rx ry
    subst rx ry
    left
    intro d hd
    rw [hu] at hd
    injection hd with hd
    subst hd
    simp [Instr.sameNow]
   | agg _=>simp [keq] at h
   | tup _=>simp [keq] at h
  | agg _=>simp [okKey] at hx
  | tup _=>simp [okKey] at hx
 ·rename_i hu
  injection hk with hk
  subst hk
  cases x with
  | c x=>
   cases x <;> simp [okKey] at hx
   cases y with
   | c y=>
    cases y <;> simp [keq,keqC] at h
    subst h
    simp only [RA,RC] at rx ry
    subst rx ry
    left
    intro d hd
    rw [hu] at hd
    injection hd with hd
    subst hd
    simp [Instr.sameNow]
   | agg _=>simp [keq] at h
   | tup _=>simp [keq] at h
  | agg _=>simp [okKey] at hx
  | tup _=>simp [okKey] at hx
 ·rename_i n e hu
  split at hk
  rotate_left
  ·simp at hk
  rename_i k hue hse
  injection hk with hk
  subst hk
  cases x with
  | agg cs=>
   simp only [okKey,Bool.and_eq_true,beq_iff_eq] at hx
   cases y with
   | agg ds=>
    simp only [keq] at h
    simp only [RA] at rx ry
    obtain ⟨us,rfl,hus⟩:=rx
    obtain ⟨vs,rfl,hvs⟩:=ry
    right
    refine ⟨n,e,hu,⟨us,rfl⟩,?_⟩
    simp only [szOf,Option.map_eq_some_iff] at hse
    obtain ⟨i,hi,hsz⟩:=hse
    have hcell:P.cellsOf e=1:=by simp [Program.cellsOf,hi,hsz]
    rw [eq_step,Go.run_equalIn_array w 9999 us vs hu hi]
    have:=eqItems_ok (P:=P) (E:=E) (G:=G) (w:=w) hue hcell (xs:=us) (ys:=vs) 9998 cs ds n 0 r (by simpa using hus) (by simpa using hvs) hx.2 hx.1 h
    rw [List.range_eq_range']
    exact this
   | c _=>simp [keq] at h
   | tup _=>simp [keq] at h
  | c _=>simp [okKey] at hx
  | tup _=>simp [okKey] at hx
 ·simp at hk
theorem run_zero {t:TypeId} {z:AV} (h:zeroOf P t=some z) (w:World):∃ v,(zeroValue t).run P w = .ok v w∧(∀ E G,RA E G z v)∧(∀ l,z≠.tup l)∧szOf P t=some z.cells.length:=by
 unfold zeroOf at h
 split at h
 rotate_left
 ·simp at h
 rename_i i hi
 split at h
 rotate_left
 ·simp at h
 rename_i zv hz
 simp only [Option.bind_eq_some_iff] at h
 obtain ⟨x,hx,h⟩:=h
 split at h <;> simp at h
 rename_i hc
 subst h
 exact ⟨zv,by simp [zeroValue,typeInfo,hi,hz],fun E G=>ofV_rel hx,ofV_notup hx,by simp [szOf,hi,hc]⟩
def FoundOk (E:Env) (G:Gh) (rv:Option (Nat × Value)):Option (Nat × AV)→Prop
 | none=>rv=none
 | some (j,v)=>∃ uv,rv=some (j,uv)∧RA E G v uv
theorem findKey_ok {t:TypeId} {kt:KT} {x:AV} {u:Value} (hk:keyOf? P t=some kt) (hx:okKey kt x=true) (rx:RA E G x u):∀ (ms:List ME) (es:List MapEntry) (i:Nat) (r:Option (Nat × AV)),
 REnts E G ms es→findKey x ms i=some r→
 ∃ rv:Option (Nat × Value),((∀ d,P.underlying t=some d→Instr.findNow d u es i=some rv)∨((∃ n e,P.underlying t=some (.array n e)∧∃ us,u = .agg us)∧(Instr.findAsking t u es i).run P w = .ok rv w))∧
  FoundOk E G rv r:=by
 intro ms
 induction ms with
 | nil=>
  intro es i r he h
  simp only [REnts] at he
  subst he
  simp [findKey] at h
  subst h
  exact ⟨none,.inl (fun d _=>rfl),rfl⟩
 | cons y ms ih=>
  intro es i r he h
  simp only [REnts] at he
  obtain ⟨e,rest,rfl,h1,h2⟩:=he
  simp only [findKey] at h
  split at h
  ·rename_i hq
   injection h with h
   subst h
   refine ⟨some (i,e.val),?_,_,rfl,h1.2.1⟩
   rcases keyEq_ok (w:=w) hk hx hq rx h1.1 with hn|⟨n,el,hu,hus,heq⟩
   ·left
    intro d hd
    simp [Instr.findNow,hn d hd]
   ·right
    exact ⟨⟨n,el,hu,hus⟩,by simp [Instr.findAsking,heq]⟩
  ·rename_i hq
   obtain ⟨rv,hrv,hres⟩:=ih rest (i+1) r h2 h
   refine ⟨rv,?_,hres⟩
   rcases keyEq_ok (w:=w) hk hx hq rx h1.1 with hn|⟨n,el,hu,hus,heq⟩
   ·rcases hrv with hrv|⟨⟨n,el,hu,us,rfl⟩,hrv⟩
    ·left
     intro d hd
     simp [Instr.findNow,hn d hd,hrv d hd]
    ·exfalso
     have:=hn _ hu
     simp [Instr.sameNow] at this
   ·right
    refine ⟨⟨n,el,hu,hus⟩,?_⟩
    rcases hrv with hrv|⟨_,hrv⟩
    ·cases rest with
     | nil=>
      have:=hrv _ hu
      simp [Instr.findNow] at this
      subst this
      simp [Instr.findAsking,heq]
     | cons e2 rest2=>
      obtain ⟨us,rfl⟩:=hus
      have:=hrv _ hu
      simp [Instr.findNow,Instr.sameNow] at this
    ·simp [Instr.findAsking,heq,hrv]
  ·simp at h
theorem run_findKey {t:TypeId} {kt:KT} {x:AV} {u:Value} {ms:List ME} {es:List MapEntry} {r:Option (Nat × AV)} (hk:keyOf? P t=some kt) (hx:okKey kt x=true) (rx:RA E G x u)
 (he:REnts E G ms es) (h:findKey x ms 0=some r):∃ rv:Option (Nat × Value),(Instr.findKey t u es).run P w = .ok rv w∧FoundOk E G rv r:=by
 obtain ⟨rv,hrv,hres⟩:=findKey_ok (w:=w) hk hx rx ms es 0 r he h
 refine ⟨rv,?_,hres⟩
 have hd:∃ d,P.underlying t=some d:=by
  unfold keyOf? at hk
  split at hk <;> simp_all
 obtain ⟨d,hd⟩:=hd
 rcases hrv with hrv|⟨⟨n,el,hu,us,rfl⟩,hrv⟩
 ·simp [Instr.findKey,run_und hd,hrv d hd]
 ·cases es with
  | nil=>
   simp [Instr.findAsking] at hrv
   subst hrv
   simp [Instr.findKey,run_und hu,Instr.findNow]
  | cons e2 rest=>simp [Instr.findKey,run_und hu,Instr.findNow,Instr.sameNow,hrv]
theorem run_checkKey {t:TypeId} {kt:KT} {x:AV} {u:Value} {em:Bool} (hk:keyOf? P t=some kt) (hx:okKey kt x=true) (rx:RA E G x u):(Instr.checkKey em 10000 t u).run P w = .ok () w:=by
 rw [show (10000:Nat)=9999+1 from rfl,Instr.checkKey]
 unfold keyOf? at hk
 split at hk
 ·rename_i k hu
  simp only [Sem.run_bind,run_und hu,Result.andThen_ok]
  rfl
 ·rename_i hu
  simp only [Sem.run_bind,run_und hu,Result.andThen_ok]
  rfl
 ·rename_i hu
  simp only [Sem.run_bind,run_und hu,Result.andThen_ok]
  rfl
 ·rename_i n e hu
  split at hk
  rotate_left
  ·simp at hk
  rename_i k hue hse
  injection hk with hk
  subst hk
  cases x with
  | agg cs=>
   simp only [okKey,Bool.and_eq_true,beq_iff_eq] at hx
   simp only [RA] at rx
   obtain ⟨us,rfl,hus⟩:=rx
   simp only [Sem.run_bind,run_und hu,Result.andThen_ok]
   simp only [Std.Legacy.Range.forIn_eq_forIn_range',Std.Legacy.Range.size,Nat.sub_zero,Nat.add_one_sub_one,Nat.div_one]
   have hlen:=hus.length
   have:∀ (n j:Nat),j+n≤us.size→(forIn (List.range' j n) PUnit.unit fun i r=>do
    let __do_lift ←Go.sizeOf e
    let __do_lift ←part e us (i * __do_lift)
    Instr.checkKey em 9999 e __do_lift
    pure (ForInStep.yield PUnit.unit):Sem PUnit).run P w = .ok PUnit.unit w:=by
    intro n
    induction n with
    | zero=>intro j _;simp
    | succ n ih=>
     intro j hj
     have hg:us[j]? = some us[j]:=by rw [Array.getElem?_eq_getElem (by omega)]
     have hck:(Instr.checkKey em 9999 e us[j]).run P w = .ok () w:=by
      rw [show (9999:Nat)=9998+1 from rfl,Instr.checkKey]
      simp only [Sem.run_bind,run_und hue,Result.andThen_ok]
      rfl
     simp only [List.range'_succ,List.forIn_cons,Sem.run_bind,run_size hse,Result.andThen_ok,Nat.mul_one,part_int hue hg,hck,Sem.run_pure]
     exact ih (j+1) (by omega)
   have h1:=this n 0 (by simp at hlen;omega)
   simp at h1 ⊢
   rw [h1]
   rfl
  | c _=>simp [okKey] at hx
  | tup _=>simp [okKey] at hx
 ·simp at hk
theorem op_look (ht:RTm E G m s.tm a.tmps) (hH:RH E G B s.hp.f w) {t kt e:TypeId} {x k:Operand} {nx nk:NX} {q':KT} {z:AV} {ok:Bool} (ho:o.op = .lookup t x k ok)
 (hu:P.underlying t=some (.map kt e)) (hk:keyOf? P kt=some q') (hz:zeroOf P e=some z) (hx:compX E.rn x=some nx) (hkx:compX E.rn k=some nk)
 (hn:nop call orc s (.look q' z ok nx nk)=some q):PureOk P E G m s a w o q:=by
 simp only [nop,Option.bind_eq_some_iff] at hn
 obtain ⟨mv,hmv,kv,hkv,ms,hms,hn⟩:=hn
 split at hn
 rotate_left
 ·simp at hn
 rename_i hok
 simp only [Option.map_eq_some_iff] at hn
 obtain ⟨r,hr,rfl⟩:=hn
 have rm:=asC_rel hmv (compX_rel ht hx)
 have rk:=(asV_rel hkv (compX_rel ht hkx)).1
 obtain ⟨zv,hzv,rz,_⟩:=run_zero hz w
 have hes:∃ es:Array MapEntry,REnts E G ms es.toList∧((a.eval x = .map none∧es = #[])∨∃ b clock,a.eval x = .map (some b)∧w.heap[b]? = some (.map es clock)):=by
  unfold mapOf at hms
  split at hms
  ·simp only [RC] at rm
   injection hms with hms
   subst hms
   exact ⟨#[],by simp [REnts],.inl ⟨rm,rfl⟩⟩
  ·simp only [RC] at rm
   obtain ⟨b,hb1,hb2⟩:=rm
   split at hms
   ·rename_i hob
    injection hms with hms
    subst hms
    have:=hH.each _ _ hob
    simp only [RO] at this
    obtain ⟨b',re,g1,g2,g3,g4⟩:=this
    rw [hb1] at g1
    injection g1 with g1
    subst g1
    exact ⟨re,g3,.inr ⟨b,_,hb2,g2⟩⟩
   ·simp at hms
  ·simp at hms
 obtain ⟨es,hes,hmap⟩:=hes
 obtain ⟨rv,hrv,hres⟩:=run_findKey (P:=P) (w:=w) hk hok rk hes hr
 have hck:=fun em=>run_checkKey (P:=P) (w:=w) (em:=em) hk hok rk
 have hget:∃ v bb,(match rv with|some (_,v)=>(v,true)|none=>(zv,false))=(v,bb)∧
  RA E G (match r with|some (_,v)=>v|none=>z) v∧bb=(match r with|some _=>true|none=>false):=by
  cases r with
  | none=>simp only [FoundOk] at hres;subst hres;exact ⟨zv,false,rfl,rz E G,rfl⟩
  | some p=>obtain ⟨j,v⟩:=p;obtain ⟨uv,rfl,ruv⟩:=hres;exact ⟨uv,true,rfl,ruv,rfl⟩
 obtain ⟨v,bb,hvb,rv',hbb⟩:=hget
 refine ⟨if ok then .tuple #[v,.bool bb] else v,?_,rfl,rfl,?_⟩
 ·have hlook:(Instr.lookup t (a.eval x) (a.eval k) ok).run P w = .ok (if ok then .tuple #[v,.bool bb] else v) w:=by
   rcases hmap with ⟨hm1,rfl⟩|⟨b,clock,hm1,hm2⟩
   ·have hrv':(Instr.findKey kt (a.eval k) []).run P w = .ok rv w:=by simpa using hrv
    cases rv with
    | none=>simp only [Prod.mk.injEq] at hvb;obtain ⟨rfl,rfl⟩:=hvb;simp [Instr.lookup,run_und hu,hm1,hck,hrv',hzv]
    | some p=>simp only [Prod.mk.injEq] at hvb;obtain ⟨rfl,rfl⟩:=hvb;simp [Instr.lookup,run_und hu,hm1,hck,hrv']
   ·have hgo:(getObj b).run P w = .ok (.map es clock) w:=by simp [getObj,Sem.run,hm2]
    cases rv with
    | none=>simp only [Prod.mk.injEq] at hvb;obtain ⟨rfl,rfl⟩:=hvb;simp [Instr.lookup,run_und hu,hm1,hgo,hck,hrv,hzv]
    | some p=>simp only [Prod.mk.injEq] at hvb;obtain ⟨rfl,rfl⟩:=hvb;simp [Instr.lookup,run_und hu,hm1,hgo,hck,hrv]
  simp [execOp,ho,hlook]
 ·subst hbb
  cases r with
  | none=>cases ok <;> simp only [RT,RA,RAL,if_true,Bool.false_eq_true,if_false] <;> first|exact ⟨_,rfl,_,_,rfl,rv',_,_,rfl,by simp only [RA,RC],rfl⟩|exact rv'
  | some p=>cases ok <;> simp only [RT,RA,RAL,if_true,Bool.false_eq_true,if_false] <;> first|exact ⟨_,rfl,_,_,rfl,rv',_,_,rfl,by simp only [RA,RC],rfl⟩|exact rv'
theorem eq_if1 {t:TypeId} {ms} (h:P.underlying t=some (.interface ms)) (w:World):(Op.equal t .nilIface .nilIface).run P w = .ok true w:=by
 rw [eq_step,Op.equalIn];simp only [Sem.run_bind,run_und h,Result.andThen_ok,Sem.run_pure]
theorem eq_if2 {t t':TypeId} {ms} {u:Value} (h:P.underlying t=some (.interface ms)) (w:World):(Op.equal t (.iface t' u) .nilIface).run P w = .ok false w:=by
 rw [eq_step,Op.equalIn];simp only [Sem.run_bind,run_und h,Result.andThen_ok,Sem.run_pure]
theorem op_isnil (ht:RTm E G m s.tm a.tmps) {op:BinOp} {t t':TypeId} {x y:Operand} {nx:NX} {b:Bool} (ho:o.op = .binOp op t x y t') (hb:isNilOp P op t y=some b)
 (hx:compX E.rn x=some nx) (hn:nop call orc s (.isnil b nx)=some q):PureOk P E G m s a w o q:=by
 have r:=compX_rel ht hx
 simp only [nop,Option.map_eq_some_iff] at hn
 obtain ⟨v,hv,rfl⟩:=hn
 have key:∀ u,(u = .nilIface∧v = .bool !b)∨(∃ t2 u2,u = .iface t2 u2)∧v = .bool b→a.eval x=u→∃ z,(execOp a.eval o).run P w = .ok (.value z) w∧RC E G v z:=by
  intro u hu hxu
  have hy0:a.eval (.const .nilIface) = .nilIface:=rfl
  unfold isNilOp at hb
  split at hb
  ·rename_i ms hun
   injection hb with hb
   subst hb
   rcases hu with ⟨rfl,rfl⟩|⟨⟨t2,u2,rfl⟩,rfl⟩
   ·exact ⟨.bool true,by simp [execOp,ho,hxu,hy0,eqGuard,binOp,eq_if1 hun],by simp [RC]⟩
   ·exact ⟨.bool false,by simp [execOp,ho,hxu,hy0,eqGuard,binOp,eq_if2 hun],by simp [RC]⟩
  ·rename_i ms hun
   injection hb with hb
   subst hb
   rcases hu with ⟨rfl,rfl⟩|⟨⟨t2,u2,rfl⟩,rfl⟩
   ·exact ⟨.bool false,by simp [execOp,ho,hxu,hy0,eqGuard,binOp,eq_if1 hun],by simp [RC]⟩
   ·exact ⟨.bool true,by simp [execOp,ho,hxu,hy0,eqGuard,binOp,eq_if2 hun],by simp [RC]⟩
  ·cases hb
 unfold nilV at hv
 split at hv
 ·rename_i e
  rw [e] at r
  simp only [RT,RA,RC] at r
  injection hv with hv
  obtain ⟨z,h1,h2⟩:=key _ (.inl ⟨rfl,hv.symm⟩) r
  exact ⟨z,h1,rfl,rfl,by simpa only [RT,RA] using h2⟩
 ·rename_i t2 ag cs e
  rw [e] at r
  simp only [RT,RA,RC] at r
  obtain ⟨t3,vs,_,h1,_⟩:=r
  injection hv with hv
  obtain ⟨z,h2,h3⟩:=key _ (.inr ⟨⟨_,_,rfl⟩,hv.symm⟩) h1
  exact ⟨z,h2,rfl,rfl,by simpa only [RT,RA] using h3⟩
 ·cases hv
theorem op_mkif (ht:RTm E G m s.tm a.tmps) {t:TypeId} {x:Operand} {nx:NX} {d} (ho:o.op = .makeInterface t x) (hu:P.underlying t=some d) (hni:∀ ms,d≠.interface ms)
 (hx:compX E.rn x=some nx) (hn:nop call orc s (.mkif t nx)=some q):PureOk P E G m s a w o q:=by
 have r:=compX_rel ht hx
 simp only [nop,Option.map_eq_some_iff] at hn
 obtain ⟨v,hv,rfl⟩:=hn
 have hrun:(execOp a.eval o).run P w = .ok (.value (.iface t (a.eval x))) w:=by
  simp only [execOp,ho,Instr.makeInterface]
  cases d <;> first|exact absurd rfl (hni _)|simp [run_und hu]
 refine ⟨_,hrun,rfl,rfl,?_⟩
 unfold ifaceV at hv
 split at hv
 ·rename_i y e
  rw [e] at r
  injection hv with hv
  subst hv
  simp only [RT,RA,RC] at r ⊢
  exact ⟨t,#[a.eval x],rfl,by simp,by simp,by simp only [RL];exact ⟨_,_,rfl,r,rfl⟩⟩
 ·rename_i cs e
  rw [e] at r
  injection hv with hv
  subst hv
  simp only [RT,RA] at r
  obtain ⟨vs,h1,h2⟩:=r
  simp only [RT,RA,RC]
  exact ⟨t,vs,rfl,by simp [h1],by simp,h2⟩
 ·cases hv
theorem op_assert (ht:RTm E G m s.tm a.tmps) {t xt:TypeId} {x:Operand} {nx:NX} {z:AV} {d} (ho:o.op = .typeAssert x xt t true) (hu:P.underlying t=some d) (hni:∀ ms,d≠.interface ms) (hz:zeroOf P t=some z)
 (hx:compX E.rn x=some nx) (hn:nop call orc s (.assert t z nx)=some q):PureOk P E G m s a w o q:=by
 have r:=compX_rel ht hx
 simp only [nop,Option.map_eq_some_iff] at hn
 obtain ⟨v,hv,rfl⟩:=hn
 obtain ⟨zv,hzv,rz,_⟩:=run_zero hz w
 unfold assertV at hv
 split at hv
 ·rename_i e
  rw [e] at r
  simp only [RT,RA,RC] at r
  injection hv with hv
  subst hv
  refine ⟨.tuple #[zv,.bool false],?_,rfl,rfl,?_⟩
  ·simp only [execOp,ho,Instr.typeAssert,r]
   cases d <;> first|exact absurd rfl (hni _)|simp [run_und hu,hzv]
  ·simp only [RT,RA,RAL]
   exact ⟨_,rfl,_,_,rfl,rz E G,_,_,rfl,by simp only [RA,RC],rfl⟩
 ·rename_i t' ag cs e
  rw [e] at r
  simp only [RT,RA,RC] at r
  obtain ⟨t2,vs,rfl,h1,h2,h3⟩:=r
  split at hv
  ·rename_i htt
   subst htt
   simp only [Option.map_eq_some_iff] at hv
   obtain ⟨u,hu2,rfl⟩:=hv
   refine ⟨.tuple #[if ag then .agg vs else vs.getD 0 undef,.bool true],?_,rfl,rfl,?_⟩
   ·simp only [execOp,ho,Instr.typeAssert,h1]
    cases d <;> first|exact absurd rfl (hni _)|simp [run_und hu]
   ·simp only [RT,RA,RAL]
    refine ⟨_,rfl,_,_,rfl,?_,_,_,rfl,by simp only [RA,RC],rfl⟩
    unfold unI at hu2
    split at hu2
    ·injection hu2 with hu2
     subst hu2
     simp only [RA]
     exact ⟨vs,by simp,h3⟩
    ·rename_i y
     injection hu2 with hu2
     subst hu2
     simp only [RL] at h3
     obtain ⟨v1,ws,e1,e2,rfl⟩:=h3
     simp only [RA]
     have:vs = #[v1]:=Array.toList_inj.mp (by simpa using e1)
     subst this
     simpa using e2
    ·cases hu2
  ·rename_i htt
   injection hv with hv
   subst hv
   refine ⟨.tuple #[zv,.bool false],?_,rfl,rfl,?_⟩
   ·simp only [execOp,ho,Instr.typeAssert,h1]
    cases d <;> first|exact absurd rfl (hni _)|simp [run_und hu,hzv,htt]
   ·simp only [RT,RA,RAL]
    exact ⟨_,rfl,_,_,rfl,rz E G,_,_,rfl,by simp only [RA,RC],rfl⟩
 ·cases hv
end
end
section
section
variable {P:Program} {E:Env} {G:Gh} {B:Nat} {m:Mu} {s:St} {a:Act} {w:World}
variable {call:CallF} {orc:Nat→Nat} {o:Oper} {q:Res}
theorem go_map {b:Nat} {es:Array MapEntry} {clock:Nat} (h:w.heap[b]? = some (.map es clock)):(getObj b).run P w = .ok (.map es clock) w:=by simp [getObj,Sem.run,h]
theorem arg0 {c:Call} {x:Operand} {l:List Operand} (h:c.args.toList=x::l):(c.args.map a.eval)[0]? = some (a.eval x):=by
 rw [←Array.getElem?_toList,Array.toList_map,h];rfl
theorem op_len (ht:RTm E G m s.tm a.tmps) (hH:RH E G B s.hp.f w) {c:Call} {x:Operand} {nx:NX} {ty:TK} (ho:o.op = .call c) (hc:c.callee = .builtin .len) (hargs:c.args.toList=[x]) (hx:compX E.rn x=some nx)
 (hd:(ty = .str∧P.underlying (c.argTypes.getD 0 0)=some .string)∨(ty = .sl∧∃ e,P.underlying (c.argTypes.getD 0 0)=some (.slice e))∨(ty = .map∧∃ k e,P.underlying (c.argTypes.getD 0 0)=some (.map k e)))
 (h1:c.argTypes.size=1) (hn:nop call orc s (.len ty nx)=some q):PureOk P E G m s a w o q:=by
 have r:=compX_rel ht hx
 simp only [nop,Option.map_eq_some_iff] at hn
 obtain ⟨n,hn,rfl⟩:=hn
 have harg:=arg0 (a:=a) hargs
 have hty:=argTy (c:=c) 0 (by omega)
 generalize c.argTypes.getD 0 0=t0 at hd hty
 have fin:∀ k:Int,(Builtin.len_ c.argTypes o.type (c.args.map a.eval)).run P w = .ok (.int .i64 k) w→n=k→PureOk P E G m s a w o ⟨.v (.c (.int .i64 n)),s.lc,s.hp⟩:=by
  intro k h e
  subst e
  exact ⟨.int .i64 n,run_builtin ho hc fun _=>by simp [builtin,h],rfl,rfl,by simp [RT,RA,RC]⟩
 unfold lenV at hn
 split at hn
 ·rename_i ev
  rw [ev] at r
  simp only [RT,RA,RC] at r
  split at hn <;> simp at hn
  rename_i hty'
  subst hty'
  simp only [reduceCtorEq,false_and,true_and,false_or,or_false] at hd
  obtain ⟨e,hu⟩:=hd
  exact fin 0 (by simp [Builtin.len_,harg,hty,run_und hu,r,goInt]) hn.symm
 ·rename_i ev
  rw [ev] at r
  simp only [RT,RA,RC] at r
  obtain ⟨rr,oo,c',g1,g2,g3,g4,g5,g6,g7⟩:=r
  split at hn <;> simp at hn
  rename_i hty'
  subst hty'
  simp only [reduceCtorEq,false_and,true_and,false_or,or_false] at hd
  obtain ⟨e,hu⟩:=hd
  exact fin _ (by simp [Builtin.len_,harg,hty,run_und hu,g4,goInt]) hn.symm
 ·rename_i ev
  rw [ev] at r
  simp only [RT,RA,RC] at r
  split at hn <;> simp at hn
  rename_i hty'
  subst hty'
  simp only [reduceCtorEq,false_and,true_and,false_or,or_false] at hd
  exact fin _ (by simp [Builtin.len_,harg,hty,run_und hd,r,goInt]) hn.symm
 ·rename_i ev
  rw [ev] at r
  simp only [RT] at r
  obtain ⟨b,g1,g2⟩:=r
  split at hn <;> simp at hn
  rename_i hty'
  subst hty'
  simp only [reduceCtorEq,false_and,true_and,false_or,or_false] at hd
  obtain ⟨e,hu⟩:=hd
  exact fin _ (by simp [Builtin.len_,harg,hty,run_und hu,g2,goInt]) hn.symm
 ·rename_i ev
  rw [ev] at r
  simp only [RT,RA,RC] at r
  split at hn <;> simp at hn
  rename_i hty'
  subst hty'
  simp only [reduceCtorEq,false_and,true_and,false_or,or_false] at hd
  obtain ⟨k,e,hu⟩:=hd
  exact fin 0 (by simp [Builtin.len_,harg,hty,run_und hu,r,goInt]) hn.symm
 ·rename_i id ev
  rw [ev] at r
  simp only [RT,RA,RC] at r
  obtain ⟨b,g1,g2⟩:=r
  split at hn
  rotate_left
  ·simp at hn
  rename_i hob
  split at hn <;> simp at hn
  rename_i hty'
  subst hty'
  simp only [reduceCtorEq,false_and,true_and,false_or,or_false] at hd
  obtain ⟨k,e,hu⟩:=hd
  have:=hH.each _ _ hob
  simp only [RO] at this
  obtain ⟨b',re,k1,k2,k3,k4⟩:=this
  rw [g1] at k1
  injection k1 with k1
  subst k1
  have hl:=k3.length
  have hgo:=go_map (P:=P) k2
  exact fin re.size (by simp [Builtin.len_,harg,hty,run_und hu,g2,hgo,goInt]) (by rw [←hn];simp at hl;omega)
 ·simp at hn
theorem RowIn.append {cs:Array Value} {p:Nat} {x y:List CV} (h:RowIn E G cs p x) (k:RowIn E G cs (p+x.length) y):RowIn E G cs p (x++y):=by
 intro j c hc
 rw [List.getElem?_append] at hc
 split at hc
 ·exact h j c hc
 ·have:=k (j-x.length) c hc
  rwa [show p+x.length+(j-x.length)=p+j by omega] at this
theorem RowIn.flatten {cs:Array Value} {sz:Nat}:∀ (rs:List (List CV)) (p:Nat),(∀ (i:Nat) (row:List CV),rs[i]? = some row→row.length=sz∧RowIn E G cs (p+i * sz) row)→
 RowIn E G cs p rs.flatten∧rs.flatten.length=rs.length * sz
 | [],p,_=>⟨fun j c hc=>by simp at hc,by simp⟩
 | x::rs,p,h=>by
  obtain ⟨h1,h2⟩:=h 0 x rfl
  obtain ⟨h3,h4⟩:=RowIn.flatten rs (p+sz) (fun i row hr=>by
   have:=h (i+1) row (by simpa using hr)
   rwa [show p+(i+1) * sz=p+sz+i * sz by rw [Nat.add_mul];omega] at this)
  simp only [Nat.zero_mul,Nat.add_zero] at h2
  refine ⟨?_,by simp [h1,h4,Nat.add_mul];omega⟩
  simp only [List.flatten_cons]
  exact h2.append (by rw [h1];exact h3)
theorem chunks_flatten (sz:Nat):∀ (n:Nat) (l:List CV),l.length=n * sz→(chunks sz n l).flatten=l∧(chunks sz n l).length=n∧∀ row∈chunks sz n l,row.length=sz
 | 0,l,h=>by simp at h;subst h;simp [chunks]
 | n+1,l,h=>by
  rw [Nat.add_mul,Nat.one_mul] at h
  obtain ⟨h1,h2,h3⟩:=chunks_flatten sz n (l.drop sz) (by simp;omega)
  refine ⟨by simp [chunks,h1],by simp [chunks,h2],?_⟩
  intro row hr
  simp only [chunks,List.mem_cons] at hr
  rcases hr with rfl|hr
  ·simp;omega
  ·exact h3 row hr
theorem flat_len {sz:Nat} {rs:List (List CV)} (h:∀ row∈rs,row.length=sz):rs.flatten.length=rs.length * sz:=by
 induction rs with
 | nil=>simp
 | cons x rs ih=>
  rw [List.flatten_cons,List.length_append,h x (by simp),ih (fun y hy=>h y (by simp [hy])),List.length_cons,Nat.add_mul]
  omega
theorem rows_read (hH:RH E G B s.hp.f w) (hL:RLc E G B s.hp.f m s.lc w) {x:TV} {v:Value} {sz:Nat} {rs:List (List CV)} (r:RT E G m x v) (h:sliceRows s.hp s.lc sz x=some rs) :
 ∃ cells:Array Value,(∀ w1:World,w1.heap=w.heap→(Builtin.lenOf v).run P w1 = .ok rs.length w1)∧(∀ w1:World,w1.heap=w.heap→∀ k,k≤rs.length→(Builtin.firstCells sz k v).run P w1 = .ok (cells.extract 0 (k * sz)) w1)∧RL E G rs.flatten cells.toList∧(∀ row∈rs,row.length=sz)∧((∃ b,x = .v (.c (.str b))∧v = .string b)∨∃ ad c,v = .slice ad rs.length c):=by
 unfold sliceRows at h
 split at h
 ·simp only [RT,RA,RC] at r
  injection h with h
  subst h
  refine ⟨#[],fun w1 he=>by simp [Builtin.lenOf,r],fun w1 he k hk=>?_,by simp [RL],by simp,.inr ⟨_,_,r⟩⟩
  simp at hk
  subst hk
  simp [Builtin.firstCells,r]
 ·rename_i id tok off len cap
  simp only [RT,RA,RC] at r
  obtain ⟨r0,oo,c,h1,h2,h3,h4,h5,h6,h7⟩:=r
  have fin:∀ (rr:Rec) (wr:Bool) (rows:List (List CV)),rr.blk=r0.blk→rr.base=r0.base→rr.lo=r0.lo→rr.sz=r0.sz→off+len≤rr.n→RowsAt E G B w wr sz rr rows→rs=(rows.drop off).take len→
   ∃ cells:Array Value,(∀ w1:World,w1.heap=w.heap→(Builtin.lenOf v).run P w1 = .ok rs.length w1)∧(∀ w1:World,w1.heap=w.heap→∀ k,k≤rs.length→(Builtin.firstCells sz k v).run P w1 = .ok (cells.extract 0 (k * sz)) w1)∧RL E G rs.flatten cells.toList∧(∀ row∈rs,row.length=sz)∧((∃ b,TV.v (.c (.sl id tok off len cap)) = .v (.c (.str b))∧v = .string b)∨∃ ad c,v = .slice ad rs.length c):=by
   rintro rr wr rows q1 q2 q3 q4 h3 hra rfl
   have h2:rr.lo≤off:=by rw [q3];exact h2
   have h5:oo=⟨rr.blk,rr.pos off 0,none⟩∨c=0:=by
    have:rr.pos off 0=r0.pos off 0:=by simp only [Rec.pos,q2,q3,q4]
    rw [this,q1];exact h5
   obtain ⟨cs,el,fz,hb,hsz,_,hcells⟩:=hra.cells
   have hlen:((rows.drop off).take len).length=len:=by simp;have:=hra.len;omega
   have hmem:∀ (i:Nat) (row:List CV),((rows.drop off).take len)[i]? = some row→i<len∧rows[off+i]? = some row:=by
    intro i row hr
    rw [List.getElem?_take] at hr
    split at hr
    ·rw [List.getElem?_drop] at hr;exact ⟨‹_›,hr⟩
    ·simp at hr
   have hw:∀ row∈(rows.drop off).take len,row.length=sz:=by
    intro row hr
    obtain ⟨i,hi,he⟩:=List.getElem_of_mem hr
    obtain ⟨h8,h9⟩:=hmem i row (by rw [List.getElem?_eq_getElem hi,he])
    exact hra.width (off+i) row (by omega) (by omega) h9
   obtain ⟨hin,hflen⟩:=RowIn.flatten (E:=E) (G:=G) (cs:=cs) (sz:=sz) ((rows.drop off).take len) (rr.pos off 0) (fun i row hr=>by
    obtain ⟨h8,h9⟩:=hmem i row hr
    refine ⟨hra.width (off+i) row (by omega) (by omega) h9,fun j x hx=>?_⟩
    obtain ⟨v,hv,rv⟩:=hcells (off+i) row j x (by omega) (by omega) h9 hx
    refine ⟨v,?_,rv⟩
    have:rr.pos off 0+i * sz+j=rr.pos (off+i) j:=by
     simp only [Rec.pos,hra.size]
     rw [show off+i-rr.lo=(off-rr.lo)+i by omega,Nat.add_mul]
     omega
    rwa [this])
   rw [hlen] at hflen
   have hpos:rr.pos off 0≤cs.size:=by
    refine Nat.le_trans ?_ hsz
    have:(off-rr.lo) * sz≤rr.tot * sz:=Nat.mul_le_mul_right _ (by have:=hra.fit;omega)
    simp only [Rec.pos,hra.size]
    omega
   obtain ⟨hfit,hrl⟩:=hin.list (fun _=>hpos)
   rw [hflen] at hfit hrl
   refine ⟨((cs.toList.drop (rr.pos off 0)).take (len * sz)).toArray,fun w1 he=>by simp [Builtin.lenOf,h4,hlen],fun w1 he k hk=>?_,by simpa using hrl,hw,.inr ⟨_,_,by rw [h4,hlen]⟩⟩
   rw [hlen] at hk
   simp only [Builtin.firstCells,h4]
   rcases Nat.eq_zero_or_pos k with hk0|hk0
   ·subst hk0
    simp [loadCells,loadCellsFrom]
   have ho':oo=⟨rr.blk,rr.pos off 0,none⟩:=by
    rcases h5 with h5|h5
    ·exact h5
    ·omega
   subst ho'
   have hkl:k * sz≤len * sz:=Nat.mul_le_mul_right _ hk
   have hl2:((cs.toList.drop (rr.pos off 0)).take (k * sz)).length=k * sz:=by simp;omega
   have:=run_loadCells P (w:=w1) (b:=rr.blk) (o:=rr.pos off 0) ((cs.toList.drop (rr.pos off 0)).take (k * sz)) (fun i u hu=>by
    rw [cell_eq (by rw [he];exact hb)]
    rw [List.getElem?_take] at hu
    split at hu
    ·rw [List.getElem?_drop] at hu;simpa using hu
    ·simp at hu)
   rw [hl2] at this
   rw [this]
   congr 1
   apply Array.ext'
   simp [List.take_take,Nat.min_eq_left hk]
  split at h
  ·rename_i wr sz' cur lw rows hob
   split at h
   rotate_left
   ·simp at h
   rename_i hc
   obtain ⟨rfl,hlw⟩:=hc
   injection h with h
   have hoo:=hH.each id _ hob
   simp only [RO] at hoo
   exact fin r0 wr rows rfl rfl rfl rfl h3 (hoo.2.2.2.1 tok r0 hlw h1) h.symm
  ·rename_i sz' vs hob
   split at h
   rotate_left
   ·simp at h
   rename_i rows hv
   split at h
   rotate_left
   ·simp at h
   rename_i hc
   obtain ⟨rfl,hle⟩:=hc
   injection h with h
   have hoo:=hH.each id _ hob
   simp only [RO] at hoo
   exact fin { r0 with n:=rows.length } true rows rfl rfl rfl rfl hle (hoo.2.1 tok r0 rows hv h1).2.2 h.symm
  ·simp at h
 ·rename_i b
  simp only [RT,RA,RC] at r
  split at h <;> simp at h
  rename_i hs1
  subst hs1 h
  subst r
  refine ⟨(b.data.map fun c=>.int .u8 c.toNat),fun w1 he=>by simp [Builtin.lenOf,bytesRows,bytes_len],fun w1 he k hk=>?_,?_,?_,.inl ⟨b,rfl,rfl⟩⟩
  ·simp only [Builtin.firstCells,Sem.run_pure]
   congr 1
   apply Array.ext'
   simp
  ·have:∀ l:List UInt8,RL E G (l.map fun b=>[CV.int .u8 b.toNat]).flatten (l.map fun b=>Value.int .u8 b.toNat):=by
    intro l
    induction l with
    | nil=>simp [RL]
    | cons c l ih=>
     simp only [List.map_cons,List.flatten_cons,List.cons_append,List.nil_append,RL]
     exact ⟨_,_,rfl,by simp only [RC],ih⟩
   simpa [bytesRows] using this b.data.toList
  ·intro row hr
   simp only [bytesRows,List.mem_map] at hr
   obtain ⟨c,_,rfl⟩:=hr
   rfl
 ·rename_i k n
  simp only [RT] at r
  obtain ⟨b,g1,rfl⟩:=r
  simp only [Option.bind_eq_some_iff] at h
  obtain ⟨c,hc,h⟩:=h
  split at h <;> simp at h
  rename_i hl
  subst h
  obtain ⟨b',vs,el,fz,k1,k2,k3,_⟩:=hL.each k c hc
  rw [g1] at k1
  injection k1 with k1
  subst k1
  obtain ⟨c1,c2,c3⟩:=chunks_flatten sz n c hl
  refine ⟨vs,fun w1 he=>by simp [Builtin.lenOf,c2],fun w1 he k hk=>?_,by rw [c1];exact k3,c3,.inr ⟨_,_,by rw [c2]⟩⟩
  rw [c2] at hk
  have hlen:=k3.length
  simp only [Array.length_toList] at hlen
  have hkl:k * sz≤n * sz:=Nat.mul_le_mul_right _ hk
  simp only [Builtin.firstCells]
  have hl2:(vs.toList.take (k * sz)).length=k * sz:=by simp;omega
  have:=run_loadCells P (w:=w1) (b:=b) (o:=0) (vs.toList.take (k * sz)) (fun i u hu=>by
   rw [cell_eq (by rw [he];exact k2)]
   rw [List.getElem?_take] at hu
   split at hu
   ·simpa using hu
   ·simp at hu)
  rw [hl2] at this
  rw [this]
  congr 1
  apply Array.ext'
  simp
 ·simp at h
end
end
section
section
variable {P:Program} {E:Env} {G:Gh} {B:Nat} {m:Mu} {s:St} {a:Act} {w:World}
variable {call:CallF} {orc:Nat→Nat} {o:Oper} {q:Res}
theorem op_toInt (ht:RTm E G m s.tm a.tmps) {src dst:TypeId} {x:Operand} {nx:NX} {k k':IntKind} (ho:o.op = .convert src dst x) (hx:compX E.rn x=some nx)
 (h1:P.underlying src=some (.int k')) (h2:P.underlying dst=some (.int k)) (hn:nop call orc s (.conv (.toInt k) nx)=some q):PureOk P E G m s a w o q:=by
 have r:=compX_rel ht hx
 simp only [nop] at hn
 unfold convV at hn
 split at hn <;> simp_all
 subst hn
 simp only [RT,RA,RC] at r
 exact ⟨_,by simp [execOp,ho,convert,run_und h1,run_und h2,r,Conv.intToInt];rfl,rfl,rfl,by simp [RT,RA,RC]⟩
theorem op_same (ht:RTm E G m s.tm a.tmps) {src dst:TypeId} {x:Operand} {nx:NX} (ho:o.op = .convert src dst x) (hx:compX E.rn x=some nx)
 (h1:P.underlying src=some .string) (h2:P.underlying dst=some .string) (hn:nop call orc s (.conv .same nx)=some q):PureOk P E G m s a w o q:=by
 have r:=compX_rel ht hx
 simp only [nop] at hn
 unfold convV at hn
 split at hn <;> simp_all
 subst hn
 simp only [RT,RA,RC] at r
 exact ⟨_,by simp [execOp,ho,convert,run_und h1,run_und h2,r];rfl,rfl,rfl,by simp [RT,RA,RC]⟩
theorem op_intToStr (ht:RTm E G m s.tm a.tmps) {src dst:TypeId} {x:Operand} {nx:NX} {k:IntKind} (ho:o.op = .convert src dst x) (hx:compX E.rn x=some nx)
 (h1:P.underlying src=some (.int k)) (h2:P.underlying dst=some .string) (hn:nop call orc s (.conv .intToStr nx)=some q):PureOk P E G m s a w o q:=by
 have r:=compX_rel ht hx
 simp only [nop] at hn
 unfold convV at hn
 split at hn <;> simp_all
 subst hn
 simp only [RT,RA,RC] at r
 exact ⟨_,by simp [execOp,ho,convert,run_und h1,run_und h2,r,Conv.intToString];rfl,rfl,rfl,by simp [RT,RA,RC]⟩
theorem bytes_loop (f:Value→ByteArray→Sem (ForInStep ByteArray)) (hf:∀ n acc w,(f (.int .u8 n) acc).run P w = .ok (.yield (acc.push (UInt8.ofNat n.toNat))) w) :
 ∀ (rs:List (List CV)) (cs:List Value) (l:List UInt8) (acc:ByteArray),RL E G rs.flatten cs→rowsBytes rs=some l→(forIn cs acc f).run P w = .ok ⟨acc.data++l.toArray⟩ w:=by
 intro rs
 induction rs with
 | nil=>
  intro cs l acc h hl
  simp only [List.flatten_nil,RL] at h
  subst h
  simp [rowsBytes] at hl
  subst hl
  simp
 | cons row rs ih=>
  intro cs l acc h hl
  unfold rowsBytes at hl
  split at hl
  ·simp at *
  ·rename_i n r he
   injection he with he1 he2
   subst he1 he2
   simp only [Option.bind_eq_some_iff] at hl
   obtain ⟨l',hl',hh⟩:=hl
   injection hh with hh
   subst hh
   simp only [List.flatten_cons,List.cons_append,List.nil_append,RL] at h
   obtain ⟨v,vs,rfl,rv,hvs⟩:=h
   simp only [RC] at rv
   subst rv
   simp only [List.forIn_cons,Sem.run_bind,hf,Result.andThen_ok]
   rw [ih vs l' _ hvs hl']
   congr 1
   simp [ByteArray.push]
  ·simp at hl
theorem runes_loop (f:Value→ByteArray→Sem (ForInStep ByteArray)) (hf:∀ n acc w,(f (.int .i32 n) acc).run P w = .ok (.yield (acc++Utf8.encode n)) w) :
 ∀ (rs:List (List CV)) (cs:List Value) (l:ByteArray) (acc:ByteArray),RL E G rs.flatten cs→rowsRunes rs=some l→(forIn cs acc f).run P w = .ok (acc++l) w:=by
 intro rs
 induction rs with
 | nil=>
  intro cs l acc h hl
  simp only [List.flatten_nil,RL] at h
  subst h
  simp [rowsRunes] at hl
  subst hl
  simp
 | cons row rs ih=>
  intro cs l acc h hl
  unfold rowsRunes at hl
  split at hl
  ·simp at *
  ·rename_i n r he
   injection he with he1 he2
   subst he1 he2
   simp only [Option.bind_eq_some_iff] at hl
   obtain ⟨l',hl',hh⟩:=hl
   injection hh with hh
   subst hh
   simp only [List.flatten_cons,List.cons_append,List.nil_append,RL] at h
   obtain ⟨v,vs,rfl,rv,hvs⟩:=h
   simp only [RC] at rv
   subst rv
   simp only [List.forIn_cons,Sem.run_bind,hf,Result.andThen_ok]
   rw [ih vs l' _ hvs hl',ByteArray.append_assoc]
  ·simp at hl
theorem op_bytesToStr (ht:RTm E G m s.tm a.tmps) (hH:RH E G B s.hp.f w) (hL:RLc E G B s.hp.f m s.lc w) {src dst e:TypeId} {x:Operand} {nx:NX} (ho:o.op = .convert src dst x) (hx:compX E.rn x=some nx)
 (h1:P.underlying src=some (.slice e)) (h2:P.underlying dst=some .string) (he:P.underlying e=some (.int .u8)) (hn:nop call orc s (.conv .bytesToStr nx)=some q):PureOk P E G m s a w o q:=by
 have r:=compX_rel ht hx
 simp only [nop] at hn
 generalize hev:nx.ev s.tm=tv at hn r
 simp only [convV] at hn
 split at hn
 ·simp at hn
 rename_i hns
 simp only [Option.bind_eq_some_iff,Option.map_eq_some_iff] at hn
 obtain ⟨rs,hrs,l,hl,rfl⟩:=hn
 obtain ⟨cells,hlen,hfc,hrl,hw,hkind⟩:=rows_read (P:=P) hH hL r hrs
 refine ⟨.string ⟨l.toArray⟩,?_,rfl,rfl,by simp [RT,RA,RC]⟩
 have hfirst:=hfc w rfl rs.length (Nat.le_refl _)
 have hcl:cells.size=rs.length * 1:=by
  have h3:=hrl.length
  rw [flat_len hw] at h3
  simpa using h3
 rw [←hcl,show cells.extract 0 cells.size=cells by simp] at hfirst
 rcases hkind with ⟨b,rfl,_⟩|⟨ad,c,hv⟩
 ·exact absurd rfl (hns b)
 rw [hv] at hfirst
 cases ad with
 | none=>
  simp only [Builtin.firstCells,Sem.run_pure] at hfirst
  have:cells = #[]:=by injection hfirst with h;exact h.symm
  subst this
  simp at hcl
  have:rs=[]:=List.eq_nil_of_length_eq_zero hcl.symm
  subst this
  simp [rowsBytes] at hl
  subst hl
  simp [execOp,ho,convert,run_und h1,run_und h2,run_und he,hv,Conv.bytesToString]
  rfl
 | some ad=>
  simp only [Builtin.firstCells,Nat.mul_one] at hfirst
  simp [execOp,ho,convert,run_und h1,run_und h2,run_und he,hv,Conv.bytesToString,hfirst]
  rw [←Array.forIn_toList,bytes_loop (E:=E) (G:=G) _ (fun n acc w=>by simp) rs _ l _ hrl hl]
  simp
theorem op_runesToStr (ht:RTm E G m s.tm a.tmps) (hH:RH E G B s.hp.f w) (hL:RLc E G B s.hp.f m s.lc w) {src dst e:TypeId} {x:Operand} {nx:NX} (ho:o.op = .convert src dst x) (hx:compX E.rn x=some nx)
 (h1:P.underlying src=some (.slice e)) (h2:P.underlying dst=some .string) (he:P.underlying e=some (.int .i32)) (hn:nop call orc s (.conv .runesToStr nx)=some q):PureOk P E G m s a w o q:=by
 have r:=compX_rel ht hx
 simp only [nop] at hn
 generalize hev:nx.ev s.tm=tv at hn r
 simp only [convV] at hn
 split at hn
 ·simp at hn
 rename_i hns
 simp only [Option.bind_eq_some_iff,Option.map_eq_some_iff] at hn
 obtain ⟨rs,hrs,l,hl,rfl⟩:=hn
 obtain ⟨cells,hlen,hfc,hrl,hw,hkind⟩:=rows_read (P:=P) hH hL r hrs
 refine ⟨.string l,?_,rfl,rfl,by simp [RT,RA,RC]⟩
 have hfirst:=hfc w rfl rs.length (Nat.le_refl _)
 have hcl:cells.size=rs.length * 1:=by
  have h3:=hrl.length
  rw [flat_len hw] at h3
  simpa using h3
 rw [←hcl,show cells.extract 0 cells.size=cells by simp] at hfirst
 rcases hkind with ⟨b,rfl,_⟩|⟨ad,c,hv⟩
 ·exact absurd rfl (hns b)
 rw [hv] at hfirst
 cases ad with
 | none=>
  simp only [Builtin.firstCells,Sem.run_pure] at hfirst
  have:cells = #[]:=by injection hfirst with h;exact h.symm
  subst this
  simp at hcl
  have:rs=[]:=List.eq_nil_of_length_eq_zero hcl.symm
  subst this
  simp [rowsRunes] at hl
  subst hl
  simp [execOp,ho,convert,run_und h1,run_und h2,run_und he,hv,Conv.runesToString]
 | some ad=>
  simp only [Builtin.firstCells,Nat.mul_one] at hfirst
  simp [execOp,ho,convert,run_und h1,run_und h2,run_und he,hv,Conv.runesToString,hfirst]
  rw [←Array.forIn_toList,runes_loop (E:=E) (G:=G) _ (fun n acc w=>by simp) rs _ l _ hrl hl]
  simp
theorem op_mkfn (ht:RTm E G m s.tm a.tmps) {f:FuncId} {first caps:Array Operand} {l:List NX} (ho:o.op = .makeFunc (.func f) first caps) (h0:first.size=0) (hx:compXs E.rn caps.toList=some l)
 (hn:nop call orc s (.mkfn (E.rn f) l)=some q):PureOk P E G m s a w o q:=by
 simp only [nop,Option.map_eq_some_iff] at hn
 obtain ⟨cs,hcs,rfl⟩:=hn
 have r:=evC_rel ht hx hcs
 have hf:first = #[]:=Array.eq_empty_of_size_eq_zero h0
 refine ⟨.func (.func f) #[] (caps.map a.eval),by simp [execOp,ho,Instr.makeFunc,hf],rfl,rfl,?_⟩
 simp only [RT,RA,RC]
 exact ⟨f,_,rfl,rfl,by simpa using r⟩
theorem RL.splice {x y:List CV} {v u:List Value} {j:Nat} (h:RL E G x v) (k:RL E G y u) (hj:j+y.length≤x.length):RL E G (splice x j y) (v.take j++u++v.drop (j+u.length)):=by
 have hl:=h.length
 have kl:=k.length
 have h1:RL E G (x.take j) (v.take j):=RL.mk (by simp [hl]) (fun i c hc=>by
  rw [List.getElem?_take] at hc ⊢
  split at hc
  ·rename_i hi;rw [if_pos hi];exact h.get hc
  ·simp at hc)
 have h2:RL E G (x.drop (j+y.length)) (v.drop (j+u.length)):=RL.mk (by simp [hl,kl]) (fun i c hc=>by
  rw [List.getElem?_drop] at hc ⊢
  rw [kl]
  exact h.get hc)
 exact (h1.append k).append h2
theorem setFold (u:List Value):∀ (k:Nat) (vs:Array Value) (off:Nat),(u.zipIdx k).foldl (fun cs p=>cs.setIfInBounds (off+p.2) p.1) vs=putCells vs (off+k) u:=by
 induction u with
 | nil=>intro k vs off;rfl
 | cons x u ih=>
  intro k vs off
  simp only [List.zipIdx_cons,List.foldl_cons,putCells]
  rw [ih (k+1) _ off,Nat.add_assoc]
theorem putCells_list {u:List Value} {vs:Array Value} {j:Nat} (h:j+u.length≤vs.size):(putCells vs j u).toList=vs.toList.take j++u++vs.toList.drop (j+u.length):=by
 apply List.ext_getElem?
 intro k
 rw [Array.getElem?_toList,putCells_get _ _ _ h]
 rw [List.append_assoc,List.getElem?_append]
 simp only [List.length_take,Array.length_toList]
 by_cases h1:k<j
 ·rw [if_neg (by omega),if_pos (by omega),List.getElem?_take,if_pos h1]
  simp
 ·rw [if_neg (show ¬k<min j vs.size by omega),List.getElem?_append]
  by_cases h2:k<j+u.length
  ·rw [if_pos (by omega),if_pos (by omega)]
   congr 1
   omega
  ·rw [if_neg (by omega),if_neg (by omega),List.getElem?_drop]
   simp
   congr 1
   omega
theorem fill_ok {place:Nat→Option (Nat × Nat)}:∀ (ps:List (Nat × Operand)) (nps:List (Nat × Nat × NX)) (l:List (Nat × Nat × AV)) (x cs:List CV) (vs:Array Value),RTm E G m s.tm a.tmps→
 partsOf E.rn place ps=some nps→evP s.tm nps=some l→RL E G x vs.toList→fillCells x l=some cs→
 ∃ us,Instr.fill place vs (ps.map fun p=>(p.1,a.eval p.2))=some us∧RL E G cs us.toList
 | [],nps,l,x,cs,vs,ht,hp,he,hr,hf=>by
  simp [partsOf] at hp
  subst hp
  simp [evP] at he
  subst he
  simp [fillCells] at hf
  subst hf
  exact ⟨vs,by simp [Instr.fill],hr⟩
 | (i,y)::ps,nps,l,x,cs,vs,ht,hp,he,hr,hf=>by
  simp only [partsOf,Option.bind_eq_some_iff] at hp
  obtain ⟨⟨off,sz⟩,hpl,ny,hny,r,hr',hh⟩:=hp
  injection hh with hh
  subst hh
  simp only [evP,Option.bind_eq_some_iff] at he
  obtain ⟨av,hav,l',hl',hh⟩:=he
  injection hh with hh
  subst hh
  simp only [fillCells] at hf
  split at hf
  rotate_left
  ·simp at hf
  rename_i hc
  obtain ⟨hc1,hc2⟩:=hc
  obtain ⟨ra,hnt⟩:=asV_rel hav (compX_rel ht hny)
  have rcells:=ra.cells hnt
  have hlen:=rcells.length
  have hvl:=hr.length
  simp only [Array.length_toList] at hlen hvl
  have hfit:off+(a.eval y).cells.toList.length≤vs.size:=by simp;omega
  obtain ⟨us,hus,rus⟩:=fill_ok ps r l' (splice x off av.cells) cs (putCells vs off (a.eval y).cells.toList) ht hr' hl' (by
   rw [putCells_list hfit]
   exact hr.splice rcells (by omega)) hf
  refine ⟨us,?_,rus⟩
  simp only [List.map_cons,Instr.fill,hpl]
  rw [if_neg (by simp;omega)]
  have hfold:(a.eval y).cells.zipIdx.foldl (fun cs p=>cs.setIfInBounds (off+p.2) p.1) vs=putCells vs off (a.eval y).cells.toList:=by
   have:=setFold (a.eval y).cells.toList 0 vs off
   rw [Nat.add_zero] at this
   rw [←this,←Array.foldl_toList,Array.toList_zipIdx]
  rw [hfold]
  exact hus
theorem run_places (fields:List Field) (h:fields.all (fun f=>(szOf P f.type).isSome)=true) (w:World) :
 (fields.mapM fun f=>(do pure (f.offset,←Go.sizeOf f.type):Sem (Nat × Nat))).run P w = .ok (fields.map fun f=>(f.offset,(szOf P f.type).getD 0)) w:=by
 induction fields with
 | nil=>simp
 | cons f fs ih=>
  simp only [List.all_cons,Bool.and_eq_true] at h
  obtain ⟨n,hn⟩:=Option.isSome_iff_exists.1 h.1
  have:=ih h.2
  simp only [List.mapM_cons,Sem.run_bind,run_size hn,Result.andThen_ok,Sem.run_pure,this,List.map_cons,hn,Option.getD_some]
theorem op_build (ht:RTm E G m s.tm a.tmps) {t:TypeId} {ps:Array (Nat × Operand)} {z:AV} {nps:List (Nat × Nat × NX)} (ho:o.op = .build t ps) (hz:zeroOf P t=some z)
 (hu:(∃ fields,P.underlying t=some (.struct fields)∧fields.toList.all (fun f=>(szOf P f.type).isSome)=true∧partsOf E.rn (fieldPlace? P fields) ps.toList=some nps)∨
  ∃ len e n,P.underlying t=some (.array len e)∧szOf P e=some n∧partsOf E.rn (fun i=>some (i * n,n)) ps.toList=some nps)
 (hn:nop call orc s (.build z.cells nps)=some q):PureOk P E G m s a w o q:=by
 simp only [nop,Option.bind_eq_some_iff,Option.map_eq_some_iff] at hn
 obtain ⟨l,hl,cs,hcs,rfl⟩:=hn
 obtain ⟨zv,hzv,rz,hnt,_⟩:=run_zero hz w
 have rzc:=(rz E G).cells hnt
 rcases hu with ⟨fields,hu,hall,hp⟩|⟨len,e,n,hu,hs,hp⟩
 ·obtain ⟨us,hus,rus⟩:=fill_ok ps.toList nps l z.cells cs zv.cells ht hp hl rzc hcs
  refine ⟨.agg us,?_,rfl,rfl,by simp only [RT,RA];exact ⟨us,rfl,rus⟩⟩
  have hpl:(fields.mapM fun f=>(do pure (f.offset,←Go.sizeOf f.type):Sem (Nat × Nat))).run P w = .ok (fields.map fun f=>(f.offset,(szOf P f.type).getD 0)) w:=by
   have:=run_places (P:=P) fields.toList hall w
   rw [Array.mapM_eq_mapM_toList]
   simp only [Sem.run_map,this,Result.andThen_ok]
   congr 1
   apply Array.ext'
   simp
  have hplace:∀ i,(fields.map fun f=>(f.offset,(szOf P f.type).getD 0))[i]? = fieldPlace? P fields i:=by
   intro i
   simp only [Array.getElem?_map,fieldPlace?]
   cases hf:fields[i]? with
   | none=>rfl
   | some f=>
    simp only [Option.map_some,Option.bind_some]
    have hm:f∈fields.toList:=by
     have:=Array.mem_of_getElem? hf
     simpa using this
    have:=List.all_eq_true.1 hall f hm
    obtain ⟨k,hk⟩:=Option.isSome_iff_exists.1 this
    simp [hk]
  have hfill:Instr.fill (fun i=>(fields.map fun f=>(f.offset,(szOf P f.type).getD 0))[i]?) zv.cells (ps.toList.map fun p=>(p.1,a.eval p.2))=some us:=by
   rw [show (fun i=>(fields.map fun f=>(f.offset,(szOf P f.type).getD 0))[i]?)=fieldPlace? P fields from funext hplace]
   exact hus
  simp only [execOp,ho,Instr.build,Sem.run_bind,hzv,Result.andThen_ok,run_und hu,hpl]
  simp only [Array.toList_map]
  rw [hfill]
  rfl
 ·obtain ⟨us,hus,rus⟩:=fill_ok ps.toList nps l z.cells cs zv.cells ht hp hl rzc hcs
  refine ⟨.agg us,?_,rfl,rfl,by simp only [RT,RA];exact ⟨us,rfl,rus⟩⟩
  simp only [execOp,ho,Instr.build,Sem.run_bind,hzv,Result.andThen_ok,run_und hu,run_size hs]
  simp only [Array.toList_map]
  rw [hus]
  rfl
end
end
section
section
variable {P:Program} {E:Env} {G G':Gh} {B:Nat} {m m':Mu} {w w':World}
def Loc (m:Mu) (lc:List (List CV)) (b:Nat):Prop:=∃ k,k<lc.length∧m k=some b
def FreeM (m:Mu) (lo hi:Nat):Prop:=∀ k,lo≤k→k<hi→m k=none
abbrev DeadOk (G G':Gh) (hp hp':Hp):Prop:=∀ id,hp'.f id=some .dead→(hp.f id=some .dead∨hp.obs.length≤id)∧G'.rows id=G.rows id∧G'.obj id=G.obj id
structure Step (E:Env) (B:Nat) (G:Gh) (m:Mu) (hp:Hp) (lc:List (List CV)) (w:World) (q:Res) (v:Value) (w':World) (G':Gh) (m':Mu):Prop where
 val:RT E G' m' q.v v
 heap:RH E G' B q.hp.f w'
 loc:RLc E G' B q.hp.f m' q.lc w'
 ext:Ext G G' q.hp.obs.length
 mext:(∀ k b,m k=some b→m' k=some b)∧∀ k,q.lc.length≤k→m' k=m k
 fr:Fr (fun b=>(Owned G hp.f b∨Loc m lc b)∧B≤b) w w'
 own:∀ b,Owned G' q.hp.f b→Owned G hp.f b∨w.heap.size≤b
 lown:∀ b,Loc m' q.lc b→Loc m lc b∨w.heap.size≤b
 grow:hp.obs.length≤q.hp.obs.length∧lc.length≤q.lc.length
 dead:DeadOk G G' hp q.hp
theorem REnts.ext {hi:Nat} (h:Ext G G' hi):∀ {ms:List ME} {es:List MapEntry},REnts E G ms es→REnts E G' ms es
 | [],es,r=>by simpa only [REnts] using r
 | x::ms,es,r=>by
  simp only [REnts] at r ⊢
  obtain ⟨e,rest,rfl,⟨h1,h2,h3⟩,h4⟩:=r
  exact ⟨e,rest,rfl,⟨RA.ext h h1,RA.ext h h2,h3⟩,REnts.ext h h4⟩
theorem RO.mono {hi id:Nat} {o:AO} (hx:Ext G G' hi) (hr:G'.rows id=G.rows id) (ho:G'.obj id=G.obj id) (hb:∀ b wr,Owns G id b wr o→w'.heap[b]? = w.heap[b]?) (h:RO E G B w id o):RO E G' B w' id o:=by
 cases o with
 | dead=>trivial
 | rows wr sz cur lw rs=>
  simp only [RO] at h ⊢
  obtain ⟨h1,h2,h3,h4,h5⟩:=h
  refine ⟨h1,by rw [hr];exact h2,by rw [hr];exact h3,?_,by rw [hr];exact h5⟩
  intro tok r hlw hg
  rw [hr] at hg
  have k:=h4 tok r hlw hg
  obtain ⟨cs,el,fz,k1,k2,k3,k4⟩:=k.cells
  refine ⟨k.size,k.len,k.lo,k.fit,k.width,cs,el,fz,?_,k2,k3,?_⟩
  ·rw [hb r.blk wr ⟨rfl,tok,r,hlw,hg,rfl⟩];exact k1
  ·intro i row j x g1 g2 g3 g4
   obtain ⟨v,hv,rv⟩:=k4 i row j x g1 g2 g3 g4
   exact ⟨v,hv,RC.ext hx rv⟩
 | map wr es clock=>
  simp only [RO] at h ⊢
  obtain ⟨b,re,h1,h2,h3,h4⟩:=h
  exact ⟨b,re,by rw [ho];exact h1,by rw [hb b wr ⟨rfl,h1⟩];exact h2,REnts.ext hx h3,h4⟩
 | siter s pos=>
  simp only [RO] at h ⊢
  obtain ⟨b,h1,h2,h3⟩:=h
  exact ⟨b,by rw [ho];exact h1,by rw [hb b true ⟨rfl,h1⟩];exact h2,h3⟩
 | miter mm since seen last=>
  simp only [RO] at h ⊢
  obtain ⟨b,h1,h2,rm,h3,h4⟩:=h
  refine ⟨b,by rw [ho];exact h1,h2,rm,by rw [hb b true ⟨rfl,h1⟩];exact h3,?_⟩
  cases mm with
  | none=>exact h4
  | some k=>
   obtain ⟨mb,g1,g2⟩:=h4
   exact ⟨mb,hx.obj _ _ g1,g2⟩
 | grow sz vs=>
  simp only [RO] at h ⊢
  obtain ⟨h1,h2,h3⟩:=h
  refine ⟨by rw [hr];exact h1,?_,by rw [hr];exact h3⟩
  intro tok r rs hv hg
  rw [hr] at hg
  obtain ⟨e1,e2,k⟩:=h2 tok r rs hv hg
  obtain ⟨cs,el,fz,k1,k2,k3,k4⟩:=k.cells
  refine ⟨e1,e2,k.size,k.len,k.lo,k.fit,k.width,cs,el,fz,?_,k2,k3,?_⟩
  ·rw [hb r.blk true ⟨rfl,tok,r,rs,hv,hg,rfl⟩];exact k1
  ·intro i row j x g1 g2 g3 g4
   obtain ⟨v,hv,rv⟩:=k4 i row j x g1 g2 g3 g4
   exact ⟨v,hv,RC.ext hx rv⟩
theorem Owns.lt {id b:Nat} {wr:Bool} {o:AO} (h:RO E G B w id o) (k:Owns G id b wr o):b<w.heap.size:=by
 cases o with
 | dead=>exact k.elim
 | rows wr' sz cur lw rs=>
  simp only [RO] at h
  obtain ⟨_,tok,r,hlw,hg,rfl⟩:=k
  obtain ⟨cs,el,fz,k1,_⟩:=(h.2.2.2.1 tok r hlw hg).cells
  exact lt_of_get k1
 | map wr' es clock=>
  simp only [RO] at h
  obtain ⟨b',re,h1,h2,_⟩:=h
  obtain ⟨_,k⟩:=k
  rw [h1] at k;injection k with k;subst k
  exact lt_of_get h2
 | siter s pos=>
  simp only [RO] at h
  obtain ⟨b',h1,h2,_⟩:=h
  obtain ⟨_,k⟩:=k
  rw [h1] at k;injection k with k;subst k
  exact lt_of_get h2
 | miter mm since seen last=>
  simp only [RO] at h
  obtain ⟨b',h1,_,rm,h2,_⟩:=h
  obtain ⟨_,k⟩:=k
  rw [h1] at k;injection k with k;subst k
  exact lt_of_get h2
 | grow sz vs=>
  simp only [RO] at h
  obtain ⟨_,tok,r,rs,hv,hg,rfl⟩:=k
  obtain ⟨cs,el,fz,k1,_⟩:=(h.2.1 tok r rs hv hg).2.2.cells
  exact lt_of_get k1
theorem Owned.lt {H:Hf} (h:RH E G B H w) {b:Nat} (k:Owned G H b):b<w.heap.size:=by
 obtain ⟨id,o,wr,h1,h2⟩:=k
 exact Owns.lt (h.each id o h1) h2
theorem Loc.lt {H:Hf} {lc:List (List CV)} (h:RLc E G B H m lc w) {b:Nat} (k:Loc m lc b):b<w.heap.size:=by
 obtain ⟨i,hi,hm⟩:=k
 obtain ⟨b',vs,el,fz,h1,h2,_⟩:=h.each i _ (List.getElem?_eq_getElem hi)
 rw [hm] at h1;injection h1 with h1;subst h1
 exact lt_of_get h2
theorem Owns.congr {id b:Nat} {wr:Bool} {o:AO} (hr:G'.rows id=G.rows id) (ho:G'.obj id=G.obj id):Owns G' id b wr o↔Owns G id b wr o:=by
 cases o <;> simp [Owns,hr,ho]
theorem RLc.keep {H H':Hf} {lc:List (List CV)} {hi:Nat} (h:RLc E G B H m lc w) (hx:Ext G G' hi) (hm:∀ k b,m k=some b→m' k=some b) (hb:∀ b,Loc m lc b→w'.heap[b]? = w.heap[b]?) (ho:∀ b,b<w.heap.size→Owned G' H' b→Owned G H b) :
 RLc E G' B H' m' lc w':=by
 have hlt:=fun b (k:Loc m lc b)=>Loc.lt h k
 constructor
 ·intro k cs hk
  obtain ⟨b,vs,el,fz,h1,h2,h3,h4,h5,h6⟩:=h.each k cs hk
  have hkl:k<lc.length:=by
   rcases Nat.lt_or_ge k lc.length with h'|h'
   ·exact h'
   ·simp [List.getElem?_eq_none h'] at hk
  have hl:Loc m lc b:=⟨k,hkl,h1⟩
  exact ⟨b,vs,el,fz,hm _ _ h1,by rw [hb b hl];exact h2,RL.ext hx h3,h4,fun h'=>h5 (ho b (hlt b hl) h'),h6⟩
 ·intro i j b hi hj h1 h2
  obtain ⟨bi,_,_,_,g1,_⟩:=h.each i _ (List.getElem?_eq_getElem hi)
  obtain ⟨bj,_,_,_,g2,_⟩:=h.each j _ (List.getElem?_eq_getElem hj)
  have e1:=hm _ _ g1
  have e2:=hm _ _ g2
  rw [h1] at e1;injection e1 with e1;subst e1
  rw [h2] at e2;injection e2 with e2;subst e2
  exact h.inj i j b hi hj g1 g2
theorem f_push (hp:Hp) (o:AO) (id:Nat):(hp.push o).f id=if id=hp.obs.length then some o else hp.f id:=by
 simp only [Hp.f,Hp.push,List.getElem?_append]
 split
 ·rw [if_neg (by omega)]
 ·rename_i h
  split
  ·subst_vars;simp
  ·have:(hp.obs)[id]? = none:=List.getElem?_eq_none (by omega)
   rw [this]
   have:id-hp.obs.length≠0:=by omega
   cases hq:id-hp.obs.length with
   | zero=>omega
   | succ n=>simp
theorem f_put (hp:Hp) (o:AO) (i id:Nat) (h:i<hp.obs.length):(hp.put i o).f id=if id=i then some o else hp.f id:=by
 simp only [Hp.f,Hp.put,List.getElem?_set]
 by_cases hq:i=id
 ·subst hq;simp [h]
 ·simp [hq,Ne.symm hq]
theorem f_lt {hp:Hp} {id:Nat} {o:AO} (h:hp.f id=some o):id<hp.obs.length:=by
 rcases Nat.lt_or_ge id hp.obs.length with h'|h'
 ·exact h'
 ·simp [Hp.f,List.getElem?_eq_none h'] at h
theorem dead_push {hp:Hp} {o:AO} (ho:o≠.dead) (hold:∀ id,id≠hp.obs.length→G'.rows id=G.rows id∧G'.obj id=G.obj id):DeadOk G G' hp (hp.push o):=by
 intro id h
 rw [f_push] at h
 split at h
 ·injection h with h;exact absurd h ho
 ·rename_i hne;exact ⟨.inl h,hold id hne⟩
theorem dead_put {hp:Hp} {i:Nat} {o o':AO} (hi:hp.f i=some o) (ho:o'≠.dead) (hold:∀ id,id≠i→G'.rows id=G.rows id∧G'.obj id=G.obj id):DeadOk G G' hp (hp.put i o'):=by
 intro id h
 rw [f_put _ _ _ _ (f_lt hi)] at h
 split at h
 ·injection h with h;exact absurd h ho
 ·rename_i hne;exact ⟨.inl h,hold id hne⟩
theorem push_ok {hp:Hp} {lc:List (List CV)} (hH:RH E G B hp.f w) (hL:RLc E G B hp.f m lc w) {o:AO} {ob:Obj}
 (hx:Ext G G' (hp.obs.length+1)) (hold:∀ id,id≠hp.obs.length→G'.rows id=G.rows id∧G'.obj id=G.obj id)
 (hro:RO E G' B (w.alloc ob) hp.obs.length o) (how:∀ b wr,Owns G' hp.obs.length b wr o→b=w.heap.size) :
 RH E G' B (hp.push o).f (w.alloc ob)∧RLc E G' B (hp.push o).f m lc (w.alloc ob)∧(∀ b,Owned G' (hp.push o).f b→Owned G hp.f b∨w.heap.size≤b)∧Fr (fun _=>False) w (w.alloc ob):=by
 have hblk:∀ b,b<w.heap.size→(w.alloc ob).heap[b]? = w.heap[b]?:=fun b hb=>Below.heap_alloc w ob b hb
 have hown:∀ b,Owned G' (hp.push o).f b→Owned G hp.f b∨b=w.heap.size:=by
  rintro b ⟨id,o',wr,h1,h2⟩
  rw [f_push] at h1
  split at h1
  ·injection h1 with h1
   subst h1
   rename_i he
   subst he
   exact .inr (how b wr h2)
  ·rename_i hne
   obtain ⟨e1,e2⟩:=hold id hne
   exact .inl ⟨id,o',wr,h1,(Owns.congr e1 e2).1 h2⟩
 refine ⟨⟨?_,?_,?_⟩,?_,?_,⟨rfl,rfl,rfl,by simp,fun b hb _=>hblk b hb⟩⟩
 ·intro id o' h1
  rw [f_push] at h1
  split at h1
  ·injection h1 with h1
   subst h1
   rename_i he
   subst he
   exact hro
  ·rename_i hne
   obtain ⟨e1,e2⟩:=hold id hne
   exact RO.mono hx e1 e2 (fun b wr hb=>hblk b (Owns.lt (hH.each id o' h1) hb)) (hH.each id o' h1)
 ·intro i j oi oj b wi wj h1 h2 h3 h4 hne
  rw [f_push] at h1 h2
  split at h1 <;> split at h2
  ·omega
  ·rename_i hi hj
   injection h1 with h1
   subst h1 hi
   have:=how b wi h3
   obtain ⟨e1,e2⟩:=hold j hj
   have:=Owns.lt (hH.each j oj h2) ((Owns.congr e1 e2).1 h4)
   omega
  ·rename_i hi hj
   injection h2 with h2
   subst h2 hj
   have:=how b wj h4
   obtain ⟨e1,e2⟩:=hold i hi
   have:=Owns.lt (hH.each i oi h1) ((Owns.congr e1 e2).1 h3)
   omega
  ·rename_i hi hj
   obtain ⟨e1,e2⟩:=hold i hi
   obtain ⟨e3,e4⟩:=hold j hj
   exact hH.apart i j oi oj b wi wj h1 h2 ((Owns.congr e1 e2).1 h3) ((Owns.congr e3 e4).1 h4) hne
 ·have:=hH.size;simp;omega
 ·refine hL.keep hx (fun _ _ h=>h) (fun b hb=>hblk b (Loc.lt hL hb)) (fun b hb ho=>?_)
  rcases hown b ho with h|h
  ·exact h
  ·omega
 ·intro b hb
  rcases hown b hb with h|h
  ·exact .inl h
  ·exact .inr (by omega)
theorem put_ok {hp:Hp} {lc:List (List CV)} {id:Nat} {o o':AO} (hH:RH E G B hp.f w) (hL:RLc E G B hp.f m lc w) (hid:hp.f id=some o)
 (hx:Ext G G' hp.obs.length) (hold:∀ j,j≠id→G'.rows j=G.rows j∧G'.obj j=G.obj j) (hsz:w.heap.size≤w'.heap.size)
 (hblk:∀ b,b<w.heap.size→¬Owns G id b true o→w'.heap[b]? = w.heap[b]?)
 (hro:RO E G' B w' id o') (how:∀ b wr,Owns G' id b wr o'→Owns G id b true o∨w.heap.size≤b) :
 RH E G' B (hp.put id o').f w'∧RLc E G' B (hp.put id o').f m lc w'∧(∀ b,Owned G' (hp.put id o').f b→Owned G hp.f b∨w.heap.size≤b):=by
 have hlt:=f_lt hid
 have hown:∀ b,Owned G' (hp.put id o').f b→Owned G hp.f b∨w.heap.size≤b:=by
  rintro b ⟨j,oj,wr,h1,h2⟩
  rw [f_put _ _ _ _ hlt] at h1
  split at h1
  ·injection h1 with h1
   subst h1
   rename_i he
   subst he
   rcases how b wr h2 with h|h
   ·exact .inl ⟨_,o,true,hid,h⟩
   ·exact .inr h
  ·rename_i hne
   obtain ⟨e1,e2⟩:=hold j hne
   exact .inl ⟨j,oj,wr,h1,(Owns.congr e1 e2).1 h2⟩
 have hother:∀ j oj b wr,j≠id→hp.f j=some oj→Owns G j b wr oj→w'.heap[b]? = w.heap[b]?:=by
  intro j oj b wr hne h1 h2
  refine hblk b (Owns.lt (hH.each j oj h1) h2) (fun h3=>?_)
  have:=(hH.apart id j o oj b true wr hid h1 h3 h2 (Ne.symm hne)).1
  simp at this
 refine ⟨⟨?_,?_,?_⟩,?_,hown⟩
 ·intro j oj h1
  rw [f_put _ _ _ _ hlt] at h1
  split at h1
  ·injection h1 with h1
   subst h1
   rename_i he
   subst he
   exact hro
  ·rename_i hne
   obtain ⟨e1,e2⟩:=hold j hne
   exact RO.mono hx e1 e2 (fun b wr hb=>hother j oj b wr hne h1 hb) (hH.each j oj h1)
 ·intro i j oi oj b wi wj h1 h2 h3 h4 hne
  rw [f_put _ _ _ _ hlt] at h1 h2
  split at h1 <;> split at h2
  ·omega
  ·rename_i hi hj
   injection h1 with h1
   subst h1 hi
   obtain ⟨e1,e2⟩:=hold j hj
   have h4':=(Owns.congr e1 e2).1 h4
   rcases how b wi h3 with h|h
   ·have:=(hH.apart _ j o oj b true wj hid h2 h h4' hne).1
    simp at this
   ·have:=Owns.lt (hH.each j oj h2) h4'
    omega
  ·rename_i hi hj
   injection h2 with h2
   subst h2 hj
   obtain ⟨e1,e2⟩:=hold i hi
   have h3':=(Owns.congr e1 e2).1 h3
   rcases how b wj h4 with h|h
   ·have:=(hH.apart _ i o oi b true wi hid h1 h h3' (Ne.symm hne)).1
    simp at this
   ·have:=Owns.lt (hH.each i oi h1) h3'
    omega
  ·rename_i hi hj
   obtain ⟨e1,e2⟩:=hold i hi
   obtain ⟨e3,e4⟩:=hold j hj
   exact hH.apart i j oi oj b wi wj h1 h2 ((Owns.congr e1 e2).1 h3) ((Owns.congr e3 e4).1 h4) hne
 ·have:=hH.size;omega
 ·refine hL.keep hx (fun _ _ h=>h) (fun b hb=>hblk b (Loc.lt hL hb) (fun h=>?_)) (fun b hb ho=>?_)
  ·obtain ⟨k,hk,hm⟩:=hb
   obtain ⟨b',vs,el,fz,h1,h2,h3,h4,h5,h6⟩:=hL.each k _ (List.getElem?_eq_getElem hk)
   rw [hm] at h1;injection h1 with h1;subst h1
   exact h5 ⟨id,o,true,hid,h⟩
  ·rcases hown b ho with h|h
   ·exact h
   ·omega
end
end
section
section
variable {P:Program} {E:Env} {G:Gh} {B:Nat} {m:Mu} {s:St} {a:Act} {w:World}
variable {call:CallF} {orc:Nat→Nat} {o:Oper} {q:Res}
def OpOk (P:Program) (E:Env) (B:Nat) (G:Gh) (m:Mu) (s:St) (a:Act) (w:World) (o:Oper) (q:Res):Prop:=
 Free G s.hp.obs.length q.hp.obs.length→FreeM m s.lc.length q.lc.length→
 ∃ n v w' G' m',(execOp a.eval o).run P w = .ok n w'∧(n = .value v∨(n = .skip∧v=undef))∧Step E B G m s.hp s.lc w q v w' G' m'
theorem PureOk.ok (hH:RH E G B s.hp.f w) (hL:RLc E G B s.hp.f m s.lc w) (h:PureOk P E G m s a w o q):OpOk P E B G m s a w o q:=by
 intro _ _
 obtain ⟨v,h1,h2,h3,h4⟩:=h
 refine ⟨_,v,w,G,m,h1,.inl rfl,⟨h4,by rw [h3];exact hH,by rw [h2,h3];exact hL,Ext.refl _ _,⟨fun _ _ h=>h,fun _ _=>rfl⟩,Fr.refl _ _,?_,?_,?_,?_⟩⟩
 ·rw [h3];exact fun b hb=>.inl hb
 ·rw [h2];exact fun b hb=>.inl hb
 ·rw [h2,h3];exact ⟨Nat.le_refl _,Nat.le_refl _⟩
 ·rw [h3];exact fun id h=>⟨.inl h,rfl,rfl⟩
theorem alloc_new (w:World) (o:Obj):(w.alloc o).heap[w.heap.size]? = some o:=by
 show (w.heap.push o)[w.heap.size]? = _
 simp
def gRows (G:Gh) (id:Nat) (r:Rec):Gh:={ G with rows:=fun i tok=>if i=id then (if tok=0 then some r else none) else G.rows i tok }
def gObj (G:Gh) (id b:Nat):Gh:={ G with obj:=fun i=>if i=id then some b else G.obj i }
theorem gRows_ext {id:Nat} (h:∀ tok,G.rows id tok=none) (r:Rec):Ext G (gRows G id r) (id+1):=by
 refine ⟨fun i tok r' e=>?_,fun i b e=>e,fun i hi=>?_⟩
 ·simp only [gRows]
  by_cases hi:i=id
  ·subst hi;rw [h] at e;simp at e
  ·rw [if_neg hi];exact e
 ·refine ⟨?_,rfl⟩
  funext tok
  simp only [gRows]
  rw [if_neg (by omega)]
theorem gObj_ext {id b:Nat} (h:G.obj id=none):Ext G (gObj G id b) (id+1):=by
 refine ⟨fun i tok r' e=>e,fun i b' e=>?_,fun i hi=>⟨rfl,?_⟩⟩
 ·simp only [gObj]
  by_cases hi:i=id
  ·subst hi;rw [h] at e;simp at e
  ·rw [if_neg hi];exact e
 ·simp only [gObj]
  rw [if_neg (by omega)]
theorem newRows {sz tot:Nat} {rs:List (List CV)} {cs:Array Value} {el:TypeId} {fz:Nat × Nat} (hH:RH E G B s.hp.f w) (hL:RLc E G B s.hp.f m s.lc w)
 (hfree:∀ tok,G.rows s.hp.obs.length tok=none) (hw:∀ row∈rs,row.length=sz) (hsz:cs.size=tot * sz) (hle:rs.length≤tot) (hfz:∀ o,o<cs.size→¬(fz.1≤o∧o<fz.2))
 (hr:RL E G rs.flatten (cs.toList.take (rs.length * sz))) :
 let G':=gRows G s.hp.obs.length ⟨w.heap.size,0,0,rs.length,sz,tot⟩
 let hp':=s.hp.push (.rows true sz 0 0 rs)
 RH E G' B hp'.f (w.alloc (.cells cs el fz))∧RLc E G' B hp'.f m s.lc (w.alloc (.cells cs el fz))∧(∀ b,Owned G' hp'.f b→Owned G s.hp.f b∨w.heap.size≤b)∧Fr (fun _=>False) w (w.alloc (.cells cs el fz))∧Ext G G' hp'.obs.length:=by
 intro G' hp'
 have hx:=gRows_ext hfree ⟨w.heap.size,0,0,rs.length,sz,tot⟩
 have hnew:=alloc_new w (.cells cs el fz)
 have hro:RO E G' B (w.alloc (.cells cs el fz)) s.hp.obs.length (.rows true sz 0 0 rs):=by
  simp only [RO]
  have hg:∀ tok,G'.rows s.hp.obs.length tok=if tok=0 then some ⟨w.heap.size,0,0,rs.length,sz,tot⟩ else none:=by
   intro tok;simp [G',gRows]
  refine ⟨Nat.le_refl _,⟨⟨w.heap.size,0,0,rs.length,sz,tot⟩,by rw [hg];simp,rfl⟩,?_,?_,?_⟩
  ·intro tok r h
   rw [hg] at h
   split at h <;> simp at h
   omega
  ·intro tok r _ h
   rw [hg] at h
   split at h <;> simp at h
   subst h
   refine ⟨rfl,Nat.le_refl _,Nat.zero_le _,by simpa using hle,fun i row _ h1 h2=>hw row (List.mem_of_getElem? h2),cs,el,fz,hnew,by simpa using Nat.le_of_eq hsz.symm,fun _=>⟨hH.size,hfz⟩,?_⟩
   intro i row j x _ hi hrow hx'
   have hrl:row.length=sz:=hw row (List.mem_of_getElem? hrow)
   have hj:j<sz:=by
    rcases Nat.lt_or_ge j row.length with h'|h'
    ·omega
    ·simp [List.getElem?_eq_none h'] at hx'
   have hflat:rs.flatten[i * sz+j]? = some x:=by
    have:∀ (l:List (List CV)) (i:Nat),(∀ r∈l,r.length=sz)→l[i]? = some row→l.flatten[i * sz+j]? = some x:=by
     intro l
     induction l with
     | nil=>intro i _ h;simp at h
     | cons y l ih=>
      intro i hl h
      cases i with
      | zero=>
       simp at h
       subst h
       simp [List.getElem?_append_left (show j<y.length by omega)]
       exact hx'
      | succ i=>
       have hy:y.length=sz:=hl y (by simp)
       rw [List.flatten_cons,List.getElem?_append_right (by rw [hy,Nat.add_mul];omega)]
       rw [show (i+1) * sz+j-y.length=i * sz+j by rw [hy,Nat.add_mul];omega]
       exact ih i (fun r hr=>hl r (by simp [hr])) (by simpa using h)
    exact this rs i hw hrow
   obtain ⟨v,hv,rv⟩:=hr.get hflat
   rw [List.getElem?_take] at hv
   split at hv
   ·refine ⟨v,?_,RC.ext hx rv⟩
    simp only [Rec.pos,Nat.sub_zero,Nat.zero_add]
    simpa using hv
   ·simp at hv
  ·intro t1 t2 r1 r2 _ _ h1 h2 _
   rw [hg] at h1 h2
   split at h1 <;> simp at h1
   split at h2 <;> simp at h2
   subst h1 h2
   exact ⟨rfl,rfl,rfl⟩
 have how:∀ b wr,Owns G' s.hp.obs.length b wr (.rows true sz 0 0 rs)→b=w.heap.size:=by
  rintro b wr ⟨_,tok,r,_,h,rfl⟩
  simp only [G',gRows,if_true] at h
  split at h <;> simp at h
  subst h
  rfl
 have hold:∀ id,id≠s.hp.obs.length→G'.rows id=G.rows id∧G'.obj id=G.obj id:=by
  intro id hid
  refine ⟨?_,rfl⟩
  funext tok
  simp [G',gRows,hid]
 obtain ⟨k1,k2,k3,k4⟩:=push_ok hH hL hx hold hro how
 refine ⟨k1,k2,k3,k4,?_⟩
 have:hp'.obs.length=s.hp.obs.length+1:=by simp [hp',Hp.push]
 rw [this]
 exact hx
theorem step_new {hp':Hp} {G':Gh} {w':World} {tv:TV} {v:Value} (h1:RH E G' B hp'.f w') (h2:RLc E G' B hp'.f m s.lc w') (h3:∀ b,Owned G' hp'.f b→Owned G s.hp.f b∨w.heap.size≤b) (h4:Fr (fun _=>False) w w')
 (h5:Ext G G' hp'.obs.length) (h6:s.hp.obs.length≤hp'.obs.length) (hv:RT E G' m tv v) (h7:DeadOk G G' s.hp hp'):Step E B G m s.hp s.lc w ⟨tv,s.lc,hp'⟩ v w' G' m:=
 ⟨hv,h1,h2,h5,⟨fun _ _ h=>h,fun _ _=>rfl⟩,h4.mono (fun _ h=>h.elim),h3,fun b hb=>.inl hb,⟨h6,Nat.le_refl _⟩,h7⟩
theorem newLocal {cs:List CV} {vs:Array Value} {el:TypeId} (hH:RH E G B s.hp.f w) (hL:RLc E G B s.hp.f m s.lc w) (hm:m s.lc.length=none) (hr:RL E G cs vs.toList) {tv:TV} {v:Value}
 (hv:RT E G (fun k=>if k=s.lc.length then some w.heap.size else m k) tv v) :
 Step E B G m s.hp s.lc w ⟨tv,s.lc++[cs],s.hp⟩ v (w.alloc (.cells vs el)) G (fun k=>if k=s.lc.length then some w.heap.size else m k):=by
 have hblk:∀ b,b<w.heap.size→(w.alloc (.cells vs el)).heap[b]? = w.heap[b]?:=fun b hb=>Below.heap_alloc w _ b hb
 have hnew:=alloc_new w (.cells vs el)
 refine ⟨hv,⟨?_,hH.apart,by have:=hH.size;simp;omega⟩,⟨?_,?_⟩,Ext.refl _ _,⟨?_,?_⟩,⟨rfl,rfl,rfl,by simp,fun b hb _=>hblk b hb⟩,fun b hb=>.inl hb,?_,⟨Nat.le_refl _,by simp⟩,fun id h=>⟨.inl h,rfl,rfl⟩⟩
 ·intro id ob h1
  exact RO.mono (Ext.refl G 0) rfl rfl (fun b wr hb=>hblk b (Owns.lt (hH.each id ob h1) hb)) (hH.each id ob h1)
 ·intro k cs' hk
  rw [List.getElem?_append] at hk
  split at hk
  ·rename_i hlt
   obtain ⟨b,vs',el',fz,h1,h2,h3,h4,h5,h6⟩:=hL.each k cs' hk
   refine ⟨b,vs',el',fz,by rw [if_neg (by omega)];exact h1,by rw [hblk b (lt_of_get h2)];exact h2,h3,h4,h5,h6⟩
  ·rename_i hge
   have hk0:k=s.lc.length:=by
    rcases Nat.lt_or_ge (k-s.lc.length) 1 with h'|h'
    ·omega
    ·rw [List.getElem?_eq_none (by simpa using h')] at hk;simp at hk
   subst hk0
   simp at hk
   subst hk
   refine ⟨w.heap.size,vs,el,(0,0),by simp,hnew,hr,hH.size,?_,by intros;omega⟩
   intro ho
   have:=Owned.lt hH ho
   omega
 ·intro i j b hi hj h1 h2
  simp only [List.length_append,List.length_singleton] at hi hj
  have key:∀ k,k<s.lc.length→m k=some w.heap.size→False:=by
   intro k hk hmk
   have:=Loc.lt hL ⟨k,hk,hmk⟩
   omega
  split at h1 <;> split at h2
  ·omega
  ·injection h1 with h1
   subst h1
   exact (key j (by omega) h2).elim
  ·injection h2 with h2
   subst h2
   exact (key i (by omega) h1).elim
  ·exact hL.inj i j b (by omega) (by omega) h1 h2
 ·intro k b h
  show (if k=s.lc.length then some w.heap.size else m k)=some b
  rw [if_neg (by rintro rfl;rw [hm] at h;simp at h)]
  exact h
 ·intro k hk
  simp only [List.length_append,List.length_singleton] at hk
  show (if k=s.lc.length then some w.heap.size else m k)=m k
  rw [if_neg (by omega)]
 ·rintro b ⟨k,hk,h⟩
  simp only [List.length_append,List.length_singleton] at hk
  replace h:(if k=s.lc.length then some w.heap.size else m k)=some b:=h
  split at h
  ·injection h with h
   exact .inr (by omega)
  ·exact .inl ⟨k,by omega,h⟩
theorem run_newRow (el:TypeId) (cs:Array Value) (w:World):(newRow el cs).run P w = .ok ⟨w.heap.size,0,none⟩ (w.alloc (.cells cs el)):=by
 rfl
theorem box_ok {loc:Bool} {sz:Nat} {el:TypeId} {x:AV} {v:Value} (hH:RH E G B s.hp.f w) (hL:RLc E G B s.hp.f m s.lc w) (hx:RA E G x v) (hnt:∀ l,x≠.tup l) (hlen:x.cells.length=sz)
 (hrun:(execOp a.eval o).run P w = .ok (.value (.pointer (some ⟨w.heap.size,0,none⟩))) (w.alloc (.cells v.cells el))):OpOk P E B G m s a w o (boxTo loc s.lc s.hp sz x.cells):=by
 intro hf hfm
 have rc:=hx.cells hnt
 cases loc with
 | true=>
  simp only [boxTo,if_true] at hfm ⊢
  have hm:m s.lc.length=none:=hfm _ (Nat.le_refl _) (by simp)
  refine ⟨_,_,_,_,_,hrun,.inl rfl,newLocal hH hL hm rc ?_⟩
  simp only [RT]
  exact ⟨w.heap.size,by simp,rfl⟩
 | false=>
  simp only [boxTo,Bool.false_eq_true,if_false] at hf ⊢
  have hfree:=(hf s.hp.obs.length (Nat.le_refl _) (by simp [Hp.push])).1
  have hl:=rc.length
  obtain ⟨k1,k2,k3,k4,k5⟩:=newRows (sz:=sz) (tot:=1) (rs:=[x.cells]) (cs:=v.cells) (el:=el) (fz:=(0,0)) hH hL hfree (by simp [hlen]) (by simp at hl;omega) (by simp) (by intros;omega)
   (by simp only [List.flatten_cons,List.flatten_nil,List.append_nil,List.length_singleton,Nat.one_mul];rw [List.take_of_length_le (by omega)];exact rc)
  refine ⟨_,_,_,_,_,hrun,.inl rfl,step_new k1 k2 k3 k4 k5 (by simp [Hp.push]) ?_ (dead_push (by simp) (fun id hid=>⟨by funext tok;simp [gRows,hid],rfl⟩))⟩
  simp only [ptrTo,RT,RA,RC]
  exact ⟨⟨w.heap.size,0,0,1,sz,1⟩,by simp [gRows],Nat.le_refl _,Nat.zero_lt_one,by simp [Rec.pos]⟩
theorem op_alloc (hH:RH E G B s.hp.f w) (hL:RLc E G B s.hp.f m s.lc w) {t:TypeId} {z:AV} {n:Nat} {loc:Bool} (ho:o.op = .alloc t) (hz:zeroOf P t=some z)
 (hn:nop call orc s (.box loc n (.c z))=some q):OpOk P E B G m s a w o q:=by
 obtain ⟨zv,hzv,rz,hnt,_⟩:=run_zero hz w
 simp only [nop,Option.bind_eq_some_iff] at hn
 obtain ⟨x,hx,hn⟩:=hn
 split at hn <;> simp at hn
 rename_i hlen
 subst hn
 have hxz:x=z:=by
  simp only [NX.ev] at hx
  cases z <;> simp [asV] at hx <;> exact hx.symm
 subst hxz
 exact box_ok (el:=t) (v:=zv) hH hL (rz E G) hnt hlen (by simp [execOp,ho,Instr.alloc,hzv,newVar,run_newRow])
theorem op_box (ht:RTm E G m s.tm a.tmps) (hH:RH E G B s.hp.f w) (hL:RLc E G B s.hp.f m s.lc w) {t:TypeId} {y:Operand} {ny:NX} {n:Nat} {loc:Bool} (ho:o.op = .box t y) (hy:compX E.rn y=some ny)
 (hn:nop call orc s (.box loc n ny)=some q):OpOk P E B G m s a w o q:=by
 simp only [nop,Option.bind_eq_some_iff] at hn
 obtain ⟨x,hx,hn⟩:=hn
 split at hn <;> simp at hn
 rename_i hlen
 subst hn
 obtain ⟨rx,hnt⟩:=asV_rel hx (compX_rel ht hy)
 exact box_ok (el:=t) hH hL rx hnt hlen (by simp [execOp,ho,Instr.box,newVar,run_newRow])
theorem op_mkmap (hH:RH E G B s.hp.f w) (hL:RLc E G B s.hp.f m s.lc w) {t:TypeId} (ho:o.op = .makeMap t none) (hn:nop call orc s .mkmap=some q):OpOk P E B G m s a w o q:=by
 simp only [nop,Option.some.injEq] at hn
 subst hn
 intro hf hfm
 have hfree:=(hf s.hp.obs.length (Nat.le_refl _) (by simp [Hp.push])).2
 have hx:=gObj_ext (b:=w.heap.size) hfree
 have hnew:=alloc_new w (.map #[] 0)
 obtain ⟨k1,k2,k3,k4⟩:=push_ok (o:=.map true [] 0) (ob:=.map #[] 0) hH hL hx (fun id hid=>⟨rfl,by simp [gObj,hid]⟩)
  (by simp only [RO];exact ⟨w.heap.size,#[],by simp [gObj],hnew,by simp [REnts],fun _=>hH.size⟩)
  (by rintro b wr ⟨_,h⟩;simp [gObj] at h;exact h.symm)
 refine ⟨_,.map (some w.heap.size),_,_,_,by simp [execOp,ho,Instr.makeMap],.inl rfl,step_new k1 k2 k3 k4 (by simpa [Hp.push] using hx) (by simp [Hp.push]) ?_ (dead_push (by simp) (fun id hid=>⟨rfl,by simp [gObj,hid]⟩))⟩
 simp only [RT,RA,RC]
 exact ⟨w.heap.size,by simp [gObj],rfl⟩
end
end
section
section
variable {P:Program} {E:Env} {G:Gh} {B:Nat} {m:Mu} {s:St} {a:Act} {w:World}
variable {call:CallF} {orc:Nat→Nat} {o:Oper} {q:Res}
theorem range0:Array.range 0 = #[]:=rfl
theorem repl_get {cs:List CV} {sz:Nat} (hs:cs.length=sz):∀ (n i:Nat) (c:CV),(List.replicate n cs).flatten[i]? = some c→i<n * sz∧cs[i % sz]? = some c:=by
 intro n
 induction n with
 | zero=>intro i c h;simp at h
 | succ n ih=>
  intro i c h
  rw [List.replicate_succ,List.flatten_cons,List.getElem?_append] at h
  rw [Nat.add_mul]
  split at h
  ·rename_i hi
   exact ⟨by omega,by rw [Nat.mod_eq_of_lt (by omega)];exact h⟩
  ·rename_i hi
   obtain ⟨h1,h2⟩:=ih _ _ h
   refine ⟨by omega,?_⟩
   rw [hs] at h2
   rwa [show i % sz=(i-sz) % sz from by rw [Nat.mod_eq_sub_mod (by omega)]]
theorem repl_rel {cs:List CV} {zero:Array Value} {sz:Nat} (h:RL E G cs zero.toList) (hs:cs.length=sz) (n:Nat):RL E G (List.replicate n cs).flatten ((Array.range (n * sz)).map (zero[· % zero.size]!)).toList:=by
 have hl:=h.length
 simp only [Array.length_toList] at hl
 refine RL.mk (by simp [hs]) (fun i c hc=>?_)
 obtain ⟨h1,h2⟩:=repl_get hs n i c hc
 obtain ⟨u,hu,ru⟩:=h.get h2
 refine ⟨u,?_,ru⟩
 simp only [Array.toList_map,List.getElem?_map,Array.toList_range,List.getElem?_range h1,Option.map_some,Option.some.injEq]
 rw [hl,hs]
 have hlt:i % sz<zero.size:=by
  rcases Nat.lt_or_ge (i % sz) zero.size with h'|h'
  ·exact h'
  ·simp [Array.getElem?_eq_none h'] at hu
 rw [getElem!_pos zero (i % sz) hlt]
 rw [Array.getElem?_toList,Array.getElem?_eq_getElem hlt] at hu
 injection hu
theorem op_bslice (ht:RTm E G m s.tm a.tmps) (hH:RH E G B s.hp.f w) (hL:RLc E G B s.hp.f m s.lc w) {t e:TypeId} {ps:Array (Nat × Operand)} {z:AV} {n sz:Nat} {loc:Bool} {nps:List (Nat × Nat × NX)} (ho:o.op = .buildSlice t n ps)
 (hu:P.underlying t=some (.slice e)) (hz:zeroOf P e=some z) (hs:szOf P e=some sz) (hle:n * sz≤65536) (hpos:0<sz) (hp:partsOf E.rn (fun i=>some (i * sz,sz)) ps.toList=some nps)
 (hn:nop call orc s (.bslice loc sz n z.cells nps)=some q):OpOk P E B G m s a w o q:=by
 simp only [nop,Option.bind_eq_some_iff,Option.map_eq_some_iff] at hn
 obtain ⟨l,hl,cs,hcs,rfl⟩:=hn
 obtain ⟨zv,hzv,rz,hnt,hzl⟩:=run_zero hz w
 rw [hs] at hzl
 injection hzl with hzl
 have rzc:=(rz E G).cells hnt
 have hrep:=repl_rel rzc hzl.symm n
 obtain ⟨us,hus,rus⟩:=fill_ok ps.toList nps l _ cs _ ht hp hl hrep hcs
 have hrun:(execOp a.eval o).run P w = .ok (.value (.slice (some ⟨w.heap.size,0,none⟩) n n)) (w.alloc (.cells us e)):=by
  simp only [execOp,ho,Instr.buildSlice,Sem.run_bind,run_und hu,Result.andThen_ok,run_size hs]
  rw [if_neg (by omega)]
  simp only [Sem.run_bind,Sem.run_pure,Result.andThen_ok,pure_bind,Array.toList_map]
  by_cases h0:n * sz=0
  ·rw [if_pos h0]
   rw [h0] at hus
   simp only [range0,Array.map_empty] at hus
   simp only [h0,range0,Array.map_empty,hus,Sem.run_bind,run_newRow,Sem.run_pure,Result.andThen_ok]
  ·rw [if_neg h0]
   simp only [Sem.run_bind,hzv,Result.andThen_ok,hus,run_newRow,Sem.run_pure]
 have hlen:cs.length=n * sz:=by
  have:∀ (l:List (Nat × Nat × AV)) (x y:List CV),fillCells x l=some y→y.length=x.length:=by
   intro l
   induction l with
   | nil=>intro x y h;simp [fillCells] at h;rw [h]
   | cons p l ih=>
    intro x y h
    obtain ⟨o1,s1,v1⟩:=p
    simp only [fillCells] at h
    split at h
    ·rename_i hc
     rw [ih _ _ h]
     simp [splice]
     omega
    ·simp at h
  rw [this l _ _ hcs]
  simp [←hzl]
 intro hf hfm
 cases loc with
 | true=>
  simp only [if_true] at hfm ⊢
  have hm:m s.lc.length=none:=hfm _ (Nat.le_refl _) (by simp)
  refine ⟨_,_,_,_,_,hrun,.inl rfl,newLocal hH hL hm rus ?_⟩
  simp only [RT]
  exact ⟨w.heap.size,by simp,rfl⟩
 | false=>
  simp only [Bool.false_eq_true,if_false] at hf ⊢
  have hfree:=(hf s.hp.obs.length (Nat.le_refl _) (by simp [Hp.push])).1
  obtain ⟨c1,c2,c3⟩:=chunks_flatten sz n cs hlen
  have hul:=rus.length
  simp only [Array.length_toList] at hul
  obtain ⟨k1,k2,k3,k4,k5⟩:=newRows (sz:=sz) (tot:=n) (rs:=chunks sz n cs) (cs:=us) (el:=e) (fz:=(0,0)) hH hL hfree c3 (by omega) (by omega) (by intros;omega)
   (by rw [c1,c2];rw [List.take_of_length_le (by simp;omega)];exact rus)
  refine ⟨_,_,_,_,_,hrun,.inl rfl,step_new k1 k2 k3 k4 k5 (by simp [Hp.push]) ?_ (dead_push (by simp) (fun id hid=>⟨by funext tok;simp [gRows,hid],rfl⟩))⟩
  simp only [RT,RA,RC]
  refine ⟨⟨w.heap.size,0,0,n,sz,n⟩,⟨w.heap.size,0,none⟩,n,by simp [gRows,c2],Nat.le_refl _,by simp,rfl,.inl (by simp [Rec.pos]),Nat.le_refl _,?_⟩
  simp
theorem wrap_id {n:Int} (h0:0≤n) (h:n≤70368744177664):IntKind.i64.wrap n=n:=IntWalk.i64_in _ (by omega)
theorem op_mkslice (ht:RTm E G m s.tm a.tmps) (hH:RH E G B s.hp.f w) (hL:RLc E G B s.hp.f m s.lc w) {t e:TypeId} {x y:Operand} {nx ny:NX} {z:AV} {i:TypeInfo} (ho:o.op = .makeSlice t x y)
 (hu:P.underlying t=some (.slice e)) (hz:zeroOf P e=some z) (hi:P.info? e=some i) (hpos:0<i.size) (hx:compX E.rn x=some nx) (hy:compX E.rn y=some ny)
 (hn:nop call orc s (.mkslice i.size i.bytes z.cells nx ny)=some q):OpOk P E B G m s a w o q:=by
 simp only [nop,Option.bind_eq_some_iff] at hn
 obtain ⟨l,hl,c,hc,hn⟩:=hn
 split at hn <;> simp at hn
 rename_i hb
 obtain ⟨h0,h1,h2,h3⟩:=hb
 subst hn
 have rl:=asI_rel hl (compX_rel ht hx)
 have rc:=asI_rel hc (compX_rel ht hy)
 obtain ⟨zv,hzv,rz,hnt,hzl⟩:=run_zero hz w
 have hs:szOf P e=some i.size:=by simp [szOf,hi]
 rw [hs] at hzl
 injection hzl with hzl
 have rzc:=(rz E G).cells hnt
 obtain ⟨ln,hln⟩:=Int.eq_ofNat_of_zero_le h0
 obtain ⟨cn,hcn⟩:=Int.eq_ofNat_of_zero_le (Int.le_trans h0 h1)
 have hrep:=repl_rel rzc hzl.symm cn
 have hrun:(execOp a.eval o).run P w = .ok (.value (.slice (some ⟨w.heap.size,0,none⟩) ln cn)) (w.alloc (.cells ((Array.range (cn * i.size)).map (zv.cells[· % zv.cells.size]!)) e)):=by
  have e1:l.2=(ln:Int):=hln
  have e2:c.2=(cn:Int):=hcn
  have w1:IntKind.i64.wrap (ln:Int)=ln:=wrap_id (by omega) (by omega)
  have w2:IntKind.i64.wrap (cn:Int)=cn:=wrap_id (by omega) (by omega)
  have hbig:¬((i.bytes:Int) * (cn:Int) > 2 ^ 48):=by rw [Int.mul_comm];rw [e2] at h2;omega
  simp only [execOp,ho,Instr.makeSlice,Sem.run_bind,run_und hu,Result.andThen_ok,rl,rc,asInt,asIntOf,Sem.run_pure,e1,e2,typeInfo,run_program,hi,w1,w2]
  rw [if_neg (by
   simp only [Bool.or_eq_true,decide_eq_true_eq,not_or]
   refine ⟨⟨⟨by omega,hbig⟩,by omega⟩,by omega⟩)]
  simp only [Sem.run_bind,run_askRoom,Result.andThen_ok,run_size hs,Int.toNat_natCast]
  by_cases h0:cn * i.size=0
  ·rw [if_pos h0]
   simp only [h0,range0,Array.map_empty,Sem.run_bind,run_newRow,Sem.run_pure,Result.andThen_ok,pure_bind]
  ·rw [if_neg h0]
   simp only [Sem.run_bind,hzv,Result.andThen_ok,run_newRow,Sem.run_pure]
 intro hf hfm
 simp only at hf ⊢
 have hfree:=(hf s.hp.obs.length (Nat.le_refl _) (by simp [Hp.push])).1
 have hw:∀ row∈List.replicate cn z.cells,row.length=i.size:=by
  intro row hr
  rw [List.eq_of_mem_replicate hr,hzl]
 obtain ⟨k1,k2,k3,k4,k5⟩:=newRows (sz:=i.size) (tot:=cn) (rs:=List.replicate cn z.cells) (cs:=(Array.range (cn * i.size)).map (zv.cells[· % zv.cells.size]!)) (el:=e) (fz:=(0,0)) hH hL hfree hw (by simp) (by simp) (by intros;omega)
  (by rw [List.take_of_length_le (by simp)];exact hrep)
 have hct:c.2.toNat=cn:=by omega
 have hlt:l.2.toNat=ln:=by omega
 rw [hct,hlt]
 refine ⟨_,_,_,_,_,hrun,.inl rfl,step_new k1 k2 k3 k4 k5 (by simp [Hp.push]) ?_ (dead_push (by simp) (fun id hid=>⟨by funext tok;simp [gRows,hid],rfl⟩))⟩
 simp only [RT,RA,RC]
 refine ⟨⟨w.heap.size,0,0,cn,i.size,cn⟩,⟨w.heap.size,0,none⟩,cn,by simp [gRows],Nat.le_refl _,by simp;omega,rfl,.inl (by simp [Rec.pos]),by omega,?_⟩
 simp
end
end
section
section
variable {P:Program} {E:Env} {G:Gh} {B:Nat} {m:Mu} {s:St} {a:Act} {w w1:World}
variable {call:CallF} {orc:Nat→Nat} {o:Oper} {q:Res}
theorem RO.same {id:Nat} {ob:AO} (he:w1.heap=w.heap) (h:RO E G B w id ob):RO E G B w1 id ob:=
 RO.mono (Ext.refl G 0) rfl rfl (fun b _ _=>by rw [he]) h
theorem RH.same {H:Hf} (he:w1.heap=w.heap) (h:RH E G B H w):RH E G B H w1:=
 ⟨fun id ob h1=>RO.same he (h.each id ob h1),h.apart,by rw [he];exact h.size⟩
theorem RLc.same {H:Hf} {lc:List (List CV)} (he:w1.heap=w.heap) (h:RLc E G B H m lc w):RLc E G B H m lc w1:=
 ⟨fun k cs hk=>by rw [he];exact h.each k cs hk,h.inj⟩
theorem Step.same {hp:Hp} {lc:List (List CV)} {v:Value} {w':World} {G':Gh} {m':Mu} (he:w1.heap=w.heap) (ho:w1.os=w.os) (ht:w1.tape=w.tape) (hu:w1.output=w.output)
 (h:Step E B G m hp lc w1 q v w' G' m'):Step E B G m hp lc w q v w' G' m':=
 ⟨h.val,h.heap,h.loc,h.ext,h.mext,⟨h.fr.os.trans ho,h.fr.tape.trans ht,h.fr.output.trans hu,by rw [←he];exact h.fr.size,fun b hb hn=>by rw [←he];exact h.fr.block b (by rw [he];exact hb) hn⟩,
  by rw [←he];exact h.own,by rw [←he];exact h.lown,h.grow,h.dead⟩
theorem freeze_alloc (w:World) (cs:Array Value) (el:TypeId) (n:Nat):(w.alloc (.cells cs el)).freeze ⟨w.heap.size,n,none⟩ 1=w.alloc (.cells cs el (n,n+1)):=by
 have:(w.heap.push (.cells cs el)).modify w.heap.size (fun
  | .cells c elem (lo,hi)=>.cells c elem (if lo == hi then (n,n+1) else (min lo n,max hi (n+1)))
  | o=>o)=w.heap.push (.cells cs el (n,n+1)):=by
  apply Array.ext_getElem?
  intro k
  rw [Array.getElem?_modify,Array.getElem?_push,Array.getElem?_push]
  by_cases hk:k=w.heap.size
  ·subst hk;simp
  ·simp [hk,Ne.symm hk]
 unfold World.freeze
 rw [if_neg (by omega)]
 exact congrArg (fun h=>({ w with heap:=h }:World)) this
theorem run_mark (cs:Array Value) (el:TypeId) (w:World):(markStringish ⟨w.heap.size,0,none⟩).run P (w.alloc (.cells cs el)) = .ok () (w.alloc (.cells cs el (cs.size,cs.size+1))):=by
 have hn:=alloc_new w (.cells cs el)
 have hs:(w.alloc (.cells cs el)).shape? w.heap.size=some (el,cs.size):=by unfold World.shape?;rw [hn]
 unfold markStringish
 simp only [Sem.run_bind,run_shape,hs,Result.andThen_ok]
 exact congrArg (Result.ok ()) (freeze_alloc w cs el cs.size)
theorem cap_ge (need old:Nat) (el:TypeId) (t:Nat):need≤(Question.appendCap need old el).cut t:=by
 simp only [Question.cut];omega
theorem runesFrom_eq (b:ByteArray):∀ (n i:Nat) (acc:Array Value),(Conv.runesFrom b n i acc).toList=acc.toList++(runesOf b n i).map fun r=>match r with | [.int k x]=>Value.int k x|_=>undef:=by
 intro n
 induction n with
 | zero=>intro i acc;simp [Conv.runesFrom,runesOf]
 | succ n ih=>
  intro i acc
  simp only [Conv.runesFrom,runesOf]
  split
  ·rw [ih];simp
  ·simp
theorem runesOf_rel (b:ByteArray):∀ (n i:Nat),RL E G (runesOf b n i).flatten ((runesOf b n i).map fun r=>match r with | [.int k x]=>Value.int k x|_=>undef)∧∀ row∈runesOf b n i,row.length=1:=by
 intro n
 induction n with
 | zero=>intro i;simp [runesOf,RL]
 | succ n ih=>
  intro i
  simp only [runesOf]
  split
  ·obtain ⟨h1,h2⟩:=ih (i+(Utf8.decode b i).2)
   refine ⟨?_,?_⟩
   ·simp only [List.flatten_cons,List.cons_append,List.nil_append,List.map_cons,RL]
    exact ⟨_,_,rfl,by simp only [RC],h1⟩
   ·intro row hr
    rcases List.mem_cons.1 hr with rfl|hr
    ·rfl
    ·exact h2 row hr
  ·simp [RL]
theorem fromStr_ok {e:TypeId} {rs:List (List CV)} {els:Array Value} {pad:Value} (hH:RH E G B s.hp.f w) (hL:RLc E G B s.hp.f m s.lc w) (hr:RL E G rs.flatten els.toList) (hw:∀ row∈rs,row.length=1) {cap:Nat} (hcap:rs.length≤cap) {w1:World}
 {fz:Nat × Nat} (hfz:fz=(0,0)∨fz=(cap,cap+1)) (he:w1.heap=w.heap) (ho:w1.os=w.os) (ht:w1.tape=w.tape) (hu:w1.output=w.output)
 (hrun:(execOp a.eval o).run P w = .ok (.value (.slice (some ⟨w1.heap.size,0,none⟩) rs.length cap)) (w1.alloc (.cells (els++Array.replicate (cap-rs.length) pad) e fz))) :
 OpOk P E B G m s a w o ⟨.v (.c (.sl s.hp.obs.length 0 0 rs.length none)),s.lc,s.hp.push (.rows true 1 0 0 rs)⟩:=by
 intro hf hfm
 have hfree:=(hf s.hp.obs.length (Nat.le_refl _) (by simp [Hp.push])).1
 have hl:=hr.length
 rw [flat_len hw] at hl
 simp only [Array.length_toList,Nat.mul_one] at hl
 obtain ⟨k1,k2,k3,k4,k5⟩:=newRows (sz:=1) (tot:=cap) (rs:=rs) (cs:=els++Array.replicate (cap-rs.length) pad) (el:=e) (fz:=fz) (RH.same he hH) (RLc.same he hL) hfree hw (by simp;omega) hcap
  (by rcases hfz with rfl|rfl <;> simp <;> intros <;> omega)
  (by
   simp only [Nat.mul_one,Array.toList_append]
   rw [List.take_append_of_le_length (by simp;omega),List.take_of_length_le (by simp;omega)]
   exact hr)
 refine ⟨_,_,_,_,_,hrun,.inl rfl,Step.same he ho ht hu (step_new k1 k2 k3 k4 k5 (by simp [Hp.push]) ?_ (dead_push (by simp) (fun id hid=>⟨by funext tok;simp [gRows,hid],rfl⟩)))⟩
 simp only [RT,RA,RC]
 refine ⟨⟨w1.heap.size,0,0,rs.length,1,cap⟩,⟨w1.heap.size,0,none⟩,cap,by simp [gRows],Nat.le_refl _,by simp,rfl,.inl (by simp [Rec.pos]),hcap,?_⟩
 simp
theorem op_strToBytes (ht:RTm E G m s.tm a.tmps) (hH:RH E G B s.hp.f w) (hL:RLc E G B s.hp.f m s.lc w) {src dst e:TypeId} {x:Operand} {nx:NX} (ho:o.op = .convert src dst x) (hx:compX E.rn x=some nx)
 (h1:P.underlying src=some .string) (h2:P.underlying dst=some (.slice e)) (he:P.underlying e=some (.int .u8)) (hn:nop call orc s (.conv .strToBytes nx)=some q):OpOk P E B G m s a w o q:=by
 have r:=compX_rel ht hx
 simp only [nop] at hn
 generalize hev:nx.ev s.tm=tv at hn r
 unfold convV at hn
 split at hn <;> simp_all
 rename_i b
 subst hn
 simp only [RT,RA,RC] at r
 have hbl:(bytesRows b).length=b.size:=by simp [bytesRows,bytes_len]
 have hrl:RL E G (bytesRows b).flatten (b.data.map fun c=>Value.int .u8 c.toNat).toList:=by
  have:∀ l:List UInt8,RL E G (l.map fun b=>[CV.int .u8 b.toNat]).flatten (l.map fun b=>Value.int .u8 b.toNat):=by
   intro l
   induction l with
   | nil=>simp [RL]
   | cons c l ih=>
    simp only [List.map_cons,List.flatten_cons,List.cons_append,List.nil_append,RL]
    exact ⟨_,_,rfl,by simp only [RC],ih⟩
  simpa [bytesRows] using this b.data.toList
 have hw:∀ row∈bytesRows b,row.length=1:=by
  intro row hr
  simp only [bytesRows,List.mem_map] at hr
  obtain ⟨c,_,rfl⟩:=hr
  rfl
 have hcap:=cap_ge b.size 0 e (w.tape w.drawn (.appendCap b.size 0 e))
 have:=fromStr_ok (P:=P) (E:=E) (G:=G) (B:=B) (m:=m) (s:=s) (a:=a) (o:=o) (e:=e) (pad:=.int .u8 0) hH hL hrl hw (cap:=(Question.appendCap b.size 0 e).cut (w.tape w.drawn (.appendCap b.size 0 e))) (by rw [hbl];exact hcap)
  (w1:={ w with drawn:=w.drawn+1 }) (.inr rfl) rfl rfl rfl rfl (by
   rw [hbl]
   have hsz:((b.data.map fun (c:UInt8)=>Value.int .u8 c.toNat)++Array.replicate ((Question.appendCap b.size 0 e).cut (w.tape w.drawn (.appendCap b.size 0 e))-b.size) (Value.int .u8 0)).size=(Question.appendCap b.size 0 e).cut (w.tape w.drawn (.appendCap b.size 0 e)):=by
    have:b.data.size=b.size:=rfl
    simp only [Array.size_append,Array.size_map,Array.size_replicate,this]
    omega
   simp only [execOp,ho,convert,Sem.run_bind,run_und h1,run_und h2,run_und he,Result.andThen_ok,r,Conv.stringToBytes,run_choose,Question.forced,Bool.false_eq_true,if_false,run_newRow]
   have hmk:=run_mark (P:=P) ((b.data.map fun (c:UInt8)=>Value.int .u8 c.toNat)++Array.replicate ((Question.appendCap b.size 0 e).cut (w.tape w.drawn (.appendCap b.size 0 e))-b.size) (Value.int .u8 0)) e { w with drawn:=w.drawn+1 }
   rw [hsz] at hmk
   simp only at hmk ⊢
   rw [hmk]
   rfl)
 rw [hbl] at this
 exact this
theorem op_strToRunes (ht:RTm E G m s.tm a.tmps) (hH:RH E G B s.hp.f w) (hL:RLc E G B s.hp.f m s.lc w) {src dst e:TypeId} {x:Operand} {nx:NX} (ho:o.op = .convert src dst x) (hx:compX E.rn x=some nx)
 (h1:P.underlying src=some .string) (h2:P.underlying dst=some (.slice e)) (he:P.underlying e=some (.int .i32)) (hn:nop call orc s (.conv .strToRunes nx)=some q):OpOk P E B G m s a w o q:=by
 have r:=compX_rel ht hx
 simp only [nop] at hn
 generalize hev:nx.ev s.tm=tv at hn r
 unfold convV at hn
 split at hn <;> simp_all
 rename_i b
 subst hn
 simp only [RT,RA,RC] at r
 obtain ⟨hrl,hw⟩:=runesOf_rel (E:=E) (G:=G) b b.size 0
 have hel:(Conv.runesFrom b b.size 0 #[]).toList=(runesOf b b.size 0).map fun r=>match r with | [.int k x]=>Value.int k x|_=>undef:=by
  have:=runesFrom_eq b b.size 0 #[]
  simpa using this
 have hes:(Conv.runesFrom b b.size 0 #[]).size=(runesOf b b.size 0).length:=by
  rw [←Array.length_toList,hel,List.length_map]
 rw [←hel] at hrl
 have hcap:=cap_ge (runesOf b b.size 0).length 0 e (w.tape w.drawn (.appendCap (runesOf b b.size 0).length 0 e))
 exact fromStr_ok (P:=P) (E:=E) (G:=G) (B:=B) (m:=m) (s:=s) (a:=a) (o:=o) (e:=e) (pad:=.int .i32 0) hH hL hrl hw hcap
  (w1:={ w with drawn:=w.drawn+1 }) (.inl rfl) rfl rfl rfl rfl (by
   simp only [execOp,ho,convert,Sem.run_bind,run_und h1,run_und h2,run_und he,Result.andThen_ok,r,Conv.stringToRunes,run_choose,Question.forced,Bool.false_eq_true,if_false,run_newRow,hes]
   rfl)
theorem op_range (ht:RTm E G m s.tm a.tmps) (hH:RH E G B s.hp.f w) (hL:RLc E G B s.hp.f m s.lc w) {t:TypeId} {x:Operand} {nx:NX} {ty:TK} (ho:o.op = .range t x) (hx:compX E.rn x=some nx)
 (hd:(ty = .str∧P.underlying t=some .string)∨(ty = .map∧∃ k e,P.underlying t=some (.map k e))) (hn:nop call orc s (.range ty nx)=some q):OpOk P E B G m s a w o q:=by
 have r:=compX_rel ht hx
 simp only [nop] at hn
 generalize hev:nx.ev s.tm=tv at hn r
 have mk:∀ (ao:AO) (it:Obj),ao≠.dead→q=⟨.v (.c (.it s.hp.obs.length)),s.lc,s.hp.push ao⟩→
  (∀ G',Ext G G' (s.hp.obs.length+1)→G'.obj s.hp.obs.length=some w.heap.size→RO E G' B (w.alloc it) s.hp.obs.length ao)→(∀ G' b wr,Owns G' s.hp.obs.length b wr ao→G'.obj s.hp.obs.length=some b)→
  (Instr.range t (a.eval x)).run P w = .ok (.pointer (some ⟨w.heap.size,0,none⟩)) (w.alloc it)→OpOk P E B G m s a w o q:=by
  intro ao it hnd hq hro how hrun
  subst hq
  intro hf hfm
  have hfree:=(hf s.hp.obs.length (Nat.le_refl _) (by simp [Hp.push])).2
  have hx':=gObj_ext (b:=w.heap.size) hfree
  obtain ⟨k1,k2,k3,k4⟩:=push_ok (o:=ao) (ob:=it) hH hL hx' (fun id hid=>⟨rfl,by simp [gObj,hid]⟩) (hro _ hx' (by simp [gObj]))
   (fun b wr h=>by have:=how _ b wr h;simp [gObj] at this;exact this.symm)
  refine ⟨_,.pointer (some ⟨w.heap.size,0,none⟩),_,_,_,by simp [execOp,ho,hrun],.inl rfl,step_new k1 k2 k3 k4 (by simpa [Hp.push] using hx') (by simp [Hp.push]) ?_ (dead_push hnd (fun id hid=>⟨rfl,by simp [gObj,hid]⟩))⟩
  simp only [RT,RA,RC]
  exact ⟨w.heap.size,by simp [gObj],rfl⟩
 split at hn
 ·rename_i b
  split at hn <;> simp at hn
  rename_i hty
  simp only [ne_eq,Decidable.not_not] at hty
  subst hty
  simp only [true_and,reduceCtorEq,false_and,or_false] at hd
  simp only [RT,RA,RC] at r
  refine mk (.siter b 0) (.stringIter b 0) (by simp) hn.symm (fun G' _ hg=>?_) (fun G' b' wr h=>h.2) ?_
  ·simp only [RO]
   exact ⟨w.heap.size,hg,alloc_new _ _,hH.size⟩
  ·simp only [Instr.range,Sem.run_bind,run_und hd,Result.andThen_ok,r,Sem.run_pure,run_newObj]
   rfl
 ·split at hn <;> simp at hn
  rename_i hty
  simp only [ne_eq,Decidable.not_not] at hty
  subst hty
  simp only [true_and,reduceCtorEq,false_and,false_or] at hd
  obtain ⟨k,e,hu⟩:=hd
  simp only [RT,RA,RC] at r
  refine mk (.miter none 0 [] 0) (.mapIter none 0 #[] 0) (by simp) hn.symm (fun G' _ hg=>?_) (fun G' b' wr h=>h.2) ?_
  ·simp only [RO]
   exact ⟨w.heap.size,hg,hH.size,none,alloc_new _ _,rfl⟩
  ·simp only [Instr.range,Sem.run_bind,run_und hu,Result.andThen_ok,r,Sem.run_pure,run_newObj]
   rfl
 ·rename_i id
  split at hn
  rotate_left
  ·simp at hn
  rename_i wr es clock hob
  split at hn <;> simp at hn
  rename_i hty
  simp only [ne_eq,Decidable.not_not] at hty
  subst hty
  simp only [true_and,reduceCtorEq,false_and,false_or] at hd
  obtain ⟨k,e,hu⟩:=hd
  simp only [RT,RA,RC] at r
  obtain ⟨b,g1,g2⟩:=r
  have hm:=hH.each id _ hob
  simp only [RO] at hm
  obtain ⟨b',re,k1,k2,k3,k4⟩:=hm
  rw [g1] at k1;injection k1 with k1;subst k1
  refine mk (.miter (some id) clock [] clock) (.mapIter (some b) clock #[] clock) (by simp) hn.symm (fun G' hx' hg=>?_) (fun G' b' wr h=>h.2) ?_
  ·simp only [RO]
   exact ⟨w.heap.size,hg,hH.size,some b,alloc_new _ _,b,hx'.obj _ _ g1,rfl⟩
  ·simp only [Instr.range,Sem.run_bind,run_und hu,Result.andThen_ok,g2,Sem.run_pure,run_newObj,go_map k2]
   rfl
 ·simp at hn
end
end
end Camp
