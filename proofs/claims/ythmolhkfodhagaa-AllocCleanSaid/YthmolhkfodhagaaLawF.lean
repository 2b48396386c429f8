/- Numbers counted in a map: an entry that is looked up, counted on, and put back. Dealing: plain: what is dealt clashes nowhere; places are taken once; each has both links, or none. Counted maps; all cells of a map of cells. The law of what is dealt: clean. -/
import Derived.Test.YthmolhkfodhagaaUseB
import Derived.Test.YthmolhkfodhagaaUseA
import Derived.Test.YthmolhkfodhagaaLawE
set_option linter.unnecessarySimpa false
set_option linter.unusedVariables false
set_option linter.unusedSimpArgs false
set_option linter.unusedSectionVars false
namespace Camp
open Go
section
set_option maxHeartbeats 4000000
def mentT (h:Hp) (kt:KT) (zero:AV) (m:TV) (k:Option AV):Option (AV × Nat × Hp):=
 match m,k with
 | .v (.c (.map id)),some kv=>
  match h.g id with
  | some (.map true es clock)=>
   if okKey kt kv then (findKey kv es 0).map fun
    | some (i,v)=>(v,((es[i]?).map (·.born)).getD 0,h.put id (.map true (es.modify i fun e=>{ e with key:=kv }) clock))
    | none=>(zero,clock,h.put id (.map true (es++[⟨kv,zero,clock⟩]) (clock+1)))
   else none
  | _=>none
 | _,_=>none
def mestT (h:Hp) (m:TV) (s:Option (IntKind × Int)) (x:Option AV):Option Hp:=
 match m,s,x with
 | .v (.c (.map id)),some st,some xv=>
  match h.g id with
  | some (.map true es clock)=>(es.findIdx? fun e=>(e.born:Int) == st.2).map fun i=>h.put id (.map true (es.modify i fun e=>{ e with val:=xv }) clock)
  | _=>none
 | _,_,_=>none
section
variable {n:Nat} {l:List (Nat × TV)} {lc:List (List CV)} {h:Hp}
theorem o_ment (kt:KT) (z:AV) (m k:NX):opN n l lc h (.ment kt z m k)=(mentT h kt z (evN n l m) (asV (evN n l k))).map fun r=>⟨.v (.tup [r.1,.c (.int .i64 (r.2.1:Nat))]),lc,r.2.2⟩:=by
 simp only [opN,nop,ev_mkT]
 generalize evN n l m=mv
 generalize asV (evN n l k)=kv
 cases mv with
 | v q=>cases q with
  | c y=>
   cases y <;> cases kv <;> try rfl
   rename_i kv
   simp only [asC,Option.bind_some,mentT,g_def]
   cases h.g _ with
   | none=>rfl
   | some o=>cases o with
    | map wr es clock=>
     cases wr with
     | false=>rfl
     | true=>
      simp only
      split
      ·cases findKey kv es 0 with
       | none=>rfl
       | some r=>cases r <;> rfl
      ·rfl
    | _=>rfl
  | _=>cases kv <;> rfl
 | _=>cases kv <;> rfl
theorem o_mest (m s x:NX):opN n l lc h (.mest m s x)=(mestT h (evN n l m) (asI (evN n l s)) (asV (evN n l x))).map fun h'=>⟨.un,lc,h'⟩:=by
 simp only [opN,nop,ev_mkT]
 generalize evN n l m=mv
 generalize asI (evN n l s)=sv
 generalize asV (evN n l x)=xv
 cases mv with
 | v q=>cases q with
  | c y=>
   cases y <;> cases sv <;> cases xv <;> try rfl
   rename_i sv xv
   simp only [asC,Option.bind_some,mestT,g_def]
   cases h.g _ with
   | none=>rfl
   | some o=>cases o with
    | map wr es clock=>
     cases wr with
     | false=>rfl
     | true=>
      simp only
      cases es.findIdx? fun e=>(e.born:Int) == sv.2 <;> rfl
    | _=>rfl
  | _=>cases sv <;> cases xv <;> rfl
 | _=>cases sv <;> cases xv <;> rfl
end
theorem put_put (h:Hp) (i:Nat) (a b:AO):(h.put i a).put i b=h.put i b:=by simp [Hp.put]
theorem modify_last {α:Type} (es:List α) (a:α) (f:α→α):(es++[a]).modify es.length f=es++[f a]:=by
 apply List.ext_getElem?
 intro i
 rw [List.getElem?_modify]
 rcases Nat.lt_trichotomy i es.length with hi|hi|hi
 ·have hne:es.length≠i:=by omega
  rw [List.getElem?_append_left hi,List.getElem?_append_left hi]
  simp [hne]
 ·subst hi
  simp
 ·rw [List.getElem?_eq_none (by simp;omega),List.getElem?_eq_none (by simp;omega)]
  rfl
theorem ment_mest {kt:KT} {es:List ME} {h:Hp} {id clock:Nat} {k x z:AV} (hm:h.g id=some (.map true es clock)) (hE:Ents kt es clock) (hk:okKey kt k=true) :
 ∃ v st h1,mentT h kt z (.v (.c (.map id))) (some k)=some (v,st,h1)∧mestT h1 (.v (.c (.map id))) (some (.i64,(st:Int))) (some x)=mupdT h kt (.v (.c (.map id))) (some k) (some x)∧∃ r,lookT h1 kt (.v (.c (.map id))) (some k)=some r∧r.getD z=(funOf es k).getD z:=by
 have hlook:∀ (es1:List ME) (c1:Nat) (w:AV),(∀ e∈es1,okKey kt e.key=true)→(∃ e∈es1,e.key=k)→(∀ e∈es1,e.key=k→e.val=w)→lookT (h.put id (.map true es1 c1)) kt (.v (.c (.map id))) (some k)=some (some w):=by
  intro es1 c1 w hk1 ⟨e0,he0,hk0⟩ hv
  have hg:(h.put id (.map true es1 c1)).g id=some (.map true es1 c1):=by rw [g_put_eq,hm];rfl
  rcases findKey_fn hk (es:=es1) 0 hk1 with ⟨_,f2⟩|⟨j,e,f1,f2,f3⟩
  ·exact absurd hk0 (f2 e0 he0)
  ·simp only [lookT,mapT,hg,mapO,Option.bind_some,hk,if_true,f1,Option.map_some]
   rw [hv e (List.mem_of_getElem? f2) f3]
 unfold mentT mupdT
 simp only [hm,hk,if_true]
 rcases findKey_fn hk (es:=es) 0 hE.keys with ⟨f1,f2⟩|⟨j,e,f1,f2,f3⟩
 ·rw [f1]
  have hfo:funOf es k=none:=by
   cases hf:funOf es k with
   | none=>rfl
   | some v=>
    obtain ⟨e,he,h1,_⟩:=((funOf_is hE).vals _ _).mp hf
    exact absurd h1 (f2 e he)
  refine ⟨_,_,_,rfl,?_,some z,hlook _ _ z (fun e he=>?_) ⟨⟨k,z,clock⟩,by simp,rfl⟩ (fun e he hek=>?_),by rw [hfo];rfl⟩
  rotate_left
  ·rcases List.mem_append.mp he with he|he
   ·exact hE.keys e he
   ·simp at he;subst he;exact hk
  ·rcases List.mem_append.mp he with he|he
   ·exact absurd hek (f2 e he)
   ·simp at he;subst he;rfl
  unfold mestT
  simp only [g_put_eq,hm,Option.map_some,put_put]
  have:(es++[(⟨k,z,clock⟩:ME)]).findIdx? (fun e=>(e.born:Int) == (clock:Int))=some es.length:=by
   rw [List.findIdx?_append]
   have h1:es.findIdx? (fun e=>(e.born:Int) == (clock:Int))=none:=by
    rw [List.findIdx?_eq_none_iff]
    intro e he
    have:=hE.lt e he
    simp
    omega
   rw [h1]
   simp
  rw [this]
  simp only [Option.map_some]
  congr 3
  exact modify_last _ _ _
 ·rw [Nat.zero_add] at f1
  rw [f1]
  have hj:j<es.length:=(List.getElem?_eq_some_iff.mp f2).1
  have he:es[j] = e:=(List.getElem?_eq_some_iff.mp f2).2
  have hem:e∈es:=List.mem_of_getElem? f2
  have hfo:funOf es k=some e.val:=((funOf_is hE).vals _ _).mpr ⟨e,hem,f3,rfl⟩
  have hmm:∀ e'∈es.modify j (fun e=>{ e with key:=k }),okKey kt e'.key=true∧(e'.key=k→e'.val=e.val):=by
   intro e' he'
   obtain ⟨i,hi⟩:=List.getElem?_of_mem he'
   rw [List.getElem?_modify] at hi
   cases hq:es[i]? with
   | none=>rw [hq] at hi;simp at hi
   | some a=>
    rw [hq] at hi
    by_cases hij:j=i
    ·subst hij
     rw [f2] at hq
     injection hq with hq
     subst hq
     simp at hi
     subst hi
     exact ⟨hk,fun _=>rfl⟩
    ·simp [hij] at hi
     subst hi
     refine ⟨hE.keys a (List.mem_of_getElem? hq),fun hak=>?_⟩
     exact absurd (uniq_idx hE.uniq f2 hq (f3.trans hak.symm)) hij
  refine ⟨_,_,_,rfl,?_,some e.val,hlook _ _ e.val (fun e' he'=>(hmm e' he').1) ⟨{ e with key:=k },?_,rfl⟩ (fun e' he'=>(hmm e' he').2),by rw [hfo]⟩
  rotate_left
  ·refine List.mem_of_getElem? (i:=j) ?_
   rw [List.getElem?_modify,f2]
   simp
  unfold mestT
  simp only [g_put_eq,hm,Option.map_some,put_put,Nat.zero_add]
  have:(es.modify j fun e=>{ e with key:=k }).findIdx? (fun e'=>(e'.born:Int) == ((((es[j]?).map (·.born)).getD 0:Nat):Int))=some j:=by
   rw [f2]
   rw [List.findIdx?_eq_some_iff_getElem]
   refine ⟨by rw [List.length_modify];exact hj,?_,fun i hi=>?_⟩
   ·rw [List.getElem_modify]
    simp [he]
   ·rw [List.getElem_modify]
    have hne:j≠i:=by omega
    simp only [hne,if_false]
    have hnd:=hE.nd
    rw [List.Nodup,List.pairwise_map] at hnd
    have:=List.pairwise_iff_getElem.mp hnd i j (by omega) hj hi
    simp [he] at this ⊢
    omega
  rw [this]
  simp only [Option.map_some]
  congr 3
  apply List.ext_getElem?
  intro i
  simp only [List.getElem?_modify]
  by_cases hi:j=i <;> cases es[i]? <;> simp [hi]
end
section
set_option maxHeartbeats 4000000
theorem a13:andI 1 3=1:=by decide
theorem a14:andI 1 4=0:=by decide
theorem a23:andI 2 3=2:=by decide
theorem a24:andI 2 4=0:=by decide
theorem a103:andI 10 3=2:=by decide
theorem a104:andI 10 4=0:=by decide
structure DN where
 n:Nat
 p:Nat
 x:Nat × Nat
 y:Nat × Nat
def oneD (fr:Int) (d:DN):List Hd:=twoD fr d.n d.p 2 d.x.1 d.x.2++twoD fr d.p d.n 10 d.y.1 d.y.2
def nodes (D:List DN):List Int:=D.map fun d=>(d.n:Int)
def spots (D:List DN):List (Nat × Nat):=D.flatMap fun d=>[d.x,d.y]
theorem clean_two {fr:Int} {L:List Hd} {a b:Nat} {o:Int} {s c:Nat} (hc:cleanP L) (hf:freeD fr L a b o s c) (hfr:0≤fr∧fr<4) (hs:s<200) (hcc:c<16) (ha:a<16) (hb:b<16) (hab:a≠b) (ho:o=2∨o=10):cleanP (L++twoD fr a b o s c):=by
 obtain ⟨m1,m2⟩:=may_two (fr:=fr) (a:=a) (b:=b) (o:=o) hfr hs hcc (by omega) (by omega) ho
 have e2:andI 1 4=0:=by decide
 have e3:andI o 3=2∧andI o 4=0:=by rcases ho with rfl|rfl <;> decide
 unfold twoD
 rw [show L++[(⟨(a:Int),⟨fr,s,c,1,b⟩⟩:Hd),⟨b,⟨fr,s,c,o,a⟩⟩] = (L++[⟨(a:Int),⟨fr,s,c,1,b⟩⟩])++[⟨b,⟨fr,s,c,o,a⟩⟩] by simp]
 refine cleanP_snoc.mpr ⟨cleanP_snoc.mpr ⟨hc,⟨by constructor <;> simp only <;> omega,m1,e2⟩,hf.1⟩,⟨by constructor <;> simp only <;> omega,m2,e3.2⟩,?_⟩
 rintro ⟨y,hy,hcl⟩
 rcases List.mem_append.mp hy with hy|hy
 ·exact hf.2 ⟨y,hy,hcl⟩
 ·have hy:=List.mem_singleton.mp hy
  subst hy
  rcases hcl with hcl|⟨_,hcl|hcl⟩
  ·exact hcl ⟨m1,m2,by constructor <;> simp only <;> omega,by constructor <;> simp only <;> omega⟩
  ·simp only at hcl;omega
  ·exact hcl.1 ⟨rfl,rfl,rfl,.inl ⟨a13,e3.1⟩⟩
theorem free_spot {fr:Int} {L:List Hd} {a b:Nat} {o:Int} {s c:Nat} (hf:freeD fr L a b o s c) {y:Hd} (hy:y∈L) (h1:y.c.f=fr) (h2:y.c.s=s) (h3:y.c.c=c) (h4:y.c.o=1):False:=by
 refine hf.1 ⟨y,hy,.inr ⟨⟨h1,h2⟩,.inr ⟨fun hl=>?_,.inl h3⟩⟩⟩
 have e1:andI 1 3=1:=by decide
 rcases hl.2.2.2 with ⟨_,h⟩|⟨h,_⟩
 ·simp only [e1] at h;omega
 ·rw [h4,e1] at h;omega
structure DS (fr:Int) (ln cn:Nat) (par:Int→List Int) (pre:List Int) (L:List Hd) (out:List Int) (D:List DN):Prop where
 cells:L=D.flatMap (oneD fr)
 each:∀ d∈D,(d.n:Int)∈nz pre∧(∃ ps,par d.n=(d.p:Int)::ps)∧(d.x.1<ln∧d.x.2<cn)∧(d.y.1<ln∧d.y.2<cn)∧d.n<16∧d.p<16
 nd:(nodes D).Nodup
 sp:(spots D).Nodup
 cl:cleanP L
 out:out=(nz pre).filter fun z=>!decide (z∈nodes D)
theorem oneD_mem {fr:Int} {D:List DN} {x:Nat × Nat} (h:x∈spots D):∃ y∈D.flatMap (oneD fr),y.c.f=fr∧y.c.s=x.1∧y.c.c=x.2∧y.c.o=1:=by
 unfold spots at h
 obtain ⟨d,hd,hx⟩:=List.mem_flatMap.mp h
 simp only [List.mem_cons,List.not_mem_nil,or_false] at hx
 rcases hx with rfl|rfl
 ·exact ⟨⟨d.n,⟨fr,d.x.1,d.x.2,1,d.p⟩⟩,List.mem_flatMap.mpr ⟨d,hd,by simp [oneD,twoD]⟩,rfl,rfl,rfl,rfl⟩
 ·exact ⟨⟨d.p,⟨fr,d.y.1,d.y.2,1,d.n⟩⟩,List.mem_flatMap.mpr ⟨d,hd,by simp [oneD,twoD]⟩,rfl,rfl,rfl,rfl⟩
theorem nz_mem {l:List Int} {z:Int}:z∈nz l↔z∈l∧z≠0:=by
 unfold nz
 rw [List.mem_filter]
 simp
section
variable {fr:Int} {ln cn:Nat} {par:Int→List Int} {ol:List Int}
theorem deal_ds (hO:OlP par ol) (hfr:0≤fr∧fr<4) (hln:ln≤200) (hcn:cn≤16):∀ i,i≤ol.length→∃ D,DS fr ln cn par (ol.take i) (dealF fr ln cn par (ol.take i)).1 (dealF fr ln cn par (ol.take i)).2 D
 | 0,_=>⟨[],rfl,by simp,List.nodup_nil,List.nodup_nil,⟨by simp [dealF],by simp [dealF]⟩,rfl⟩
 | i+1,hi=>by
  obtain ⟨D,hD⟩:=deal_ds hO hfr hln hcn i (by omega)
  obtain ⟨x,hx⟩:=some_at (L:=ol) (i:=i) (by omega)
  have hxm:=mem_pre hx
  have hxr:=hO.rng x hxm
  have hxn:x∉ol.take i:=by
   intro hm
   have hnd:=hO.nd
   have hil:=lt_at hx
   have e:ol=ol.take i++(x::ol.drop (i+1)):=by
    conv=>lhs;rw [←List.take_append_drop i ol,List.drop_eq_getElem_cons hil]
    rw [List.getElem?_eq_getElem hil] at hx
    rw [Option.some.inj hx]
   rw [e,List.nodup_append] at hnd
   exact hnd.2.2 x hm x (by simp) rfl
  have hxD:x∉nodes D:=by
   intro hm
   unfold nodes at hm
   obtain ⟨d,hd,rfl⟩:=List.mem_map.mp hm
   exact hxn (nz_mem.mp (hD.each d hd).1).1
  have hmem:∀ z,z∈nz (ol.take i)→z∈nz (ol.take i++[x]):=fun z hz=>by
   rw [nz_snoc]
   split
   ·exact hz
   ·exact List.mem_append_left _ hz
  have noD:(x≠0)→DS fr ln cn par (ol.take i++[x]) (dealF fr ln cn par (ol.take i)).1 ((dealF fr ln cn par (ol.take i)).2++[x]) D:=by
   intro c
   refine ⟨hD.cells,fun d hd=>⟨hmem _ (hD.each d hd).1,(hD.each d hd).2⟩,hD.nd,hD.sp,hD.cl,?_⟩
   rw [nz_snoc,if_neg c,List.filter_append,←hD.out,List.filter_cons_of_pos (by simpa using hxD)]
   rfl
  rw [take_snoc hx,dealF_snoc]
  unfold dstep
  by_cases c:x=0
  ·rw [if_pos c]
   refine ⟨D,hD.cells,fun d hd=>⟨hmem _ (hD.each d hd).1,(hD.each d hd).2⟩,hD.nd,hD.sp,hD.cl,?_⟩
   rw [nz_snoc,if_pos c]
   exact hD.out
  ·rw [if_neg c]
   cases hp:par x with
   | nil=>exact ⟨D,noD c⟩
   | cons p ps=>
    have hpx:=hO.prng x p (by rw [hp];simp)
    have hpd:=hO.pdiff x p (by rw [hp];simp)
    simp only
    cases hb:bothF fr (dealF fr ln cn par (ol.take i)).1 x.toNat p.toNat ln cn with
    | none=>exact ⟨D,noD c⟩
    | some L'=>
     unfold bothF at hb
     rw [Option.bind_eq_some_iff] at hb
     obtain ⟨q1,h1,hb⟩:=hb
     rw [Option.map_eq_some_iff] at hb
     obtain ⟨q2,h2,rfl⟩:=hb
     obtain ⟨⟨k1,k2⟩,_,_,kf⟩:=place_is h1
     obtain ⟨⟨k3,k4⟩,_,_,kf2⟩:=place_is h2
     have c1:=clean_two hD.cl kf hfr (by omega) (by omega) (by omega) (by omega) (by omega) (.inl rfl)
     have c2:=clean_two c1 kf2 hfr (by omega) (by omega) (by omega) (by omega) (by omega) (.inr rfl)
     have n1:q1∉spots D:=fun hm=>by
      obtain ⟨y,hy,e1,e2,e3,e4⟩:=oneD_mem (fr:=fr) hm
      exact free_spot kf (by rw [hD.cells];exact hy) e1 e2 e3 e4
     have n2:q2∉spots D:=fun hm=>by
      obtain ⟨y,hy,e1,e2,e3,e4⟩:=oneD_mem (fr:=fr) hm
      exact free_spot kf2 (List.mem_append_left _ (by rw [hD.cells];exact hy)) e1 e2 e3 e4
     have n3:q1≠q2:=fun e=>free_spot kf2 (y:=⟨x.toNat,⟨fr,q1.1,q1.2,1,p.toNat⟩⟩) (List.mem_append_right _ (by simp [twoD])) rfl (by rw [e]) (by rw [e]) rfl
     have hxt:((x.toNat:Nat):Int)=x:=by omega
     have hpt:((p.toNat:Nat):Int)=p:=by omega
     refine ⟨D++[⟨x.toNat,p.toNat,q1,q2⟩],?_,fun d hd=>?_,?_,?_,c2,?_⟩
     ·rw [List.flatMap_append,←hD.cells]
      simp [oneD]
     ·rcases List.mem_append.mp hd with hd|hd
      ·exact ⟨hmem _ (hD.each d hd).1,(hD.each d hd).2⟩
      ·have hd:=List.mem_singleton.mp hd
       subst hd
       refine ⟨?_,⟨ps,?_⟩,⟨k1,k2⟩,⟨k3,k4⟩,?_,?_⟩
       ·simp only [hxt]
        rw [nz_snoc,if_neg c];simp
       ·simp only [hxt,hpt];exact hp
       ·simp only;omega
       ·simp only;omega
     ·unfold nodes
      rw [List.map_append,List.nodup_append]
      refine ⟨hD.nd,by simp,?_⟩
      intro a ha b hb e
      simp only [List.map_cons,List.map_nil,List.mem_singleton,hxt] at hb
      rw [e,hb] at ha
      exact hxD ha
     ·unfold spots
      rw [List.flatMap_append,List.nodup_append]
      refine ⟨hD.sp,by simp [n3],?_⟩
      intro a ha b hb e
      simp only [List.flatMap_cons,List.flatMap_nil,List.append_nil,List.mem_cons,List.not_mem_nil,or_false] at hb
      rcases hb with rfl|rfl
      ·exact n1 (e▸ha)
      ·exact n2 (e▸ha)
     ·rw [nz_snoc,if_neg c,List.filter_append]
      have e1:nodes (D++[⟨x.toNat,p.toNat,q1,q2⟩])=nodes D++[x]:=by simp [nodes,hxt]
      rw [e1,List.filter_cons_of_neg (by simp),List.filter_nil,List.append_nil]
      rw [hD.out]
      refine List.filter_congr fun z hz=>?_
      have:z≠x:=fun e=>hxn (e▸(nz_mem.mp hz).1)
      simp [this]
end
def cntP (g:Hd→Int × Int) (L:List Hd) (p:Int × Int):Nat:=(L.filter fun x=>decide (g x=p)).length
def gNS (x:Hd):Int × Int:=(x.n,x.c.s)
def gSC (x:Hd):Int × Int:=(x.c.s,x.c.c)
theorem cntP_perm {g:Hd→Int × Int} {L M:List Hd} (h:L.Perm M) (p:Int × Int):cntP g L p=cntP g M p:=(h.filter _).length_eq
theorem cntP_app (g:Hd→Int × Int) (L M:List Hd) (p:Int × Int):cntP g (L++M) p=cntP g L p+cntP g M p:=by
 unfold cntP
 rw [List.filter_append,List.length_append]
section
variable {fr:Int} {ln cn:Nat} {par:Int→List Int} {pre:List Int} {L:List Hd} {out:List Int} {D:List DN}
theorem DS.mem (hD:DS fr ln cn par pre L out D) {y:Hd} (hy:y∈L):∃ d∈D,y=⟨d.n,⟨fr,d.x.1,d.x.2,1,d.p⟩⟩∨y=⟨d.p,⟨fr,d.x.1,d.x.2,2,d.n⟩⟩∨y=⟨d.p,⟨fr,d.y.1,d.y.2,1,d.n⟩⟩∨y=⟨d.n,⟨fr,d.y.1,d.y.2,10,d.p⟩⟩:=by
 rw [hD.cells] at hy
 obtain ⟨d,hd,hy⟩:=List.mem_flatMap.mp hy
 refine ⟨d,hd,?_⟩
 simpa [oneD,twoD] using hy
theorem DS.has (hD:DS fr ln cn par pre L out D) {d:DN} (hd:d∈D):(⟨d.n,⟨fr,d.x.1,d.x.2,1,d.p⟩⟩:Hd)∈L∧(⟨d.p,⟨fr,d.x.1,d.x.2,2,d.n⟩⟩:Hd)∈L∧(⟨d.p,⟨fr,d.y.1,d.y.2,1,d.n⟩⟩:Hd)∈L∧(⟨d.n,⟨fr,d.y.1,d.y.2,10,d.p⟩⟩:Hd)∈L:=by
 rw [hD.cells]
 refine ⟨?_,?_,?_,?_⟩ <;> exact List.mem_flatMap.mpr ⟨d,hd,by simp [oneD,twoD]⟩
theorem DS.rng (hD:DS fr ln cn par pre L out D) {y:Hd} (hy:y∈L):(0≤y.c.s∧y.c.s<ln)∧(0≤y.c.c∧y.c.c<cn)∧y.c.f=fr∧andI y.c.o 4=0:=by
 obtain ⟨d,hd,h⟩:=hD.mem hy
 obtain ⟨_,_,h1,h2,_⟩:=hD.each d hd
 rcases h with rfl|rfl|rfl|rfl <;> refine ⟨by simp only;omega,by simp only;omega,rfl,by first|exact a14|exact a24|exact a104⟩
theorem DS.peer (hD:DS fr ln cn par pre L out D) {y:Hd} (hy:y∈L):∃ x∈L,x.n=y.c.p∧x.c.s=y.c.s∧x.c.c=y.c.c∧x.c.p=y.n∧((andI y.c.o 3=1∧andI x.c.o 3=2)∨(andI y.c.o 3=2∧andI x.c.o 3=1)):=by
 obtain ⟨d,hd,h⟩:=hD.mem hy
 obtain ⟨h1,h2,h3,h4⟩:=hD.has hd
 rcases h with rfl|rfl|rfl|rfl
 ·exact ⟨_,h2,rfl,rfl,rfl,rfl,.inl ⟨a13,a23⟩⟩
 ·exact ⟨_,h1,rfl,rfl,rfl,rfl,.inr ⟨a23,a13⟩⟩
 ·exact ⟨_,h4,rfl,rfl,rfl,rfl,.inl ⟨a13,a103⟩⟩
 ·exact ⟨_,h3,rfl,rfl,rfl,rfl,.inr ⟨a103,a13⟩⟩
theorem DS.one (hD:DS fr ln cn par pre L out D) (p:Int × Int):cntP gNS L p≤1:=by
 unfold cntP
 have hp:=hD.cl.2.filter (fun x=>decide (gNS x=p))
 cases hq:L.filter (fun x=>decide (gNS x=p)) with
 | nil=>simp
 | cons a l=>
  cases l with
  | nil=>simp
  | cons b l=>
   exfalso
   rw [hq,List.pairwise_cons] at hp
   have ha:=List.mem_filter.mp (hq▸(List.mem_cons_self:a∈a::b::l))
   have hb:=List.mem_filter.mp (hq▸(List.mem_cons_of_mem _ List.mem_cons_self:b∈a::b::l))
   have e1:gNS a=p:=by simpa using ha.2
   have e2:gNS b=p:=by simpa using hb.2
   have e3:=e1.trans e2.symm
   unfold gNS at e3
   injection e3 with e3 e4
   exact hp.1 b (by simp) (.inr ⟨⟨(hD.rng ha.1).2.2.1.trans (hD.rng hb.1).2.2.1.symm,e4⟩,.inl e3⟩)
def castP (x:Nat × Nat):Int × Int:=((x.1:Int),(x.2:Int))
theorem castP_inj {x y:Nat × Nat} (h:castP x=castP y):x=y:=by
 obtain ⟨a,b⟩:=x
 obtain ⟨c,d⟩:=y
 simp [castP] at h ⊢
 omega
theorem cnt_spots (fr:Int) (p:Int × Int):∀ D:List DN,cntP gSC (D.flatMap (oneD fr)) p=2 * ((spots D).filter fun x=>decide (castP x=p)).length
 | []=>rfl
 | d::D=>by
  rw [List.flatMap_cons,cntP_app,cnt_spots fr p D]
  have e:((spots (d::D)).filter fun x=>decide (castP x=p)).length=(([d.x,d.y]:List (Nat × Nat)).filter fun x=>decide (castP x=p)).length+((spots D).filter fun x=>decide (castP x=p)).length:=by
   unfold spots
   rw [List.flatMap_cons,List.filter_append,List.length_append]
  rw [e]
  have e2:cntP gSC (oneD fr d) p=2 * (([d.x,d.y]:List (Nat × Nat)).filter fun x=>decide (castP x=p)).length:=by
   unfold cntP oneD twoD
   have g1:∀ (n:Int) (f o q:Int) (x:Nat × Nat),gSC ⟨n,⟨f,x.1,x.2,o,q⟩⟩=castP x:=fun _ _ _ _ _=>rfl
   by_cases h1:castP d.x=p <;> by_cases h2:castP d.y=p <;> simp [List.filter_cons,g1,h1,h2]
  omega
theorem DS.two (hD:DS fr ln cn par pre L out D) {p:Int × Int} (h:0<cntP gSC L p):cntP gSC L p=2:=by
 rw [hD.cells,cnt_spots] at h ⊢
 have:((spots D).filter fun x=>decide (castP x=p)).length≤1:=by
  have hp:=hD.sp.filter (fun x=>decide (castP x=p))
  cases hq:(spots D).filter (fun x=>decide (castP x=p)) with
  | nil=>simp
  | cons a l=>
   cases l with
   | nil=>simp
   | cons b l=>
    exfalso
    rw [hq,List.pairwise_cons] at hp
    have ha:=List.mem_filter.mp (hq▸(List.mem_cons_self:a∈a::b::l))
    have hb:=List.mem_filter.mp (hq▸(List.mem_cons_of_mem _ List.mem_cons_self:b∈a::b::l))
    have e1:castP a=p:=by simpa using ha.2
    have e2:castP b=p:=by simpa using hb.2
    exact hp.1 b (by simp) (castP_inj (e1.trans e2.symm))
 omega
def upP (n p:Int) (x:Hd):Bool:=decide (x.n=n) && (decide (x.c.p=p) && !decide (andI x.c.o 1=0))
def dnP (n p:Int) (x:Hd):Bool:=decide (x.n=n) && (decide (x.c.p=p) && (!decide (andI x.c.o 2=0) && !decide (andI x.c.o 8=0)))
theorem cnt_links {par:Int→List Int} (hanti:∀ n p,p∈par n→n∉par p) (fr:Int) {n p:Int} {ps:List Int} (hp:par n=p::ps):∀ D:List DN,(∀ d∈D,∃ ps,par d.n=(d.p:Int)::ps)→
 ((D.flatMap (oneD fr)).filter (upP n p)).length=((nodes D).filter fun z=>decide (z=n)).length∧((D.flatMap (oneD fr)).filter (dnP n p)).length=((nodes D).filter fun z=>decide (z=n)).length
 | [],_=>⟨rfl,rfl⟩
 | d::D,hD=>by
  obtain ⟨h1,h2⟩:=cnt_links hanti fr hp D (fun d hd=>hD d (by simp [hd]))
  obtain ⟨qs,hq⟩:=hD d (by simp)
  have e1:andI 1 1=1:=by decide
  have e2:andI 2 1=0:=by decide
  have e3:andI 10 1=0:=by decide
  have e4:andI 1 2=0:=by decide
  have e5:andI 2 8=0:=by decide
  have e6:andI 10 2=2:=by decide
  have e7:andI 10 8=8:=by decide
  have e8:andI 2 2=2:=by decide
  have hno:¬((d.p:Int)=n∧(d.n:Int)=p):=by
   rintro ⟨q1,q2⟩
   refine hanti n p (by rw [hp];simp) ?_
   rw [←q2,←q1,hq]
   simp
  have hpp:(d.n:Int)=n→(d.p:Int)=p:=by
   intro e
   rw [e,hp] at hq
   injection hq with hq
   exact hq.symm
  have nd:((nodes (d::D)).filter fun z=>decide (z=n)).length=(if (d.n:Int)=n then 1 else 0)+((nodes D).filter fun z=>decide (z=n)).length:=by
   unfold nodes
   rw [List.map_cons]
   by_cases h:(d.n:Int)=n
   ·rw [List.filter_cons_of_pos (by simpa using h),if_pos h,List.length_cons];omega
   ·rw [List.filter_cons_of_neg (by simpa using h),if_neg h];omega
  rw [List.flatMap_cons,List.filter_append,List.filter_append,List.length_append,List.length_append,h1,h2,nd]
  have u:((oneD fr d).filter (upP n p)).length=(if (d.n:Int)=n then 1 else 0)∧((oneD fr d).filter (dnP n p)).length=if (d.n:Int)=n then 1 else 0:=by
   unfold oneD twoD upP dnP
   by_cases h:(d.n:Int)=n
   ·have:=hpp h
    have h':¬((d.p:Int)=n∧(d.n:Int)=p):=hno
    by_cases h3:(d.p:Int)=n
    ·have h4:¬(d.n:Int)=p:=fun e=>h' ⟨h3,e⟩
     simp [List.filter_cons,h,this,e1,e2,e3,e4,e5,e6,e7,e8]
     omega
    ·simp [List.filter_cons,h,h3,this,e1,e2,e3,e4,e5,e6,e7,e8]
     omega
   ·by_cases h3:(d.p:Int)=n
    ·have h4:¬(d.n:Int)=p:=fun e=>hno ⟨h3,e⟩
     simp [List.filter_cons,h,h3,h4,e1,e2,e3,e4,e5,e6,e7,e8]
    ·simp [List.filter_cons,h,h3,e1,e2,e3,e4,e5,e6,e7,e8]
  rw [u.1,u.2]
  exact ⟨rfl,rfl⟩
theorem DS.links (hD:DS fr ln cn par pre L out D) (hanti:∀ n p,p∈par n→n∉par p) {n p:Int} {ps:List Int} (hp:par n=p::ps) :
 (L.filter (upP n p)).length=(if n∈nodes D then 1 else 0)∧(L.filter (dnP n p)).length=if n∈nodes D then 1 else 0:=by
 obtain ⟨h1,h2⟩:=cnt_links hanti fr hp D (fun d hd=>(hD.each d hd).2.1)
 rw [←hD.cells] at h1 h2
 rw [h1,h2]
 have:((nodes D).filter fun z=>decide (z=n)).length=if n∈nodes D then 1 else 0:=by
  have hnd:=hD.nd
  generalize nodes D=l at hnd
  induction l with
  | nil=>rfl
  | cons a l ih=>
   rw [List.nodup_cons] at hnd
   have ih:=ih hnd.2
   by_cases h:a=n
   ·subst h
    rw [List.filter_cons_of_pos (by simp),List.length_cons,ih,if_neg hnd.1,if_pos (by simp)]
   ·rw [List.filter_cons_of_neg (by simpa using h),ih]
    by_cases h2:n∈l
    ·rw [if_pos h2,if_pos (by simp [h2])]
    ·rw [if_neg h2,if_neg (by simp [h2];exact fun e=>h e.symm)]
 rw [this]
 exact ⟨rfl,rfl⟩
end
def wo (D:List DN) (l:List Int):Nat:=(l.filter fun z=>!decide (z∈nodes D)).length
theorem wo_snoc (D:List DN) (l:List Int) (z:Int):wo D (l++[z])=wo D l+(1-if z∈nodes D then 1 else 0):=by
 unfold wo
 rw [List.filter_append,List.length_append]
 by_cases h:z∈nodes D
 ·rw [List.filter_cons_of_neg (by simpa using h),if_pos h];rfl
 ·rw [List.filter_cons_of_pos (by simpa using h),if_neg h];rfl
end
section
set_option maxHeartbeats 4000000
abbrev kP (p:Int × Int):AV:=.agg [.int .i64 p.1,.int .i64 p.2]
def CM (h:Hp) (m:Nat) (g:Hd→Int × Int) (Pr:List Hd):Prop:=
 ∃ es clock,h.g m=some (.map true es clock)∧Ents (.arr 2 .i64) es clock∧(∀ e∈es,∃ p,e.key=kP p∧e.val = .c (.int .i64 (cntP g Pr p:Nat))∧0<cntP g Pr p)∧∀ p,0<cntP g Pr p→∃ e∈es,e.key=kP p
theorem kP_inj {p q:Int × Int} (h:kP p=kP q):p=q:=by
 injection h with h
 injection h with h1 h2
 injection h2 with h2
 injection h1 with _ h1
 injection h2 with _ h2
 exact Prod.ext h1 h2
theorem CM.nil {h:Hp} {m clock:Nat} {g:Hd→Int × Int} (hm:h.g m=some (.map true [] clock)):CM h m g []:=⟨[],clock,hm,Ents.nil _ _,by simp,fun p hp=>by simp [cntP] at hp⟩
theorem CM.mono {h h':Hp} {m:Nat} {g:Hd→Int × Int} {Pr:List Hd} {S:Nat→Prop} (k:CM h m g Pr) (f:Fm S h h') (hS:¬S m):CM h' m g Pr:=by
 obtain ⟨es,clock,h1,h2⟩:=k
 exact ⟨es,clock,f.some h1 hS,h2⟩
theorem CM.inc {h:Hp} {m:Nat} {g:Hd→Int × Int} {Pr:List Hd} (k:CM h m g Pr) (x:Hd) :
 ∃ r v st h1 h2,lookT h (.arr 2 .i64) (.v (.c (.map m))) (some (kP (g x)))=some r∧r.getD (.c (.int .i64 0)) = .c (.int .i64 (cntP g Pr (g x):Nat))∧mentT h (.arr 2 .i64) (.c (.int .i64 0)) (.v (.c (.map m))) (some (kP (g x)))=some (v,st,h1)∧
  mestT h1 (.v (.c (.map m))) (some (.i64,(st:Int))) (some (.c (.int .i64 (cntP g Pr (g x)+1:Nat))))=some h2∧CM h2 m g (Pr++[x])∧Fm (fun j=>j=m) h h2∧∃ r',lookT h1 (.arr 2 .i64) (.v (.c (.map m))) (some (kP (g x)))=some r'∧r'.getD (.c (.int .i64 0)) = .c (.int .i64 (cntP g Pr (g x):Nat)):=by
 obtain ⟨es,clock,hm,hE,h3,h4⟩:=k
 have hk:okKey (.arr 2 .i64) (kP (g x))=true:=rfl
 have hl:=look_ok (k:=kP (g x)) hm (funOf_is hE) hk
 obtain ⟨v,st,h1,q1,q2,r',q3,q4⟩:=ment_mest (k:=kP (g x)) (x:=.c (.int .i64 (cntP g Pr (g x)+1:Nat))) (z:=.c (.int .i64 0)) hm hE hk
 obtain ⟨es',clock',u1,u2,u3,u4,u5,u6⟩:=mupd_bk (k:=kP (g x)) (x:=.c (.int .i64 (cntP g Pr (g x)+1:Nat))) hm hE hk
 rw [u1] at q2
 have hval:(funOf es (kP (g x))).getD (.c (.int .i64 0)) = .c (.int .i64 (cntP g Pr (g x):Nat)):=by
  cases hf:funOf es (kP (g x)) with
  | none=>
   have:cntP g Pr (g x)=0:=by
    rcases Nat.eq_zero_or_pos (cntP g Pr (g x)) with h|h
    ·exact h
    ·obtain ⟨e,he,hk'⟩:=h4 _ h
     have:=((funOf_is hE).vals (kP (g x)) e.val).mpr ⟨e,he,hk',rfl⟩
     rw [hf] at this;cases this
   rw [this];rfl
  | some w=>
   obtain ⟨e,he,hk',hv⟩:=((funOf_is hE).vals _ _).mp hf
   obtain ⟨p,e1,e2,_⟩:=h3 e he
   have:=kP_inj (e1.symm.trans hk')
   subst this
   rw [Option.getD_some,←hv,e2]
 refine ⟨_,v,st,h1,_,hl,hval,q1,q2,⟨es',clock',by rw [g_put_eq,hm];rfl,u2,fun e he=>?_,fun p hp=>?_⟩,Fm.put _ _ rfl,r',q3,q4.trans hval⟩
 ·have hone:∀ p,cntP g (Pr++[x]) p=cntP g Pr p+if g x=p then 1 else 0:=by
   intro p
   rw [cntP_app]
   congr 1
   unfold cntP
   by_cases h:g x=p
   ·rw [List.filter_cons_of_pos (by simpa using h),if_pos h];rfl
   ·rw [List.filter_cons_of_neg (by simpa using h),if_neg h];rfl
  rcases u4 e he with ⟨e1,e2⟩|⟨e1,e0,he0,e2,e3⟩
  ·exact ⟨g x,e1,by rw [e2,hone,if_pos rfl],by rw [hone,if_pos rfl];omega⟩
  ·obtain ⟨p,q3,q4,q5⟩:=h3 e0 he0
   have hne:¬g x=p:=by rintro rfl;exact e1 (by rw [←e2];exact q3)
   exact ⟨p,by rw [←e2];exact q3,by rw [←e3,q4,hone,if_neg hne,Nat.add_zero],by rw [hone,if_neg hne];omega⟩
 ·by_cases h:p=g x
  ·subst h
   obtain ⟨e,he,hk',_⟩:=u5
   exact ⟨e,he,hk'⟩
  ·have:0<cntP g Pr p:=by
    rw [cntP_app] at hp
    have:cntP g [x] p=0:=by
     unfold cntP
     rw [List.filter_cons_of_neg (by simpa using fun e=>h e.symm)];rfl
    omega
   obtain ⟨e,he,hk'⟩:=h4 p this
   obtain ⟨e',he',hk2,_⟩:=u6 e he (by rw [hk'];exact fun e=>h (kP_inj e))
   exact ⟨e',he',hk2.trans hk'⟩
theorem keys_perm:∀ (K:List Int) (L:List Hd),K.Nodup→(∀ y∈L,y.n∈K)→(K.flatMap fun k=>L.filter fun x=>decide (x.n=k)).Perm L
 | [],L,_,h=>by
  cases L with
  | nil=>exact List.Perm.refl _
  | cons y L=>exact absurd (h y (by simp)) (by simp)
 | k::K,L,hK,h=>by
  rw [List.nodup_cons] at hK
  have ih:=keys_perm K (L.filter fun x=>!decide (x.n=k)) hK.2 (fun y hy=>by
   obtain ⟨h1,h2⟩:=List.mem_filter.mp hy
   have:=h y h1
   simp at h2
   rcases List.mem_cons.mp this with e|e
   ·exact absurd e h2
   ·exact e)
  have e:(K.flatMap fun k'=>L.filter fun x=>decide (x.n=k'))=K.flatMap fun k'=>(L.filter fun x=>!decide (x.n=k)).filter fun x=>decide (x.n=k'):=by
   have:∀ k'∈K,(L.filter fun x=>decide (x.n=k'))=(L.filter fun x=>!decide (x.n=k)).filter fun x=>decide (x.n=k'):=by
    intro k' hk'
    rw [List.filter_filter]
    refine List.filter_congr fun x _=>?_
    by_cases h1:x.n=k'
    ·have:x.n≠k:=fun e=>hK.1 (by rw [←e,h1];exact hk')
     simp [h1] at this ⊢
     exact this
    ·simp [h1]
   rw [List.flatMap_def,List.flatMap_def,List.map_congr_left this]
  rw [List.flatMap_cons,e]
  exact (List.Perm.append_left _ ih).trans (List.filter_append_perm _ _)
def FE (Lk:Int→List Cel) (e:ME):Int × List Cel:=(kN e,Lk (kN e))
theorem flat_all {h:Hp} {b m clock:Nat} {es:List ME} {Lk:Int→List Cel} {L:List Hd} (hM:MS h b m es clock Lk) (hp:∀ n,(Lk n).Perm (celsN L n)):(flatM (FE Lk) es).Perm L:=by
 have hkey:∀ e∈es,e.key=kI (kN e):=by
  intro e he
  obtain ⟨n,v,q,_⟩:=hM.each e he
  simp only [kN,q]
 have hnd:(es.map kN).Nodup:=by
  rw [List.Nodup,List.pairwise_map]
  refine (hM.en.uniq).imp_of_mem fun {a b} ha hb hab e=>hab ?_
  rw [hkey a ha,hkey b hb,e]
 have hcov:∀ y∈L,y.n∈es.map kN:=by
  intro y hy
  have hy2:Lk y.n≠[]:=by
   intro e
   have h1:=(hp y.n).length_eq
   rw [e] at h1
   have:y.c∈celsN L y.n:=by
    unfold celsN
    exact List.mem_map_of_mem (List.mem_filter.mpr ⟨hy,by simp⟩)
   have:=List.length_pos_of_mem this
   simp at h1
   omega
  obtain ⟨e,he,hk⟩:=hM.all _ hy2
  refine List.mem_map.mpr ⟨e,he,?_⟩
  simp only [kN,hk]
 have h1:=keys_perm (es.map kN) L hnd hcov
 refine List.Perm.trans ?_ h1
 unfold flatM
 rw [List.flatMap_map]
 clear h1 hcov hnd hkey hM
 induction es with
 | nil=>exact List.Perm.refl _
 | cons e es ih=>
  rw [List.flatMap_cons,List.flatMap_cons]
  refine List.Perm.append ?_ ih
  unfold flatE FE
  simp only
  have e1:((celsN L (kN e)).map fun c=>(⟨kN e,c⟩:Hd))=L.filter fun x=>decide (x.n=kN e):=by
   unfold celsN
   rw [List.map_map]
   have:∀ x∈L.filter (fun x=>decide (x.n=kN e)),((fun c=>(⟨kN e,c⟩:Hd)) ∘ fun x=>x.c) x=x:=by
    intro x hx
    have h2:=(List.mem_filter.mp hx).2
    simp at h2
    cases x
    simp at h2 ⊢
    exact h2.symm
   rw [List.map_congr_left this]
   simp
  rw [←e1]
  exact (hp _).map _
end
section
set_option maxHeartbeats 8000000
def xor3 (a:Int):Int:=IntKind.wrap .i64 (BitVec.ofInt IntKind.i64.bits a ^^^ BitVec.ofInt IntKind.i64.bits 3).toNat
theorem xor_fold (a:Int):IntKind.wrap .i64 (BitVec.ofInt IntKind.i64.bits a ^^^ BitVec.ofInt IntKind.i64.bits 3).toNat=xor3 a:=rfl
theorem xor31:xor3 1=2:=by decide
theorem xor32:xor3 2=1:=by decide
def mateB (n:Int) (c x:Cel):Bool:=decide (x.s=c.s) && (decide (x.c=c.c) && (decide (x.p=n) && decide (andI x.o 3=xor3 (andI c.o 3))))
theorem filt_snoc (g:Cel→Bool) (l:List Cel) (c:Cel):((l++[c]).filter g).length=(l.filter g).length+if g c=true then 1 else 0:=by
 rw [List.filter_append,List.length_append]
 cases h:g c <;> simp [List.filter_cons,h]
theorem sub_length {es V:List ME} (hV:∀ e∈V,e∈es) (hn:(V.map (·.born)).Nodup):V.length≤es.length:=by
 obtain ⟨R,hR⟩:=sub_perm hn hV
 have:=hR.length_eq
 rw [List.length_append] at this
 omega
theorem sub_snoc {es V:List ME} {e:ME} (hV:∀ e∈V,e∈es) (hn:(V.map (·.born)).Nodup) (he:e∈es) (hnb:e.born∉V.map (·.born)):(∀ x∈V++[e],x∈es)∧((V++[e]).map (·.born)).Nodup:=by
 refine ⟨fun x hx=>?_,?_⟩
 ·rcases List.mem_append.mp hx with hx|hx
  ·exact hV x hx
  ·have hx:=List.mem_singleton.mp hx
   subst hx;exact he
 ·rw [List.map_append,List.nodup_append]
  refine ⟨hn,by simp,?_⟩
  intro a ha b hb2
  simp at hb2
  subst hb2
  rintro rfl
  exact hnb ha
theorem sub_full {es V:List ME} (hes:(es.map (·.born)).Nodup) (hV:∀ e∈V,e∈es) (hn:(V.map (·.born)).Nodup) (hall:∀ e∈es,e.born∈V.map (·.born)):es.Perm V:=by
 obtain ⟨R,hR⟩:=sub_perm hn hV
 have hRn:R=[]:=by
  cases R with
  | nil=>rfl
  | cons r R=>
   have hr:r∈es:=hR.mem_iff.mpr (by simp)
   have h1:=hall r hr
   have h2:=(hR.map (·.born)).nodup_iff.mp hes
   rw [List.map_append,List.nodup_append] at h2
   exact absurd rfl (h2.2.2 r.born h1 r.born (by simp))
 subst hRn
 rw [List.append_nil] at hR
 exact hR
section
variable {k:Nat} {h:Hp} {P:AV→Hp→Prop}
def ClL (ln cn t m m1 m2 it:Nat) (nv:CV) (l:List (Nat × TV)):Prop:=
 lk l 3 = .v (.c (.int .i64 ln))∧lk l 4 = .v (.c (.int .i64 cn))∧lk l 14 = .v (.c (.ptr t 0 0 0))∧lk l 15 = .v (.c (.map m))∧lk l 16 = .v (.c nv)∧lk l 17 = .v (.c (.map m1))∧lk l 18 = .v (.c (.map m2))∧lk l 77 = .v (.c (.it it))
def ClA (h5:Hp) (ln cn t m:Nat) (nv:CV) (clock:Nat) (es:List ME) (Lk:Int→List Cel) (n:Nat) (s:St):Prop:=
 ∃ (V:List ME) (h':Hp) (l:List (Nat × TV)) (lc:List (List CV)),s=ST 278 l lc h'∧(∀ e∈V,e∈es)∧(V.map (·.born)).Nodup∧n=es.length-V.length∧Fn h5 h'∧CM h' h5.n gNS (flatM (FE Lk) V)∧CM h' (h5.n+1) gSC (flatM (FE Lk) V)∧
  h'.g (h5.n+2)=some (.miter (some m) clock (V.map (·.born)) clock)∧ClL ln cn t m h5.n (h5.n+1) (h5.n+2) nv l
def ClB (h5:Hp) (ln cn t m:Nat) (nv:CV) (clock:Nat) (V:List ME) (Lk:Int→List Cel) (n0:Int) (v0:CV) (e:ME) (n:Nat) (s:St):Prop:=
 ∃ (i:Nat) (h':Hp) (l:List (Nat × TV)) (lc:List (List CV)),s=ST 278 l lc h'∧i≤(Lk n0).length∧n=(Lk n0).length-i∧Fn h5 h'∧CM h' h5.n gNS (flatM (FE Lk) V++((Lk n0).take i).map fun c=>⟨n0,c⟩)∧CM h' (h5.n+1) gSC (flatM (FE Lk) V++((Lk n0).take i).map fun c=>⟨n0,c⟩)∧
  h'.g (h5.n+2)=some (.miter (some m) clock (V.map (·.born)++[e.born]) clock)∧ClL ln cn t m h5.n (h5.n+1) (h5.n+2) nv l∧
  lk l 19 = .v (.c (.int .i64 n0))∧lk l 83 = .v (.c v0)∧lk l 84 = .v (.c (.int .i64 (Lk n0).length))∧lk l 85 = .v (.c (.int .i64 i))
def ClC (h':Hp) (h5n ln cn t m:Nat) (nv:CV) (n0:Int) (v0:CV) (len i:Nat) (c:Cel) (Q:List Cel) (w:CV) (n:Nat) (s:St):Prop:=
 ∃ (j:Nat) (l:List (Nat × TV)),s=ST 278 l [[.int .i64 c.f,.int .i64 c.s,.int .i64 c.c,.int .i64 c.o,.int .i64 c.p]] h'∧j≤Q.length∧n=Q.length-j∧ClL ln cn t m h5n (h5n+1) (h5n+2) nv l∧
  lk l 19 = .v (.c (.int .i64 n0))∧lk l 83 = .v (.c v0)∧lk l 84 = .v (.c (.int .i64 len))∧lk l 85 = .v (.c (.int .i64 i))∧lk l 22 = .lp 0 0∧lk l 23 = .v (.c (.bool ((Q.take j).any (mateB n0 c))))∧
  lk l 142 = .v (.c w)∧lk l 143 = .v (.c (.int .i64 Q.length))∧lk l 144 = .v (.c (.int .i64 j))
def ClD (h7:Hp) (m1 t m m2:Nat) (nv:CV) (clock:Nat) (es:List ME) (n:Nat) (s:St):Prop:=
 ∃ (V:List ME) (h':Hp) (l:List (Nat × TV)) (lc:List (List CV)),s=ST 278 l lc h'∧(∀ e∈V,e∈es)∧(V.map (·.born)).Nodup∧n=es.length-V.length∧Fn h7 h'∧h'.g h7.n=some (.miter (some m1) clock (V.map (·.born)) clock)∧
  lk l 14 = .v (.c (.ptr t 0 0 0))∧lk l 15 = .v (.c (.map m))∧lk l 16 = .v (.c nv)∧lk l 18 = .v (.c (.map m2))∧lk l 184 = .v (.c (.it h7.n))
def ClE (h7:Hp) (m2 t m:Nat) (nv:CV) (clock:Nat) (es:List ME) (n:Nat) (s:St):Prop:=
 ∃ (V:List ME) (h':Hp) (l:List (Nat × TV)) (lc:List (List CV)),s=ST 278 l lc h'∧(∀ e∈V,e∈es)∧(V.map (·.born)).Nodup∧n=es.length-V.length∧Fn h7 h'∧h'.g h7.n=some (.miter (some m2) clock (V.map (·.born)) clock)∧
  lk l 14 = .v (.c (.ptr t 0 0 0))∧lk l 15 = .v (.c (.map m))∧lk l 16 = .v (.c nv)∧lk l 192 = .v (.c (.it h7.n))
def ClF (h8:Hp) (t m:Nat) (nv w:CV) (ol:List Int) (D:List DN) (n:Nat) (s:St):Prop:=
 ∃ (i:Nat) (h':Hp) (l:List (Nat × TV)) (lc:List (List CV)),s=ST 278 l lc h'∧i≤ol.length∧n=ol.length-i∧Fn h8 h'∧
  lk l 14 = .v (.c (.ptr t 0 0 0))∧lk l 15 = .v (.c (.map m))∧lk l 16 = .v (.c nv)∧lk l 30 = .v (.c (.int .i64 (wo D (nz (ol.take i)):Nat)))∧lk l 200 = .v (.c w)∧lk l 201 = .v (.c (.int .i64 ol.length))∧lk l 202 = .v (.c (.int .i64 i))
def uC (p:Int) (c:Cel):Bool:=decide (c.p=p) && !decide (andI c.o 1=0)
def dC (p:Int) (c:Cel):Bool:=decide (c.p=p) && (!decide (andI c.o 2=0) && !decide (andI c.o 8=0))
def ClG (h9:Hp) (t m wi i len:Nat) (nv w u q:CV) (p:Int) (Q:List Cel) (n:Nat) (s:St):Prop:=
 ∃ (j:Nat) (l:List (Nat × TV)) (lc:List (List CV)),s=ST 278 l lc h9∧j≤Q.length∧n=Q.length-j∧
  lk l 14 = .v (.c (.ptr t 0 0 0))∧lk l 15 = .v (.c (.map m))∧lk l 16 = .v (.c nv)∧lk l 30 = .v (.c (.int .i64 wi))∧lk l 33 = .v (.c u)∧lk l 34 = .v (.c (.int .i64 (((Q.take j).filter (uC p)).length:Nat)))∧lk l 35 = .v (.c (.int .i64 (((Q.take j).filter (dC p)).length:Nat)))∧
  lk l 200 = .v (.c w)∧lk l 201 = .v (.c (.int .i64 len))∧lk l 202 = .v (.c (.int .i64 i))∧lk l 218 = .v (.c q)∧lk l 219 = .v (.c (.int .i64 Q.length))∧lk l 220 = .v (.c (.int .i64 j))
theorem allocClean_ok {nodes least length chans:Int} {v:CV} {C:List Cl} (hl:SL h 3 v (rC C)) (hC:∀ c∈C,SL h 3 c.v (rL c.L)) (hP:∀ h',P (.c (.bool true)) h') :
 callW N (k+102) 248 [.c (.int .i64 nodes),.c v,.c (.int .i64 least),.c (.int .i64 length),.c (.int .i64 chans)] h P:=by
 refine call_intro rfl (by simp only [List.length_cons,List.length_nil];omega) ?_
 simp (maxSteps:=200000) -implicitDefEqProofs only [KA,KB,KC,KD,KE,KF,eq_self,ne_eq,↓reduceIte,Nat.reduceLT,Nat.reduceEqDiff,Nat.reduceAdd,Nat.reduceLeDiff,Nat.reduceSub,Nat.reduceMul,reduceCtorEq]
 refine made_ok (k:=k+97) hl hC fun h1 g m0 r nn q Q hg _ hR hn f1=>?_
 obtain ⟨nn,rfl⟩:∃ n:Nat,nn=n:=⟨nn.toNat,by omega⟩
 have z0:decide ((0:Int)=0)=true:=rfl
 have z1:(false == false)=true:=rfl
 have hu:=u64_mod chans 16 (by omega)
 have hu2:=u64_mod length 40 (by omega)
 obtain ⟨cn,hcn⟩:∃ cn:Nat,((cn:Nat):Int)=1+(IntKind.wrap .u64 chans).tmod 16:=⟨(1+(IntKind.wrap .u64 chans).tmod 16).toNat,by omega⟩
 obtain ⟨ln,hln⟩:∃ ln:Nat,((ln:Nat):Int)=1+(IntKind.wrap .u64 length).tmod 40:=⟨(1+(IntKind.wrap .u64 length).tmod 40).toNat,by omega⟩
 have w1:=wrap_i64 (n:=(IntKind.wrap .u64 chans).tmod 16) (by omega)
 have w2:IntKind.wrap .i64 (1+(IntKind.wrap .u64 chans).tmod 16)=(cn:Int):=by rw [wrap_i64 (by omega),hcn]
 have w3:=wrap_i64 (n:=(IntKind.wrap .u64 length).tmod 40) (by omega)
 have w4:IntKind.wrap .i64 (1+(IntKind.wrap .u64 length).tmod 40)=(ln:Int):=by rw [wrap_i64 (by omega),hln]
 have n16:¬(16:Int)=0:=by omega
 have n40:¬(40:Int)=0:=by omega
 simp (maxSteps:=200000) -implicitDefEqProofs only [KA,KB,KC,KD,KE,KF,eq_self,ne_eq,↓reduceIte,Nat.reduceLT,Nat.reduceEqDiff,Nat.reduceAdd,Nat.reduceLeDiff,Nat.reduceSub,Nat.reduceMul,reduceCtorEq,z0,w1,w2,w3,w4,n16,n40]
 have hq:=hR.qle
 refine build_ok (by omega) hg (by omega) hq fun h2 t hT f2=>?_
 have H:=falls (q:=q) (least:=least) (nn:=nn) (by omega) hq
 have hO:=olP (by omega) H
 generalize fol q least nn (rk q least nn)=par at hT hO
 generalize ordL q least nn nn=ol at hT hO
 generalize rk q least nn=f at hT
 clear H hg hq hR
 have hol:=hO.len
 simp (maxSteps:=200000) -implicitDefEqProofs only [KA,KB,KC,KD,KE,KF,eq_self,ne_eq,↓reduceIte,Nat.reduceLT,Nat.reduceEqDiff,Nat.reduceAdd,Nat.reduceLeDiff,Nat.reduceSub,Nat.reduceMul,reduceCtorEq]
 refine deal_ok (k:=k+1) (fr:=1) (ln:=ln) (cn:=cn) hT hol hO.nd hO.rng hO.prng hO.plen (by omega) (by omega) (by omega) fun h4 b m es clock Lk nv T f4 hM hLk hS hTp _=>?_
 obtain ⟨D,hD⟩:=deal_ds (fr:=1) (ln:=ln) (cn:=cn) hO (by omega) (by omega) (by omega) ol.length (Nat.le_refl _)
 rw [List.take_length] at hD
 have hLl:=(dealF_len 1 ln cn par ol).1
 generalize (dealF 1 ln cn par ol).1=L at hD hLk hLl
 generalize (dealF 1 ln cn par ol).2=out at hD hTp
 have hperm:=flat_all hM fun n=>(hLk n).1
 have hLl:L.length≤64:=by omega
 have hkey:∀ e∈es,e.key=kI (kN e):=by
  intro e he
  obtain ⟨n,v,q,_⟩:=hM.each e he
  simp only [kN,q]
 simp (maxSteps:=200000) -implicitDefEqProofs only [KA,KB,KC,KD,KE,KF,eq_self,ne_eq,↓reduceIte,Nat.reduceLT,Nat.reduceEqDiff,Nat.reduceAdd,Nat.reduceLeDiff,Nat.reduceSub,Nat.reduceMul,reduceCtorEq]
 refine clean_ok (k:=k+93) (F:=FE Lk) hM.hm hM.en.lt hM.en.nd (fun e he=>?_) (by rw [hperm.length_eq];omega) fun h5 f5=>?_
 ·obtain ⟨n,v,r1,r2,r3,_⟩:=hM.each e he
  refine ⟨hkey e he,v,r2,?_⟩
  have:kN e=n:=by simp only [kN,r1]
  unfold FE
  rw [this]
  exact r3.sl
 have hM:=hM.new f5
 rw [decide_eq_true ((cleanP_perm hperm).mpr hD.cl)]
 have hmem:∀ e∈es,∀ c∈Lk (kN e),(⟨kN e,c⟩:Hd)∈L:=by
  intro e he c hc
  refine hperm.mem_iff.mp (List.mem_flatMap.mpr ⟨e,he,?_⟩)
  exact List.mem_map.mpr ⟨c,hc,rfl⟩
 have hmemN:∀ n,∀ c∈Lk n,(⟨n,c⟩:Hd)∈L:=by
  intro n c hc
  have:=(hLk n).1.mem_iff.mp hc
  unfold celsN at this
  obtain ⟨x,hx,rfl⟩:=List.mem_map.mp this
  obtain ⟨h1,h2⟩:=List.mem_filter.mp hx
  simp at h2
  subst h2
  exact h1
 have hLkl:∀ n,(Lk n).length≤64:=fun n=>by have:=(hLk n).1.length_eq;have:=celsN_len L n;omega
 obtain ⟨h6,hh6⟩:∃ h6,h6=(h5.push (.map true [] 0)).push (.map true [] 0):=⟨_,rfl⟩
 have n5a:(h5.push (.map true [] 0)).n=h5.n+1:=n_push _ _
 have n6:h6.n=h5.n+2:=by rw [hh6,n_push,n5a]
 have g61:h6.g h5.n=some (.map true [] 0):=by rw [hh6,g_push_ne _ _ (by omega),g_push_eq]
 have g62:h6.g (h5.n+1)=some (.map true [] 0):=by rw [hh6,←n5a,g_push_eq]
 have f6:Fn h5 h6:=by rw [hh6];exact (Fm.push _ _ _).trans (Fm.push _ _ _)
 have hf6:=hh6.symm
 have hrg:=rgn_map (hM.new f6).hm
 simp (maxSteps:=200000) -implicitDefEqProofs only [KA,KB,KC,KD,KE,KF,eq_self,ne_eq,↓reduceIte,Nat.reduceLT,Nat.reduceEqDiff,Nat.reduceAdd,Nat.reduceLeDiff,Nat.reduceSub,Nat.reduceMul,reduceCtorEq,hf6,n5a,hrg,n6]
 have hM6:=hM.new f6
 have hpush:=Fm.push (fun _=>False) h6 (.miter (some m) clock [] clock)
 refine loop_rd (callW_mono N _) (ClA h5 ln cn t m nv clock es Lk) (n:=es.length) ⟨[],_,_,_,rfl,by simp,by simp,by simp,f6.trans hpush,(CM.nil (g:=gNS) g61).mono hpush (fun e=>e),(CM.nil (g:=gSC) g62).mono hpush (fun e=>e),by rw [←n6,g_push_eq];rfl,⟨rfl,rfl,rfl,rfl,rfl,rfl,rfl,rfl⟩⟩ ?_
 rintro n s ⟨V,h7,l,lc,rfl,hV,hVn,hnV,f7,hC1,hC2,hit,e3,e4,e14,e15,e16,e17,e18,e77⟩
 have hM7:=hM.new f7
 simp (maxSteps:=200000) -implicitDefEqProofs only [KA,KB,KC,KD,KE,KF,eq_self,ne_eq,↓reduceIte,Nat.reduceLT,Nat.reduceEqDiff,Nat.reduceAdd,Nat.reduceLeDiff,Nat.reduceSub,Nat.reduceMul,reduceCtorEq,e3,e4,e14,e15,e16,e17,e18,e77]
 refine nx_map (id:=h5.n+2) (m:=m) (clock:=clock) (seen:=V.map (·.born)) (by simp only [evN_t,lk_cons,lk_nil];rfl) hit hM7.hm hM.en.lt (fun e he hnb=>?_) fun hall=>?_
 ·obtain ⟨n0,v0,r1,r2,r3,r4,r5⟩:=hM7.each e he
  have hkn:kN e=n0:=by simp only [kN,r1]
  obtain ⟨h8,hh8⟩:∃ h8,h8=h7.put (h5.n+2) (.miter (some m) clock (V.map (·.born)++[e.born]) clock):=⟨_,rfl⟩
  have f8:Fm (fun j=>j=h5.n+2) h7 h8:=by rw [hh8];exact Fm.put _ _ rfl
  have hit8:h8.g (h5.n+2)=some (.miter (some m) clock (V.map (·.born)++[e.born]) clock):=by rw [hh8,g_put_eq,hit];rfl
  have hmn:=lt_of_g hM.hm
  have hm8:=f8.some hM7.hm (fun e=>by omega)
  have hen:=entry_at hit8 hm8 he hM.en.nd
  rw [r1,r2] at hen
  have hfold8:=hh8.symm
  obtain ⟨hVe1,hVe2⟩:=sub_snoc hV hVn he hnb
  have hVl:=sub_length hVe1 hVe2
  rw [List.length_append,List.length_singleton] at hVl
  have hlv:∀ h':Hp,lenT h' .sl (.v (.c v0))=some ((Lk n0).length:Int):=fun h'=>by rw [r3.sl.len h',List.length_map]
  have f08:Fn h5 h8:=f7.fresh f8 (fun j hj=>by omega)
  have hfl:flatM (FE Lk) (V++[e])=flatM (FE Lk) V++(Lk n0).map fun c=>⟨n0,c⟩:=by
   rw [flat_snoc]
   unfold flatE FE
   simp only [hkn]
  simp (maxSteps:=200000) -implicitDefEqProofs only [KA,KB,KC,KD,KE,KF,eq_self,ne_eq,↓reduceIte,Nat.reduceLT,Nat.reduceEqDiff,Nat.reduceAdd,Nat.reduceLeDiff,Nat.reduceSub,Nat.reduceMul,reduceCtorEq,hfold8,hen,hlv]
  refine loop_rd (callW_mono N _) (ClB h5 ln cn t m nv clock V Lk n0 v0 e) (n:=(Lk n0).length) ⟨0,h8,_,_,rfl,by omega,by omega,f08,by simpa using hC1.mono f8 (by omega),by simpa using hC2.mono f8 (by omega),hit8,⟨rfl,rfl,rfl,rfl,rfl,rfl,rfl,rfl⟩,rfl,rfl,rfl,rfl⟩ ?_
  clear e3 e4 e14 e15 e16 e17 e18 e77 hC1 hC2
  rintro n2 s ⟨i,h9,l,lc,rfl,hi,hn2,f9,hC1,hC2,hit9,⟨e3,e4,e14,e15,e16,e17,e18,e77⟩,e19,e83,e84,e85⟩
  by_cases hlt:(i:Int)<((Lk n0).length:Int)
  ·have hil:i<(Lk n0).length:=by omega
   obtain ⟨c,hc⟩:=some_at (L:=Lk n0) (i:=i) hil
   have hcm:=List.mem_of_getElem? hc
   have hcL:=hmemN n0 c hcm
   have hrow:((Lk n0).map encE)[(i:Int).toNat]? = some (encE c):=by simp [hc]
   have hM9:=hM.new f9
   have hsl9:SL h9 5 v0 ((Lk n0).map encE):=by
    obtain ⟨n1,v1,q1,q2,q3,_⟩:=hM9.each e he
    rw [r2] at q2
    injection q2 with q2
    rw [r1] at q1
    injection q1 with q1
    injection q1 with _ q1
    subst q1 q2
    exact q3.sl
   obtain ⟨p1,p2,p3,a1,a2⟩:=hsl9.at (by omega) hrow
   have a2':rowO (h9.g p1) p2 p3=some [.int .i64 c.f,.int .i64 c.s,.int .i64 c.c,.int .i64 c.o,.int .i64 c.p]:=a2
   have wi:=wrap_i64 (n:=(i:Int)+1) (by have:=hLkl n0;omega)
   obtain ⟨⟨s1,s2⟩,⟨s3,s4⟩,s5,s6⟩:=hD.rng hcL
   simp only at s1 s2 s3 s4 s5 s6
   have d1:¬c.s<0:=by omega
   have d2:¬(ln:Int)≤c.s:=by omega
   have d3:¬c.c<0:=by omega
   have d4:¬(cn:Int)≤c.c:=by omega
   have d5:decide (c.f=1)=true:=decide_eq_true s5
   have d6:decide (andI c.o 4=0)=true:=decide_eq_true s6
   obtain ⟨x1,x2,x3,x4,x5,i1,i2,i3,i4,i5,i6,x6,i7,i8⟩:=hC1.inc ⟨n0,c⟩
   have hsm:∀ g,cntP g (flatM (FE Lk) V++((Lk n0).take i).map fun c=>(⟨n0,c⟩:Hd)) (g ⟨n0,c⟩)≤64:=by
    intro g
    have h1:cntP g (flatM (FE Lk) V++((Lk n0).take i).map fun c=>(⟨n0,c⟩:Hd)) (g ⟨n0,c⟩)≤(flatM (FE Lk) V++((Lk n0).take i).map fun c=>(⟨n0,c⟩:Hd)).length:=List.length_filter_le _ _
    obtain ⟨R,hR⟩:=sub_perm hVe2 hVe1
    have h2:=(hR.flatMap_right (flatE (FE Lk))).length_eq
    rw [List.flatMap_append,List.length_append] at h2
    have h3:=hperm.length_eq
    unfold flatM at h3 hfl h1 ⊢
    rw [hfl,List.length_append,List.length_map] at h2
    rw [List.length_append,List.length_map,List.length_take] at h1
    omega
   have hs1:=hsm gNS
   have hs2:=hsm gSC
   obtain ⟨y1,y2,y3,y4,y5,j1,j2,j3,j4,j5,j6,y6,j7,j8⟩:=(hC2.mono i6 (by omega)).inc ⟨n0,c⟩
   have wx:IntKind.wrap .i64 (((cntP gNS (flatM (FE Lk) V++((Lk n0).take i).map fun c=>(⟨n0,c⟩:Hd)) (gNS ⟨n0,c⟩):Nat):Int)+1)=((cntP gNS (flatM (FE Lk) V++((Lk n0).take i).map fun c=>(⟨n0,c⟩:Hd)) (gNS ⟨n0,c⟩)+1:Nat):Int):=by rw [wrap_i64 (by omega)];omega
   have wy:IntKind.wrap .i64 (((cntP gSC (flatM (FE Lk) V++((Lk n0).take i).map fun c=>(⟨n0,c⟩:Hd)) (gSC ⟨n0,c⟩):Nat):Int)+1)=((cntP gSC (flatM (FE Lk) V++((Lk n0).take i).map fun c=>(⟨n0,c⟩:Hd)) (gSC ⟨n0,c⟩)+1:Nat):Int):=by rw [wrap_i64 (by omega)];omega
   generalize cntP gNS (flatM (FE Lk) V++((Lk n0).take i).map fun c=>(⟨n0,c⟩:Hd)) (gNS ⟨n0,c⟩)=cx at i2 i4 i8 wx hs1
   generalize cntP gSC (flatM (FE Lk) V++((Lk n0).take i).map fun c=>(⟨n0,c⟩:Hd)) (gSC ⟨n0,c⟩)=cy at j2 j4 j8 wy hs2
   have i1:lookT h9 (.arr 2 .i64) (.v (.c (.map h5.n))) (some (.agg [.int .i64 n0,.int .i64 c.s]))=some x1:=i1
   have i3:mentT h9 (.arr 2 .i64) (.c (.int .i64 0)) (.v (.c (.map h5.n))) (some (.agg [.int .i64 n0,.int .i64 c.s]))=some (x2,x3,x4):=i3
   have j1:lookT x5 (.arr 2 .i64) (.v (.c (.map (h5.n+1)))) (some (.agg [.int .i64 c.s,.int .i64 c.c]))=some y1:=j1
   have j3:mentT x5 (.arr 2 .i64) (.c (.int .i64 0)) (.v (.c (.map (h5.n+1)))) (some (.agg [.int .i64 c.s,.int .i64 c.c]))=some (y2,y3,y4):=j3
   have i7:lookT x4 (.arr 2 .i64) (.v (.c (.map h5.n))) (some (.agg [.int .i64 n0,.int .i64 c.s]))=some x6:=i7
   have j7:lookT y4 (.arr 2 .i64) (.v (.c (.map (h5.n+1)))) (some (.agg [.int .i64 c.s,.int .i64 c.c]))=some y6:=j7
   have f10:Fn h5 y5:=(f9.fresh i6 (fun j hj=>by omega)).fresh j6 (fun j hj=>by omega)
   have hM10:=hM.new f10
   obtain ⟨z,hz,q1,q2,q3,q4,q5⟩:=hD.peer hcL
   simp only at q1 q2 q3 q4 q5
   have hzP:z.c∈Lk c.p:=(hLk c.p).1.mem_iff.mpr (by
    unfold celsN
    exact List.mem_map_of_mem (List.mem_filter.mpr ⟨hz,by simpa using q1⟩))
   have hne:Lk c.p≠[]:=List.ne_nil_of_mem hzP
   rcases hM10.look c.p with ⟨t1,_⟩|⟨e',he',w',t1,t2,t3,t4,t5,t6⟩
   ·exact absurd t1 hne
   have hlw:∀ h':Hp,lenT h' .sl (.v (.c w'))=some ((Lk c.p).length:Int):=fun h'=>by rw [t3.sl.len h',List.length_map]
   simp (maxSteps:=200000) -implicitDefEqProofs only [KA,KB,KC,KD,KE,KF,eq_self,ne_eq,↓reduceIte,Nat.reduceLT,Nat.reduceEqDiff,Nat.reduceAdd,Nat.reduceLeDiff,Nat.reduceSub,Nat.reduceMul,reduceCtorEq,e3,e4,e14,e15,e16,e17,e18,e77,e19,e83,e84,e85,hlt,a1,a2',o_ment,o_mest,i1,i2,i3,i4,i7,i8,wx,j1,j2,j3,j4,j7,j8,wy,d1,d2,d3,d4,d5,d6,andI_fold,t6,Option.getD_some,hlw,asI_i]
   refine loop_rd (callW_mono N _) (ClC y5 h5.n ln cn t m nv n0 v0 (Lk n0).length i c (Lk c.p) w') (n:=(Lk c.p).length) ⟨0,_,rfl,by omega,by omega,⟨rfl,rfl,rfl,rfl,rfl,rfl,rfl,rfl⟩,rfl,rfl,rfl,rfl,rfl,rfl,rfl,rfl,rfl⟩ ?_
   clear e3 e4 e14 e15 e16 e17 e18 e77 e19 e83 e84 e85
   rintro n3 s ⟨j,l,rfl,hj,hn3,⟨e3,e4,e14,e15,e16,e17,e18,e77⟩,e19,e83,e84,e85,e22,e23,e142,e143,e144⟩
   by_cases hlt2:(j:Int)<((Lk c.p).length:Int)
   ·have hjl:j<(Lk c.p).length:=by omega
    obtain ⟨x,hx⟩:=some_at (L:=Lk c.p) (i:=j) hjl
    have hrowx:((Lk c.p).map encE)[(j:Int).toNat]? = some (encE x):=by simp [hx]
    obtain ⟨p1',p2',p3',b1,b2⟩:=t3.sl.at (by omega) hrowx
    have b2':rowO (y5.g p1') p2' p3'=some [.int .i64 x.f,.int .i64 x.s,.int .i64 x.c,.int .i64 x.o,.int .i64 x.p]:=b2
    have wj:=wrap_i64 (n:=(j:Int)+1) (by have:=hLkl c.p;omega)
    have hany:((Lk c.p).take (j+1)).any (mateB n0 c)=(((Lk c.p).take j).any (mateB n0 c) || mateB n0 c x):=by
     rw [take_snoc hx,List.any_append]
     simp
    cases ho:((Lk c.p).take j).any (mateB n0 c) with
    | true=>
     rw [ho] at e23 hany
     simp (maxSteps:=200000) -implicitDefEqProofs only [KA,KB,KC,KD,KE,KF,eq_self,ne_eq,↓reduceIte,Nat.reduceLT,Nat.reduceEqDiff,Nat.reduceAdd,Nat.reduceLeDiff,Nat.reduceSub,Nat.reduceMul,reduceCtorEq,e3,e4,e14,e15,e16,e17,e18,e77,e19,e83,e84,e85,e22,e23,e142,e143,e144,hlt2,b1,b2',wj,rd_n]
     exact ⟨n3-1,by omega,j+1,_,rfl,by omega,by omega,⟨rfl,rfl,rfl,rfl,rfl,rfl,rfl,rfl⟩,rfl,rfl,rfl,rfl,rfl,by rw [hany];rfl,rfl,rfl,rfl⟩
    | false=>
     rw [ho] at e23 hany
     rw [Bool.false_or] at hany
     unfold mateB at hany
     by_cases g1:x.s=c.s
     ·have g1':decide (x.s=c.s)=true:=decide_eq_true g1
      by_cases g2:x.c=c.c
      ·have g2':decide (x.c=c.c)=true:=decide_eq_true g2
       by_cases g3:x.p=n0
       ·have g3':decide (x.p=n0)=true:=decide_eq_true g3
        by_cases g4:andI x.o 3=xor3 (andI c.o 3)
        ·have g4':decide (andI x.o 3=xor3 (andI c.o 3))=true:=decide_eq_true g4
         simp (maxSteps:=200000) -implicitDefEqProofs only [KA,KB,KC,KD,KE,KF,eq_self,ne_eq,↓reduceIte,Nat.reduceLT,Nat.reduceEqDiff,Nat.reduceAdd,Nat.reduceLeDiff,Nat.reduceSub,Nat.reduceMul,reduceCtorEq,e3,e4,e14,e15,e16,e17,e18,e77,e19,e83,e84,e85,e22,e23,e142,e143,e144,hlt2,b1,b2',g1',g2',g3',andI_fold,xor_fold,g4',wj,rd_n]
         exact ⟨n3-1,by omega,j+1,_,rfl,by omega,by omega,⟨rfl,rfl,rfl,rfl,rfl,rfl,rfl,rfl⟩,rfl,rfl,rfl,rfl,rfl,by rw [show ((Lk c.p).take (j+1)).any (mateB n0 c)=_ from hany,g1',g2',g3',g4'];rfl,rfl,rfl,rfl⟩
        ·have g4':decide (andI x.o 3=xor3 (andI c.o 3))=false:=decide_eq_false g4
         simp (maxSteps:=200000) -implicitDefEqProofs only [KA,KB,KC,KD,KE,KF,eq_self,ne_eq,↓reduceIte,Nat.reduceLT,Nat.reduceEqDiff,Nat.reduceAdd,Nat.reduceLeDiff,Nat.reduceSub,Nat.reduceMul,reduceCtorEq,e3,e4,e14,e15,e16,e17,e18,e77,e19,e83,e84,e85,e22,e23,e142,e143,e144,hlt2,b1,b2',g1',g2',g3',andI_fold,xor_fold,g4,wj,rd_n]
         exact ⟨n3-1,by omega,j+1,_,rfl,by omega,by omega,⟨rfl,rfl,rfl,rfl,rfl,rfl,rfl,rfl⟩,rfl,rfl,rfl,rfl,rfl,by rw [show ((Lk c.p).take (j+1)).any (mateB n0 c)=_ from hany,g1',g2',g3',g4'];rfl,rfl,rfl,rfl⟩
       ·have g3':decide (x.p=n0)=false:=decide_eq_false g3
        simp (maxSteps:=200000) -implicitDefEqProofs only [KA,KB,KC,KD,KE,KF,eq_self,ne_eq,↓reduceIte,Nat.reduceLT,Nat.reduceEqDiff,Nat.reduceAdd,Nat.reduceLeDiff,Nat.reduceSub,Nat.reduceMul,reduceCtorEq,e3,e4,e14,e15,e16,e17,e18,e77,e19,e83,e84,e85,e22,e23,e142,e143,e144,hlt2,b1,b2',g1',g2',g3,wj,rd_n]
        exact ⟨n3-1,by omega,j+1,_,rfl,by omega,by omega,⟨rfl,rfl,rfl,rfl,rfl,rfl,rfl,rfl⟩,rfl,rfl,rfl,rfl,rfl,by rw [show ((Lk c.p).take (j+1)).any (mateB n0 c)=_ from hany,g1',g2',g3'];rfl,rfl,rfl,rfl⟩
      ·have g2':decide (x.c=c.c)=false:=decide_eq_false g2
       simp (maxSteps:=200000) -implicitDefEqProofs only [KA,KB,KC,KD,KE,KF,eq_self,ne_eq,↓reduceIte,Nat.reduceLT,Nat.reduceEqDiff,Nat.reduceAdd,Nat.reduceLeDiff,Nat.reduceSub,Nat.reduceMul,reduceCtorEq,e3,e4,e14,e15,e16,e17,e18,e77,e19,e83,e84,e85,e22,e23,e142,e143,e144,hlt2,b1,b2',g1',g2,wj,rd_n]
       exact ⟨n3-1,by omega,j+1,_,rfl,by omega,by omega,⟨rfl,rfl,rfl,rfl,rfl,rfl,rfl,rfl⟩,rfl,rfl,rfl,rfl,rfl,by rw [show ((Lk c.p).take (j+1)).any (mateB n0 c)=_ from hany,g1',g2'];rfl,rfl,rfl,rfl⟩
     ·have g1':decide (x.s=c.s)=false:=decide_eq_false g1
      simp (maxSteps:=200000) -implicitDefEqProofs only [KA,KB,KC,KD,KE,KF,eq_self,ne_eq,↓reduceIte,Nat.reduceLT,Nat.reduceEqDiff,Nat.reduceAdd,Nat.reduceLeDiff,Nat.reduceSub,Nat.reduceMul,reduceCtorEq,e3,e4,e14,e15,e16,e17,e18,e77,e19,e83,e84,e85,e22,e23,e142,e143,e144,hlt2,b1,b2',g1,wj,rd_n]
      exact ⟨n3-1,by omega,j+1,_,rfl,by omega,by omega,⟨rfl,rfl,rfl,rfl,rfl,rfl,rfl,rfl⟩,rfl,rfl,rfl,rfl,rfl,by rw [show ((Lk c.p).take (j+1)).any (mateB n0 c)=_ from hany,g1'];rfl,rfl,rfl,rfl⟩
   ·have htrue:((Lk c.p).take j).any (mateB n0 c)=true:=by
     rw [List.take_of_length_le (by omega),List.any_eq_true]
     refine ⟨z.c,hzP,?_⟩
     unfold mateB
     rw [decide_eq_true q2,decide_eq_true q3,decide_eq_true q4]
     rcases q5 with ⟨u1,u2⟩|⟨u1,u2⟩
     ·rw [u1,u2,xor31];rfl
     ·rw [u1,u2,xor32];rfl
    rw [htrue] at e23
    simp (maxSteps:=200000) -implicitDefEqProofs only [KA,KB,KC,KD,KE,KF,eq_self,ne_eq,↓reduceIte,Nat.reduceLT,Nat.reduceEqDiff,Nat.reduceAdd,Nat.reduceLeDiff,Nat.reduceSub,Nat.reduceMul,reduceCtorEq,e3,e4,e14,e15,e16,e17,e18,e77,e19,e83,e84,e85,e22,e23,e142,e143,e144,hlt2,wi,rd_n]
    refine ⟨n2-1,by omega,i+1,y5,_,_,rfl,by omega,by omega,f10,?_,?_,j6.some (i6.some hit9 (fun e=>by omega)) (fun e=>by omega),⟨rfl,rfl,rfl,rfl,rfl,rfl,rfl,rfl⟩,rfl,rfl,rfl,rfl⟩
    ·rw [take_snoc hc,List.map_append,←List.append_assoc]
     exact i5.mono j6 (by omega)
    ·rw [take_snoc hc,List.map_append,←List.append_assoc]
     exact j5
  ·simp (maxSteps:=200000) -implicitDefEqProofs only [KA,KB,KC,KD,KE,KF,eq_self,ne_eq,↓reduceIte,Nat.reduceLT,Nat.reduceEqDiff,Nat.reduceAdd,Nat.reduceLeDiff,Nat.reduceSub,Nat.reduceMul,reduceCtorEq,e3,e4,e14,e15,e16,e17,e18,e77,e19,e83,e84,e85,hlt,rd_n]
   have htl:(Lk n0).take i=Lk n0:=List.take_of_length_le (by omega)
   rw [htl,←hfl] at hC1 hC2
   exact ⟨n-1,by omega,V++[e],h9,_,_,rfl,hVe1,hVe2,by rw [List.length_append,List.length_singleton];omega,f9,hC1,hC2,by rw [List.map_append];exact hit9,rfl,rfl,rfl,rfl,rfl,rfl,rfl,rfl⟩
 ·
  have hfull:=sub_full hM.en.nd hV hVn hall
  have hPr:(flatM (FE Lk) V).Perm L:=((hfull.flatMap_right (flatE (FE Lk))).symm).trans hperm
  obtain ⟨es1,k1,hm1,hE1,v1,_⟩:=hC1
  obtain ⟨es2,k2,hm2,hE2,v2,_⟩:=hC2
  have hone:∀ e∈es1,e.val = .c (.int .i64 1):=by
   intro e he
   obtain ⟨p,_,q2,q3⟩:=v1 e he
   rw [cntP_perm hPr] at q2 q3
   have:=hD.one p
   rw [q2,show cntP gNS L p=1 by omega]
   rfl
  have htwo:∀ e∈es2,e.val = .c (.int .i64 2):=by
   intro e he
   obtain ⟨p,_,q2,q3⟩:=v2 e he
   rw [cntP_perm hPr] at q2 q3
   rw [q2,hD.two q3]
   rfl
  have hrg1:=rgn_map hm1
  have c11:decide ((1:Int)=1)=true:=rfl
  have c22:decide ((2:Int)=2)=true:=rfl
  simp (maxSteps:=200000) -implicitDefEqProofs only [KA,KB,KC,KD,KE,KF,eq_self,ne_eq,↓reduceIte,Nat.reduceLT,Nat.reduceEqDiff,Nat.reduceAdd,Nat.reduceLeDiff,Nat.reduceSub,Nat.reduceMul,reduceCtorEq,hrg1]
  refine loop_rd (callW_mono N _) (ClD h7 h5.n t m (h5.n+1) nv k1 es1) (n:=es1.length) ⟨[],_,_,_,rfl,by simp,by simp,by simp,Fm.push _ _ _,by rw [g_push_eq];rfl,rfl,rfl,rfl,rfl,rfl⟩ ?_
  clear e3 e4 e14 e15 e16 e17 e18 e77
  rintro n2 s ⟨W,h8,l,lc,rfl,hW,hWn,hnW,f8,hit8,e14,e15,e16,e18,e184⟩
  have hm18:=f8.some hm1 (fun e=>e)
  simp (maxSteps:=200000) -implicitDefEqProofs only [KA,KB,KC,KD,KE,KF,eq_self,ne_eq,↓reduceIte,Nat.reduceLT,Nat.reduceEqDiff,Nat.reduceAdd,Nat.reduceLeDiff,Nat.reduceSub,Nat.reduceMul,reduceCtorEq,e14,e15,e16,e18,e184]
  refine nx_map (id:=h7.n) (m:=h5.n) (clock:=k1) (seen:=W.map (·.born)) (by simp only [evN_t,lk_cons,lk_nil];rfl) hit8 hm18 hE1.lt (fun e he hnb=>?_) fun hall=>?_
  ·obtain ⟨h9,hh9⟩:∃ h9,h9=h8.put h7.n (.miter (some h5.n) k1 (W.map (·.born)++[e.born]) k1):=⟨_,rfl⟩
   have f9:Fm (fun j=>j=h7.n) h8 h9:=by rw [hh9];exact Fm.put _ _ rfl
   have hit9:h9.g h7.n=some (.miter (some h5.n) k1 (W.map (·.born)++[e.born]) k1):=by rw [hh9,g_put_eq,hit8];rfl
   have hn7:=lt_of_g hm1
   have hm9:=f9.some hm18 (fun e=>by omega)
   have hen:=entry_at hit9 hm9 he hE1.nd
   rw [hone e he] at hen
   have hfold:=hh9.symm
   obtain ⟨q1,q2⟩:=sub_snoc hW hWn he hnb
   have q3:=sub_length q1 q2
   rw [List.length_append,List.length_singleton] at q3
   simp (maxSteps:=200000) -implicitDefEqProofs only [KA,KB,KC,KD,KE,KF,eq_self,ne_eq,↓reduceIte,Nat.reduceLT,Nat.reduceEqDiff,Nat.reduceAdd,Nat.reduceLeDiff,Nat.reduceSub,Nat.reduceMul,reduceCtorEq,hfold,hen,c11,rd_n]
   exact ⟨n2-1,by omega,W++[e],h9,_,_,rfl,q1,q2,by rw [List.length_append,List.length_singleton];omega,f8.fresh f9 (fun j hj=>by omega),by rw [List.map_append];exact hit9,rfl,rfl,rfl,rfl,rfl⟩
  have hm28:=f8.some hm2 (fun e=>e)
  have hrg2:=rgn_map hm28
  simp (maxSteps:=200000) -implicitDefEqProofs only [KA,KB,KC,KD,KE,KF,eq_self,ne_eq,↓reduceIte,Nat.reduceLT,Nat.reduceEqDiff,Nat.reduceAdd,Nat.reduceLeDiff,Nat.reduceSub,Nat.reduceMul,reduceCtorEq,hrg2]
  refine loop_rd (callW_mono N _) (ClE h8 (h5.n+1) t m nv k2 es2) (n:=es2.length) ⟨[],_,_,_,rfl,by simp,by simp,by simp,Fm.push _ _ _,by rw [g_push_eq];rfl,rfl,rfl,rfl,rfl⟩ ?_
  clear e14 e15 e16 e18 e184 hall
  rintro n3 s ⟨X,h9,l,lc,rfl,hX,hXn,hnX,f9,hit9,e14,e15,e16,e192⟩
  have hm29:=f9.some hm28 (fun e=>e)
  simp (maxSteps:=200000) -implicitDefEqProofs only [KA,KB,KC,KD,KE,KF,eq_self,ne_eq,↓reduceIte,Nat.reduceLT,Nat.reduceEqDiff,Nat.reduceAdd,Nat.reduceLeDiff,Nat.reduceSub,Nat.reduceMul,reduceCtorEq,e14,e15,e16,e192]
  refine nx_map (id:=h8.n) (m:=h5.n+1) (clock:=k2) (seen:=X.map (·.born)) (by simp only [evN_t,lk_cons,lk_nil];rfl) hit9 hm29 hE2.lt (fun e he hnb=>?_) fun hall=>?_
  ·obtain ⟨h10,hh10⟩:∃ h10,h10=h9.put h8.n (.miter (some (h5.n+1)) k2 (X.map (·.born)++[e.born]) k2):=⟨_,rfl⟩
   have f10:Fm (fun j=>j=h8.n) h9 h10:=by rw [hh10];exact Fm.put _ _ rfl
   have hit10:h10.g h8.n=some (.miter (some (h5.n+1)) k2 (X.map (·.born)++[e.born]) k2):=by rw [hh10,g_put_eq,hit9];rfl
   have hn8:=lt_of_g hm28
   have hm10:=f10.some hm29 (fun e=>by omega)
   have hen:=entry_at hit10 hm10 he hE2.nd
   rw [htwo e he] at hen
   have hfold:=hh10.symm
   obtain ⟨q1,q2⟩:=sub_snoc hX hXn he hnb
   have q3:=sub_length q1 q2
   rw [List.length_append,List.length_singleton] at q3
   simp (maxSteps:=200000) -implicitDefEqProofs only [KA,KB,KC,KD,KE,KF,eq_self,ne_eq,↓reduceIte,Nat.reduceLT,Nat.reduceEqDiff,Nat.reduceAdd,Nat.reduceLeDiff,Nat.reduceSub,Nat.reduceMul,reduceCtorEq,hfold,hen,c22,rd_n]
   exact ⟨n3-1,by omega,X++[e],h10,_,_,rfl,q1,q2,by rw [List.length_append,List.length_singleton];omega,f9.fresh f10 (fun j hj=>by omega),by rw [List.map_append];exact hit10,rfl,rfl,rfl,rfl⟩
  have f59:Fn h5 h9:=(f7.trans f8).trans f9
  have f49:Fn h2 h9:=(f4.trans f5).trans f59
  have hM9:=hM.new f59
  simp (maxSteps:=200000) -implicitDefEqProofs only [KA,KB,KC,KD,KE,KF,eq_self,ne_eq,↓reduceIte,Nat.reduceLT,Nat.reduceEqDiff,Nat.reduceAdd,Nat.reduceLeDiff,Nat.reduceSub,Nat.reduceMul,reduceCtorEq]
  refine order_ok (k:=k+99) (hT.new f49) (by omega) fun h10 w hw f10=>?_
  have hlw:∀ h':Hp,lenT h' .sl (.v (.c w))=some (ol.length:Int):=fun h'=>by rw [hw.len h',rI_len]
  simp (maxSteps:=200000) -implicitDefEqProofs only [KA,KB,KC,KD,KE,KF,eq_self,ne_eq,↓reduceIte,Nat.reduceLT,Nat.reduceEqDiff,Nat.reduceAdd,Nat.reduceLeDiff,Nat.reduceSub,Nat.reduceMul,reduceCtorEq,hlw]
  refine loop_rd (callW_mono N _) (ClF h10 t m nv w ol D) (n:=ol.length) ⟨0,h10,_,_,rfl,by omega,by omega,Fm.refl _ _,rfl,rfl,rfl,rfl,rfl,rfl,rfl⟩ ?_
  clear e14 e15 e16 e192
  rintro n4 s ⟨i,h11,l,lc,rfl,hi,hn4,f11,e14,e15,e16,e30,e200,e201,e202⟩
  by_cases hlt:(i:Int)<(ol.length:Int)
  ·have hil:i<ol.length:=by omega
   obtain ⟨x,hx⟩:=some_at (L:=ol) (i:=i) hil
   have hxm:=mem_pre hx
   have hrow:(rI ol)[(i:Int).toNat]? = some [.int .i64 x]:=by simp [rI,hx]
   obtain ⟨p1,p2,p3,a1,a2⟩:=(hw.new f11).at (by omega) hrow
   have wi:=wrap_i64 (n:=(i:Int)+1) (by omega)
   simp (maxSteps:=200000) -implicitDefEqProofs only [KA,KB,KC,KD,KE,KF,eq_self,ne_eq,↓reduceIte,Nat.reduceLT,Nat.reduceEqDiff,Nat.reduceAdd,Nat.reduceLeDiff,Nat.reduceSub,Nat.reduceMul,reduceCtorEq,e14,e15,e16,e30,e200,e201,e202,hlt,a1,a2]
   refine parents_ok (k:=k+99) ((hT.new f49).new (f10.trans f11)) (by have:=hO.plen x;omega) fun h12 u hu f12=>?_
   have hnzs:=nz_snoc (ol.take i) x
   rw [←take_snoc hx] at hnzs
   by_cases cx:x=0
   ·have dx:decide (x=0)=true:=decide_eq_true cx
    rw [if_pos cx] at hnzs
    simp (maxSteps:=200000) -implicitDefEqProofs only [KA,KB,KC,KD,KE,KF,eq_self,ne_eq,↓reduceIte,Nat.reduceLT,Nat.reduceEqDiff,Nat.reduceAdd,Nat.reduceLeDiff,Nat.reduceSub,Nat.reduceMul,reduceCtorEq,dx,wi,rd_n]
    exact ⟨n4-1,by omega,i+1,h12,_,_,rfl,by omega,by omega,f11.trans f12,rfl,rfl,rfl,by rw [hnzs];rfl,rfl,rfl,rfl⟩
   rw [if_neg cx] at hnzs
   cases hpx:par x with
   | nil=>exact absurd hpx (hO.pne x hxm cx)
   | cons p ps=>
    have hlu:∀ h':Hp,lenT h' .sl (.v (.c u))=some ((ps.length+1:Nat):Int):=fun h'=>by rw [hu.len h',rI_len,hpx];rfl
    have z3:¬((ps.length+1:Nat):Int)=0:=by omega
    have hrow0:(rI (par x))[(0:Int).toNat]? = some [.int .i64 p]:=by rw [hpx];rfl
    obtain ⟨b1,b2,b3,u1,u2⟩:=hu.at (Int.le_refl 0) hrow0
    have hM12:=(hM9.new (f10.trans f11)).new f12
    have hqq:∃ r w',lookT h12 (.int .i64) (.v (.c (.map m))) (some (.c (.int .i64 x)))=some r∧r.getD (.c .nils) = .c w'∧SL h12 5 w' ((Lk x).map encE):=by
     rcases hM12.look x with ⟨t1,t2⟩|⟨e',he',w',t1,t2,t3,t4,t5,t6⟩
     ·exact ⟨_,.nils,t2,rfl,by rw [t1];rfl⟩
     ·exact ⟨_,w',t6,rfl,t3.sl⟩
    obtain ⟨r,w',t1,t2,t3⟩:=hqq
    have hlq:∀ h':Hp,lenT h' .sl (.v (.c w'))=some ((Lk x).length:Int):=fun h'=>by rw [t3.len h',List.length_map]
    have hx0:¬x=0:=cx
    simp (maxSteps:=200000) -implicitDefEqProofs only [KA,KB,KC,KD,KE,KF,eq_self,ne_eq,↓reduceIte,Nat.reduceLT,Nat.reduceEqDiff,Nat.reduceAdd,Nat.reduceLeDiff,Nat.reduceSub,Nat.reduceMul,reduceCtorEq,hx0,hlu,z3,t1,t2,hlq]
    refine loop_rd (callW_mono N _) (ClG h12 t m (wo D (nz (ol.take i))) i ol.length nv w u w' p (Lk x)) (n:=(Lk x).length) ⟨0,_,_,rfl,by omega,by omega,rfl,rfl,rfl,rfl,rfl,rfl,rfl,rfl,rfl,rfl,rfl,rfl,rfl⟩ ?_
    clear e14 e15 e16 e30 e200 e201 e202
    rintro n5 s ⟨j,l,lc,rfl,hj,hn5,e14,e15,e16,e30,e33,e34,e35,e200,e201,e202,e218,e219,e220⟩
    by_cases hlt2:(j:Int)<((Lk x).length:Int)
    ·have hjl:j<(Lk x).length:=by omega
     obtain ⟨c,hc⟩:=some_at (L:=Lk x) (i:=j) hjl
     have hrowx:((Lk x).map encE)[(j:Int).toNat]? = some (encE c):=by simp [hc]
     obtain ⟨p1',p2',p3',d1,d2⟩:=t3.at (by omega) hrowx
     have d2':rowO (h12.g p1') p2' p3'=some [.int .i64 c.f,.int .i64 c.s,.int .i64 c.c,.int .i64 c.o,.int .i64 c.p]:=d2
     have wj:=wrap_i64 (n:=(j:Int)+1) (by have:=hLkl x;omega)
     have hu1:(((Lk x).take (j+1)).filter (uC p)).length=(((Lk x).take j).filter (uC p)).length+if uC p c=true then 1 else 0:=by
      rw [take_snoc hc,filt_snoc]
     have hd1:(((Lk x).take (j+1)).filter (dC p)).length=(((Lk x).take j).filter (dC p)).length+if dC p c=true then 1 else 0:=by
      rw [take_snoc hc,filt_snoc]
     have hul:(((Lk x).take j).filter (uC p)).length≤64:=by have:=List.length_filter_le (uC p) ((Lk x).take j);rw [List.length_take] at this;have:=hLkl x;omega
     have hdl:(((Lk x).take j).filter (dC p)).length≤64:=by have:=List.length_filter_le (dC p) ((Lk x).take j);rw [List.length_take] at this;have:=hLkl x;omega
     generalize (((Lk x).take j).filter (uC p)).length=uj at hu1 hul e34
     generalize (((Lk x).take j).filter (dC p)).length=dj at hd1 hdl e35
     have wu:IntKind.wrap .i64 ((uj:Int)+1)=((uj+1:Nat):Int):=by rw [wrap_i64 (by omega)];omega
     have wd:IntKind.wrap .i64 ((dj:Int)+1)=((dj+1:Nat):Int):=by rw [wrap_i64 (by omega)];omega
     by_cases g0:c.p=p
     ·have g0':decide (c.p=p)=true:=decide_eq_true g0
      by_cases g1:andI c.o 1=0 <;> by_cases g2:andI c.o 2=0
      ·have g1':decide (andI c.o 1=0)=true:=decide_eq_true g1
       have g2':decide (andI c.o 2=0)=true:=decide_eq_true g2
       have hU:uC p c=false:=by unfold uC;rw [g0',g1'];rfl
       have hDn:dC p c=false:=by unfold dC;rw [g0',g2'];rfl
       simp (maxSteps:=200000) -implicitDefEqProofs only [KA,KB,KC,KD,KE,KF,eq_self,ne_eq,↓reduceIte,Nat.reduceLT,Nat.reduceEqDiff,Nat.reduceAdd,Nat.reduceLeDiff,Nat.reduceSub,Nat.reduceMul,reduceCtorEq,e14,e15,e16,e30,e33,e34,e35,e200,e201,e202,e218,e219,e220,hlt2,d1,d2',u1,u2,g0',andI_fold,g1',g2',wj,rd_n]
       exact ⟨n5-1,by omega,j+1,_,_,rfl,by omega,by omega,rfl,rfl,rfl,rfl,rfl,by rw [hu1,hU];rfl,by rw [hd1,hDn];rfl,rfl,rfl,rfl,rfl,rfl,rfl⟩
      ·have g1':decide (andI c.o 1=0)=true:=decide_eq_true g1
       have hU:uC p c=false:=by unfold uC;rw [g0',g1'];rfl
       by_cases g8:andI c.o 8=0
       ·have g8':decide (andI c.o 8=0)=true:=decide_eq_true g8
        have hDn:dC p c=false:=by unfold dC;rw [g0',g8',decide_eq_false g2];rfl
        simp (maxSteps:=200000) -implicitDefEqProofs only [KA,KB,KC,KD,KE,KF,eq_self,ne_eq,↓reduceIte,Nat.reduceLT,Nat.reduceEqDiff,Nat.reduceAdd,Nat.reduceLeDiff,Nat.reduceSub,Nat.reduceMul,reduceCtorEq,e14,e15,e16,e30,e33,e34,e35,e200,e201,e202,e218,e219,e220,hlt2,d1,d2',u1,u2,g0',andI_fold,g1',g2,g8',wj,rd_n]
        exact ⟨n5-1,by omega,j+1,_,_,rfl,by omega,by omega,rfl,rfl,rfl,rfl,rfl,by rw [hu1,hU];rfl,by rw [hd1,hDn];rfl,rfl,rfl,rfl,rfl,rfl,rfl⟩
       ·have hDn:dC p c=true:=by unfold dC;rw [g0',decide_eq_false g8,decide_eq_false g2];rfl
        simp (maxSteps:=200000) -implicitDefEqProofs only [KA,KB,KC,KD,KE,KF,eq_self,ne_eq,↓reduceIte,Nat.reduceLT,Nat.reduceEqDiff,Nat.reduceAdd,Nat.reduceLeDiff,Nat.reduceSub,Nat.reduceMul,reduceCtorEq,e14,e15,e16,e30,e33,e34,e35,e200,e201,e202,e218,e219,e220,hlt2,d1,d2',u1,u2,g0',andI_fold,g1',g2,g8,wd,wj,rd_n]
        exact ⟨n5-1,by omega,j+1,_,_,rfl,by omega,by omega,rfl,rfl,rfl,rfl,rfl,by rw [hu1,hU];rfl,by rw [hd1,hDn];rfl,rfl,rfl,rfl,rfl,rfl,rfl⟩
      ·have g2':decide (andI c.o 2=0)=true:=decide_eq_true g2
       have hU:uC p c=true:=by unfold uC;rw [g0',decide_eq_false g1];rfl
       have hDn:dC p c=false:=by unfold dC;rw [g0',g2'];rfl
       simp (maxSteps:=200000) -implicitDefEqProofs only [KA,KB,KC,KD,KE,KF,eq_self,ne_eq,↓reduceIte,Nat.reduceLT,Nat.reduceEqDiff,Nat.reduceAdd,Nat.reduceLeDiff,Nat.reduceSub,Nat.reduceMul,reduceCtorEq,e14,e15,e16,e30,e33,e34,e35,e200,e201,e202,e218,e219,e220,hlt2,d1,d2',u1,u2,g0',andI_fold,g1,g2',wu,wj,rd_n]
       exact ⟨n5-1,by omega,j+1,_,_,rfl,by omega,by omega,rfl,rfl,rfl,rfl,rfl,by rw [hu1,hU];rfl,by rw [hd1,hDn];rfl,rfl,rfl,rfl,rfl,rfl,rfl⟩
      ·have hU:uC p c=true:=by unfold uC;rw [g0',decide_eq_false g1];rfl
       by_cases g8:andI c.o 8=0
       ·have g8':decide (andI c.o 8=0)=true:=decide_eq_true g8
        have hDn:dC p c=false:=by unfold dC;rw [g0',g8',decide_eq_false g2];rfl
        simp (maxSteps:=200000) -implicitDefEqProofs only [KA,KB,KC,KD,KE,KF,eq_self,ne_eq,↓reduceIte,Nat.reduceLT,Nat.reduceEqDiff,Nat.reduceAdd,Nat.reduceLeDiff,Nat.reduceSub,Nat.reduceMul,reduceCtorEq,e14,e15,e16,e30,e33,e34,e35,e200,e201,e202,e218,e219,e220,hlt2,d1,d2',u1,u2,g0',andI_fold,g1,g2,g8',wu,wj,rd_n]
        exact ⟨n5-1,by omega,j+1,_,_,rfl,by omega,by omega,rfl,rfl,rfl,rfl,rfl,by rw [hu1,hU];rfl,by rw [hd1,hDn];rfl,rfl,rfl,rfl,rfl,rfl,rfl⟩
       ·have hDn:dC p c=true:=by unfold dC;rw [g0',decide_eq_false g8,decide_eq_false g2];rfl
        simp (maxSteps:=200000) -implicitDefEqProofs only [KA,KB,KC,KD,KE,KF,eq_self,ne_eq,↓reduceIte,Nat.reduceLT,Nat.reduceEqDiff,Nat.reduceAdd,Nat.reduceLeDiff,Nat.reduceSub,Nat.reduceMul,reduceCtorEq,e14,e15,e16,e30,e33,e34,e35,e200,e201,e202,e218,e219,e220,hlt2,d1,d2',u1,u2,g0',andI_fold,g1,g2,g8,wu,wd,wj,rd_n]
        exact ⟨n5-1,by omega,j+1,_,_,rfl,by omega,by omega,rfl,rfl,rfl,rfl,rfl,by rw [hu1,hU];rfl,by rw [hd1,hDn];rfl,rfl,rfl,rfl,rfl,rfl,rfl⟩
     ·have hU:uC p c=false:=by unfold uC;rw [decide_eq_false g0];rfl
      have hDn:dC p c=false:=by unfold dC;rw [decide_eq_false g0];rfl
      simp (maxSteps:=200000) -implicitDefEqProofs only [KA,KB,KC,KD,KE,KF,eq_self,ne_eq,↓reduceIte,Nat.reduceLT,Nat.reduceEqDiff,Nat.reduceAdd,Nat.reduceLeDiff,Nat.reduceSub,Nat.reduceMul,reduceCtorEq,e14,e15,e16,e30,e33,e34,e35,e200,e201,e202,e218,e219,e220,hlt2,d1,d2',u1,u2,g0,wj,rd_n]
      exact ⟨n5-1,by omega,j+1,_,_,rfl,by omega,by omega,rfl,rfl,rfl,rfl,rfl,by rw [hu1,hU];rfl,by rw [hd1,hDn];rfl,rfl,rfl,rfl,rfl,rfl,rfl⟩
    ·have htl:(Lk x).take j=Lk x:=List.take_of_length_le (by omega)
     have hlinks:=hD.links hO.panti hpx
     have hfm:∀ (g:Cel→Bool) (g':Hd→Bool),(∀ y:Hd,g' y=(decide (y.n=x) && g y.c))→((Lk x).filter g).length=(L.filter g').length:=by
      intro g g' hg
      rw [((hLk x).1.filter g).length_eq]
      unfold celsN
      rw [List.filter_map,List.length_map,List.filter_filter]
      congr 1
      refine List.filter_congr fun y _=>?_
      rw [hg y,Bool.and_comm]
      rfl
     have hup:=hfm (uC p) (upP x p) (fun y=>rfl)
     have hdn:=hfm (dC p) (dnP x p) (fun y=>rfl)
     rw [hlinks.1] at hup
     rw [hlinks.2] at hdn
     rw [htl,hup] at e34
     rw [htl,hdn] at e35
     have hws:=wo_snoc D (nz (ol.take i)) x
     rw [←hnzs] at hws
     have hwl:wo D (nz (ol.take i))≤16:=by
      have h1:=List.length_filter_le (fun z=>!decide (z∈Camp.nodes D)) (nz (ol.take i))
      have h2:=List.length_filter_le (fun n:Int=>n != 0) (ol.take i)
      unfold wo
      unfold nz at h1 ⊢
      rw [List.length_take] at h2
      omega
     have hv1:(if x∈Camp.nodes D then 1 else 0)≤1:=by split <;> omega
     generalize (if x∈Camp.nodes D then 1 else 0)=vx at e34 e35 hws hv1
     have q1:decide ((vx:Int)=vx)=true:=by simp
     have q2:¬(1:Int)<(vx:Int):=by omega
     have q3:IntKind.wrap .i64 (1-(vx:Int))=((1-vx:Nat):Int):=by rw [wrap_i64 (by omega)];omega
     have q4:IntKind.wrap .i64 ((wo D (nz (ol.take i)):Int)+((1-vx:Nat):Int))=((wo D (nz (ol.take (i+1))):Nat):Int):=by rw [wrap_i64 (by omega),hws];omega
     simp (maxSteps:=200000) -implicitDefEqProofs only [KA,KB,KC,KD,KE,KF,eq_self,ne_eq,↓reduceIte,Nat.reduceLT,Nat.reduceEqDiff,Nat.reduceAdd,Nat.reduceLeDiff,Nat.reduceSub,Nat.reduceMul,reduceCtorEq,e14,e15,e16,e30,e33,e34,e35,e200,e201,e202,e218,e219,e220,hlt2,q1,q2,q3,q4,wi,rd_n]
     exact ⟨n4-1,by omega,i+1,h12,_,_,rfl,by omega,by omega,f11.trans f12,rfl,rfl,rfl,rfl,rfl,rfl,rfl⟩
  ·have htl:ol.take i=ol:=List.take_of_length_le (by omega)
   rw [htl] at e30
   have hwo:wo D (nz ol)=out.length:=by
    unfold wo
    rw [hD.out]
   rw [hwo] at e30
   have hnv:∀ h':Hp,lenT h' .sl (.v (.c nv))=some (out.length:Int):=fun h'=>by rw [hS.len h',rI_len,hTp.length_eq]
   have q1:decide ((out.length:Int)=out.length)=true:=by simp
   simp (maxSteps:=200000) -implicitDefEqProofs only [KA,KB,KC,KD,KE,KF,eq_self,ne_eq,↓reduceIte,Nat.reduceLT,Nat.reduceEqDiff,Nat.reduceAdd,Nat.reduceLeDiff,Nat.reduceSub,Nat.reduceMul,reduceCtorEq,e14,e15,e16,e30,e200,e201,e202,hlt,hnv,q1]
   refine awakeA_ok (k:=k+92) fun h13 _=>?_
   simp (maxSteps:=200000) -implicitDefEqProofs only [KA,KB,KC,KD,KE,KF,eq_self,ne_eq,↓reduceIte,Nat.reduceLT,Nat.reduceEqDiff,Nat.reduceAdd,Nat.reduceLeDiff,Nat.reduceSub,Nat.reduceMul,reduceCtorEq]
   exact hP _
end
end
end Camp
