/- Walking through the machine's code by rewriting. Walking: what each operation gives. Walking: numbers. Maps, as functions. Slices, as lists of rows; what stays of a heap. User library: addresses in arrays, rows of sixteen numbers, remainders, pushed literals. The rules of the walk, in five bundles. The machine run: what a closed call comes to, reckoned. A closed call that is reckoned to true, as a given contract. -/
import Derived.Test.YtidnhdikcdninaaGreatEngF
import Derived.Test.YtidnhdikcdninaaGreatEngD
set_option linter.unnecessarySimpa false
set_option linter.unusedVariables false
set_option linter.unusedSimpArgs false
set_option linter.unusedSectionVars false
namespace Camp
open Go
section
def lk:List (Nat × TV)→Nat→TV
 | [],_=>.u
 | (j,v)::r,i=>if j=i then v else lk r i
def mkT (n:Nat) (l:List (Nat × TV)):List TV:=(List.range n).map (lk l)
def ST (n:Nat) (l:List (Nat × TV)) (lc:List (List CV)) (h:Hp):St:=⟨mkT n l,lc,h⟩
def evN (n:Nat) (l:List (Nat × TV)):NX→TV
 | .t i=>if i<n then lk l i else .u
 | .c x=>.v x
def pd:Option Nat→TV→List (Nat × TV)→List (Nat × TV)
 | some d,v,l=>(d,v)::l
 | none,_,l=>l
theorem lk_nil (i:Nat):lk [] i = .u:=rfl
theorem lk_cons (j:Nat) (v:TV) (r:List (Nat × TV)) (i:Nat):lk ((j,v)::r) i=if j=i then v else lk r i:=rfl
theorem evN_t (n:Nat) (l:List (Nat × TV)) (i:Nat):evN n l (.t i)=if i<n then lk l i else .u:=rfl
theorem evN_c (n:Nat) (l:List (Nat × TV)) (x:AV):evN n l (.c x) = .v x:=rfl
theorem pd_some (d:Nat) (v:TV) (l:List (Nat × TV)):pd (some d) v l=(d,v)::l:=rfl
theorem pd_none (v:TV) (l:List (Nat × TV)):pd none v l=l:=rfl
theorem gt_mkT (n:Nat) (l:List (Nat × TV)) (i:Nat):gt (mkT n l) i=if i<n then lk l i else .u:=by
 unfold gt mkT
 by_cases h:i<n <;> simp [h]
theorem ev_mkT (n:Nat) (l:List (Nat × TV)) (x:NX):x.ev (mkT n l)=evN n l x:=by
 cases x with
 | t i=>simp only [NX.ev,evN,gt_mkT]
 | c v=>rfl
theorem putT_mkT (n:Nat) (l:List (Nat × TV)) (d:Option Nat) (v:TV):putT (mkT n l) d v=mkT n (pd d v l):=by
 cases d with
 | none=>rfl
 | some d=>
  apply List.ext_getElem?
  intro i
  simp only [putT,mkT,pd,List.getElem?_set,List.length_map,List.length_range,List.getElem?_map,List.getElem?_range]
  by_cases hi:i<n
  ·by_cases hd:d=i
   ·subst hd;simp [hi,lk]
   ·simp [hi,hd,lk,List.getElem?_range]
  ·by_cases hd:d=i
   ·subst hd;simp [hi]
   ·simp [hi,hd,List.getElem?_eq_none (show (List.range n).length≤i by simpa using hi)]
theorem keepLive_mkT (live:List Nat) (n:Nat) (l:List (Nat × TV)):keepLive live (mkT n l)=mkT n (live.map fun i=>(i,lk l i)):=by
 have key:∀ (live:List Nat) (i:Nat),lk (live.map fun i=>(i,lk l i)) i=if live.contains i then lk l i else .u:=by
  intro live i
  induction live with
  | nil=>rfl
  | cons j live ih=>
   simp only [List.map_cons,lk,ih]
   by_cases h:j=i
   ·subst h;simp
   ·simp [h,Ne.symm h,List.contains_cons]
 unfold keepLive
 apply List.ext_getElem?
 intro i
 simp only [List.getElem?_map,mkT,List.length_map,List.length_range]
 by_cases hi:i<n
 ·simp only [List.getElem?_range hi,Option.map_some,key]
  rw [show gt (List.map (lk l) (List.range n)) i=lk l i by simp [gt,hi]]
 ·simp [List.getElem?_eq_none (show (List.range n).length≤i by simpa using hi)]
def dum:Nat:=0
theorem dum_eq:dum=0:=(Nat.add_zero dum).symm.trans rfl
def ob {α:Type} (o:Option α) (P:α→Prop):Prop:=∃ q,o=some q∧P q
@[congr] theorem ob_congr {α:Type} {o o':Option α} {P:α→Prop} {dy:Nat} (dd:dum=dy) (h:o=o'):ob o P=ob o' P:=by rw [h]
theorem ob_some {α:Type} (a:α) (P:α→Prop):ob (some a) P=P a:=by simp [ob]
theorem ob_none {α:Type} (P:α→Prop):ob none P=False:=by simp [ob]
theorem ob_bind {α β:Type} (o:Option α) (f:α→Option β) (P:β→Prop):ob (o.bind f) P=ob o fun a=>ob (f a) P:=by
 cases o <;> simp [ob]
theorem ob_map {α β:Type} (o:Option α) (f:α→β) (P:β→Prop):ob (o.map f) P=ob o fun a=>P (f a):=by
 cases o <;> simp [ob]
theorem ob_if {α:Type} {c:Prop} [Decidable c] (a:α) (P:α→Prop):ob (if c then some a else none) P=(c∧P a):=by
 by_cases h:c <;> simp [ob,h]
theorem ob_if' {α:Type} {c:Prop} [Decidable c] (a:Option α) (P:α→Prop):ob (if c then a else none) P=(c∧ob a P):=by
 by_cases h:c <;> simp [ob,h]
theorem ob_if2 {α:Type} {c:Prop} [Decidable c] (a:Option α) (P:α→Prop):ob (if c then none else a) P=(¬c∧ob a P):=by
 by_cases h:c <;> simp [ob,h]
def NO.plain:NO→Bool
 | .call .. | .dyn .. | .next .. | .inv ..=>false
 | _=>true
theorem pl_mov (x0:NX):NO.plain (.mov x0)=true:=rfl
theorem pl_pick (x0:NX) (x1:NX) (x2:NX):NO.plain (.pick x0 x1 x2)=true:=rfl
theorem pl_box (x0:Bool) (x1:Nat) (x2:NX):NO.plain (.box x0 x1 x2)=true:=rfl
theorem pl_build (x0:List CV) (x1:List (Nat × Nat × NX)):NO.plain (.build x0 x1)=true:=rfl
theorem pl_bslice (x0:Bool) (x1:Nat) (x2:Nat) (x3:List CV) (x4:List (Nat × Nat × NX)):NO.plain (.bslice x0 x1 x2 x3 x4)=true:=rfl
theorem pl_load (x0:Option Nat) (x1:NX):NO.plain (.load x0 x1)=true:=rfl
theorem pl_store (x0:Nat) (x1:NX) (x2:NX):NO.plain (.store x0 x1 x2)=true:=rfl
theorem pl_nilck (x0:NX):NO.plain (.nilck x0)=true:=rfl
theorem pl_bin (x0:BinOp) (x1:TK) (x2:NX) (x3:NX):NO.plain (.bin x0 x1 x2 x3)=true:=rfl
theorem pl_un (x0:UnOp) (x1:NX):NO.plain (.un x0 x1)=true:=rfl
theorem pl_conv (x0:NC) (x1:NX):NO.plain (.conv x0 x1)=true:=rfl
theorem pl_mkfn (x0:Nat) (x1:List NX):NO.plain (.mkfn x0 x1)=true:=rfl
theorem pl_mkmap  : NO.plain (.mkmap )=true:=rfl
theorem pl_mkslice (x0:Nat) (x1:Nat) (x2:List CV) (x3:NX) (x4:NX):NO.plain (.mkslice x0 x1 x2 x3 x4)=true:=rfl
theorem pl_slice (x0:Nat) (x1:NX) (x2:Option NX) (x3:Option NX) (x4:Option NX):NO.plain (.slice x0 x1 x2 x3 x4)=true:=rfl
theorem pl_faddr (x0:Nat) (x1:NX):NO.plain (.faddr x0 x1)=true:=rfl
theorem pl_field (x0:Nat) (x1:Option Nat) (x2:NX):NO.plain (.field x0 x1 x2)=true:=rfl
theorem pl_mkif (x0:Nat) (x1:NX):NO.plain (.mkif x0 x1)=true:=rfl
theorem pl_isnil (x0:Bool) (x1:NX):NO.plain (.isnil x0 x1)=true:=rfl
theorem pl_assert (x0:Nat) (x1:AV) (x2:NX):NO.plain (.assert x0 x1 x2)=true:=rfl
theorem pl_iaddr (x0:Nat) (x1:NX) (x2:NX):NO.plain (.iaddr x0 x1 x2)=true:=rfl
theorem pl_iaddrA (x0:Nat) (x1:Nat) (x2:NX) (x3:NX):NO.plain (.iaddrA x0 x1 x2 x3)=true:=rfl
theorem pl_index (x0:Nat) (x1:Nat) (x2:Bool) (x3:NX) (x4:NX):NO.plain (.index x0 x1 x2 x3 x4)=true:=rfl
theorem pl_indexS (x0:NX) (x1:NX):NO.plain (.indexS x0 x1)=true:=rfl
theorem pl_look (x0:KT) (x1:AV) (x2:Bool) (x3:NX) (x4:NX):NO.plain (.look x0 x1 x2 x3 x4)=true:=rfl
theorem pl_mupd (x0:KT) (x1:NX) (x2:NX) (x3:NX):NO.plain (.mupd x0 x1 x2 x3)=true:=rfl
theorem pl_ment (x0:KT) (x1:AV) (x2:NX) (x3:NX):NO.plain (.ment x0 x1 x2 x3)=true:=rfl
theorem pl_mest (x0:NX) (x1:NX) (x2:NX):NO.plain (.mest x0 x1 x2)=true:=rfl
theorem pl_mdel (x0:KT) (x1:NX) (x2:NX):NO.plain (.mdel x0 x1 x2)=true:=rfl
theorem pl_range (x0:TK) (x1:NX):NO.plain (.range x0 x1)=true:=rfl
theorem pl_ext (x0:NX) (x1:Nat):NO.plain (.ext x0 x1)=true:=rfl
theorem pl_entry (x0:NX):NO.plain (.entry x0)=true:=rfl
theorem pl_app (x0:Nat) (x1:Nat) (x2:NX) (x3:NX):NO.plain (.app x0 x1 x2 x3)=true:=rfl
theorem pl_copy (x0:Nat) (x1:NX) (x2:NX):NO.plain (.copy x0 x1 x2)=true:=rfl
theorem pl_clear (x0:Nat) (x1:List CV) (x2:NX):NO.plain (.clear x0 x1 x2)=true:=rfl
theorem pl_len (x0:TK) (x1:NX):NO.plain (.len x0 x1)=true:=rfl
theorem pl_cap (x0:NX):NO.plain (.cap x0)=true:=rfl
theorem pl_min (x0:List NX):NO.plain (.min x0)=true:=rfl
theorem pl_max (x0:List NX):NO.plain (.max x0)=true:=rfl
theorem ol_v (k:Nat) (x:AV):okLive k (.v x)=true:=rfl
theorem ol_un (k:Nat):okLive k .un=true:=rfl
theorem ol_u (k:Nat):okLive k .u=true:=rfl
theorem ol_lp (k i j:Nat):okLive k (.lp i j)=decide (i<k):=rfl
theorem ol_lsl (k i j:Nat):okLive k (.lsl i j)=decide (i<k):=rfl
def opN (n:Nat) (l:List (Nat × TV)) (lc:List (List CV)) (h:Hp) (op:NO):Option Res:=nop noCall (fun _=>0) ⟨mkT n l,lc,h⟩ op
section
variable {c:CallW} {n:Nat} {l:List (Nat × TV)} {lc:List (List CV)} {h:Hp} {P:St→Prop}
@[congr] theorem stepW_congr {r:NR} {s s':St} {dy:Nat} (dd:dum=dy) (e:s=s'):stepW c r s P=stepW c r s' P:=by rw [e]
@[congr] theorem runW_congr {r:List NR} {s s':St} {dy:Nat} (dd:dum=dy) (e:s=s'):runW c r s P=runW c r s' P:=by rw [e]
@[congr] theorem drawW_congr {b b':Nat} {r:List DI} {s s':St} {dy:Nat} (dd:dum=dy) (e:s=s') (eb:b=b'):drawW c b r s P=drawW c b' r s' P:=by rw [e,eb]
@[congr] theorem stepD_congr {b b':Nat} {al:Option Nat} {r:NR} {s s':St} {dy:Nat} (dd:dum=dy) (e:s=s') (eb:b=b'):stepD c b al r s P=stepD c b' al r s' P:=by rw [e,eb]
@[congr] theorem awp_congr {a:Code} {s s':St} {Q:Ex→St→Prop} {dy:Nat} (dd:dum=dy) (e:s=s'):awp c a s Q=awp c a s' Q:=by rw [e]
@[congr] theorem callW_congr {N:Nat→Option NF} {k f:Nat} {as as':List AV} {h h':Hp} {post:AV→Hp→Prop} {dy:Nat} (dd:dum=dy) (e:as=as') (e2:h=h'):callW N k f as h post=callW N k f as' h' post:=by rw [e,e2]
theorem s_plain {d:Option Nat} {op:NO} (hp:op.plain=true):stepW c ⟨d,op,none⟩ (ST n l lc h) P=ob (opN n l lc h op) fun q=>P (ST n (pd d q.v l) q.lc q.hp):=by
 have:nopW c (ST n l lc h) op (fun q=>P (after ⟨d,op,none⟩ (ST n l lc h) q))=ob (opN n l lc h op) fun q=>P (ST n (pd d q.v l) q.lc q.hp):=by
  have e:∀ q:Res,after ⟨d,op,none⟩ (ST n l lc h) q=ST n (pd d q.v l) q.lc q.hp:=by
   intro q;simp only [after,ST,putT_mkT]
  simp only [e]
  cases op <;> first|(cases hp;done)|rfl
 simp only [stepW,wanted]
 exact this
theorem s_mov {d:Option Nat} (x0:NX):stepW c ⟨d,(.mov x0),none⟩ (ST n l lc h) P=ob (opN n l lc h (.mov x0)) fun q=>P (ST n (pd d q.v l) q.lc q.hp):=s_plain (pl_mov x0)
theorem s_pick {d:Option Nat} (x0:NX) (x1:NX) (x2:NX):stepW c ⟨d,(.pick x0 x1 x2),none⟩ (ST n l lc h) P=ob (opN n l lc h (.pick x0 x1 x2)) fun q=>P (ST n (pd d q.v l) q.lc q.hp):=s_plain (pl_pick x0 x1 x2)
theorem s_box {d:Option Nat} (x0:Bool) (x1:Nat) (x2:NX):stepW c ⟨d,(.box x0 x1 x2),none⟩ (ST n l lc h) P=ob (opN n l lc h (.box x0 x1 x2)) fun q=>P (ST n (pd d q.v l) q.lc q.hp):=s_plain (pl_box x0 x1 x2)
theorem s_build {d:Option Nat} (x0:List CV) (x1:List (Nat × Nat × NX)):stepW c ⟨d,(.build x0 x1),none⟩ (ST n l lc h) P=ob (opN n l lc h (.build x0 x1)) fun q=>P (ST n (pd d q.v l) q.lc q.hp):=s_plain (pl_build x0 x1)
theorem s_bslice {d:Option Nat} (x0:Bool) (x1:Nat) (x2:Nat) (x3:List CV) (x4:List (Nat × Nat × NX)):stepW c ⟨d,(.bslice x0 x1 x2 x3 x4),none⟩ (ST n l lc h) P=ob (opN n l lc h (.bslice x0 x1 x2 x3 x4)) fun q=>P (ST n (pd d q.v l) q.lc q.hp):=s_plain (pl_bslice x0 x1 x2 x3 x4)
theorem s_load {d:Option Nat} (x0:Option Nat) (x1:NX):stepW c ⟨d,(.load x0 x1),none⟩ (ST n l lc h) P=ob (opN n l lc h (.load x0 x1)) fun q=>P (ST n (pd d q.v l) q.lc q.hp):=s_plain (pl_load x0 x1)
theorem s_store {d:Option Nat} (x0:Nat) (x1:NX) (x2:NX):stepW c ⟨d,(.store x0 x1 x2),none⟩ (ST n l lc h) P=ob (opN n l lc h (.store x0 x1 x2)) fun q=>P (ST n (pd d q.v l) q.lc q.hp):=s_plain (pl_store x0 x1 x2)
theorem s_nilck {d:Option Nat} (x0:NX):stepW c ⟨d,(.nilck x0),none⟩ (ST n l lc h) P=ob (opN n l lc h (.nilck x0)) fun q=>P (ST n (pd d q.v l) q.lc q.hp):=s_plain (pl_nilck x0)
theorem s_bin {d:Option Nat} (x0:BinOp) (x1:TK) (x2:NX) (x3:NX):stepW c ⟨d,(.bin x0 x1 x2 x3),none⟩ (ST n l lc h) P=ob (opN n l lc h (.bin x0 x1 x2 x3)) fun q=>P (ST n (pd d q.v l) q.lc q.hp):=s_plain (pl_bin x0 x1 x2 x3)
theorem s_un {d:Option Nat} (x0:UnOp) (x1:NX):stepW c ⟨d,(.un x0 x1),none⟩ (ST n l lc h) P=ob (opN n l lc h (.un x0 x1)) fun q=>P (ST n (pd d q.v l) q.lc q.hp):=s_plain (pl_un x0 x1)
theorem s_conv {d:Option Nat} (x0:NC) (x1:NX):stepW c ⟨d,(.conv x0 x1),none⟩ (ST n l lc h) P=ob (opN n l lc h (.conv x0 x1)) fun q=>P (ST n (pd d q.v l) q.lc q.hp):=s_plain (pl_conv x0 x1)
theorem s_mkfn {d:Option Nat} (x0:Nat) (x1:List NX):stepW c ⟨d,(.mkfn x0 x1),none⟩ (ST n l lc h) P=ob (opN n l lc h (.mkfn x0 x1)) fun q=>P (ST n (pd d q.v l) q.lc q.hp):=s_plain (pl_mkfn x0 x1)
theorem s_mkmap {d:Option Nat}  : stepW c ⟨d,(.mkmap ),none⟩ (ST n l lc h) P=ob (opN n l lc h (.mkmap )) fun q=>P (ST n (pd d q.v l) q.lc q.hp):=s_plain (pl_mkmap )
theorem s_mkslice {d:Option Nat} (x0:Nat) (x1:Nat) (x2:List CV) (x3:NX) (x4:NX):stepW c ⟨d,(.mkslice x0 x1 x2 x3 x4),none⟩ (ST n l lc h) P=ob (opN n l lc h (.mkslice x0 x1 x2 x3 x4)) fun q=>P (ST n (pd d q.v l) q.lc q.hp):=s_plain (pl_mkslice x0 x1 x2 x3 x4)
theorem s_slice {d:Option Nat} (x0:Nat) (x1:NX) (x2:Option NX) (x3:Option NX) (x4:Option NX):stepW c ⟨d,(.slice x0 x1 x2 x3 x4),none⟩ (ST n l lc h) P=ob (opN n l lc h (.slice x0 x1 x2 x3 x4)) fun q=>P (ST n (pd d q.v l) q.lc q.hp):=s_plain (pl_slice x0 x1 x2 x3 x4)
theorem s_faddr {d:Option Nat} (x0:Nat) (x1:NX):stepW c ⟨d,(.faddr x0 x1),none⟩ (ST n l lc h) P=ob (opN n l lc h (.faddr x0 x1)) fun q=>P (ST n (pd d q.v l) q.lc q.hp):=s_plain (pl_faddr x0 x1)
theorem s_field {d:Option Nat} (x0:Nat) (x1:Option Nat) (x2:NX):stepW c ⟨d,(.field x0 x1 x2),none⟩ (ST n l lc h) P=ob (opN n l lc h (.field x0 x1 x2)) fun q=>P (ST n (pd d q.v l) q.lc q.hp):=s_plain (pl_field x0 x1 x2)
theorem s_mkif {d:Option Nat} (x0:Nat) (x1:NX):stepW c ⟨d,(.mkif x0 x1),none⟩ (ST n l lc h) P=ob (opN n l lc h (.mkif x0 x1)) fun q=>P (ST n (pd d q.v l) q.lc q.hp):=s_plain (pl_mkif x0 x1)
theorem s_isnil {d:Option Nat} (x0:Bool) (x1:NX):stepW c ⟨d,(.isnil x0 x1),none⟩ (ST n l lc h) P=ob (opN n l lc h (.isnil x0 x1)) fun q=>P (ST n (pd d q.v l) q.lc q.hp):=s_plain (pl_isnil x0 x1)
theorem s_assert {d:Option Nat} (x0:Nat) (x1:AV) (x2:NX):stepW c ⟨d,(.assert x0 x1 x2),none⟩ (ST n l lc h) P=ob (opN n l lc h (.assert x0 x1 x2)) fun q=>P (ST n (pd d q.v l) q.lc q.hp):=s_plain (pl_assert x0 x1 x2)
theorem s_iaddr {d:Option Nat} (x0:Nat) (x1:NX) (x2:NX):stepW c ⟨d,(.iaddr x0 x1 x2),none⟩ (ST n l lc h) P=ob (opN n l lc h (.iaddr x0 x1 x2)) fun q=>P (ST n (pd d q.v l) q.lc q.hp):=s_plain (pl_iaddr x0 x1 x2)
theorem s_iaddrA {d:Option Nat} (x0:Nat) (x1:Nat) (x2:NX) (x3:NX):stepW c ⟨d,(.iaddrA x0 x1 x2 x3),none⟩ (ST n l lc h) P=ob (opN n l lc h (.iaddrA x0 x1 x2 x3)) fun q=>P (ST n (pd d q.v l) q.lc q.hp):=s_plain (pl_iaddrA x0 x1 x2 x3)
theorem s_index {d:Option Nat} (x0:Nat) (x1:Nat) (x2:Bool) (x3:NX) (x4:NX):stepW c ⟨d,(.index x0 x1 x2 x3 x4),none⟩ (ST n l lc h) P=ob (opN n l lc h (.index x0 x1 x2 x3 x4)) fun q=>P (ST n (pd d q.v l) q.lc q.hp):=s_plain (pl_index x0 x1 x2 x3 x4)
theorem s_indexS {d:Option Nat} (x0:NX) (x1:NX):stepW c ⟨d,(.indexS x0 x1),none⟩ (ST n l lc h) P=ob (opN n l lc h (.indexS x0 x1)) fun q=>P (ST n (pd d q.v l) q.lc q.hp):=s_plain (pl_indexS x0 x1)
theorem s_look {d:Option Nat} (x0:KT) (x1:AV) (x2:Bool) (x3:NX) (x4:NX):stepW c ⟨d,(.look x0 x1 x2 x3 x4),none⟩ (ST n l lc h) P=ob (opN n l lc h (.look x0 x1 x2 x3 x4)) fun q=>P (ST n (pd d q.v l) q.lc q.hp):=s_plain (pl_look x0 x1 x2 x3 x4)
theorem s_mupd {d:Option Nat} (x0:KT) (x1:NX) (x2:NX) (x3:NX):stepW c ⟨d,(.mupd x0 x1 x2 x3),none⟩ (ST n l lc h) P=ob (opN n l lc h (.mupd x0 x1 x2 x3)) fun q=>P (ST n (pd d q.v l) q.lc q.hp):=s_plain (pl_mupd x0 x1 x2 x3)
theorem s_ment {d:Option Nat} (x0:KT) (x1:AV) (x2:NX) (x3:NX):stepW c ⟨d,(.ment x0 x1 x2 x3),none⟩ (ST n l lc h) P=ob (opN n l lc h (.ment x0 x1 x2 x3)) fun q=>P (ST n (pd d q.v l) q.lc q.hp):=s_plain (pl_ment x0 x1 x2 x3)
theorem s_mest {d:Option Nat} (x0:NX) (x1:NX) (x2:NX):stepW c ⟨d,(.mest x0 x1 x2),none⟩ (ST n l lc h) P=ob (opN n l lc h (.mest x0 x1 x2)) fun q=>P (ST n (pd d q.v l) q.lc q.hp):=s_plain (pl_mest x0 x1 x2)
theorem s_mdel {d:Option Nat} (x0:KT) (x1:NX) (x2:NX):stepW c ⟨d,(.mdel x0 x1 x2),none⟩ (ST n l lc h) P=ob (opN n l lc h (.mdel x0 x1 x2)) fun q=>P (ST n (pd d q.v l) q.lc q.hp):=s_plain (pl_mdel x0 x1 x2)
theorem s_range {d:Option Nat} (x0:TK) (x1:NX):stepW c ⟨d,(.range x0 x1),none⟩ (ST n l lc h) P=ob (opN n l lc h (.range x0 x1)) fun q=>P (ST n (pd d q.v l) q.lc q.hp):=s_plain (pl_range x0 x1)
theorem s_ext {d:Option Nat} (x0:NX) (x1:Nat):stepW c ⟨d,(.ext x0 x1),none⟩ (ST n l lc h) P=ob (opN n l lc h (.ext x0 x1)) fun q=>P (ST n (pd d q.v l) q.lc q.hp):=s_plain (pl_ext x0 x1)
theorem s_entry {d:Option Nat} (x0:NX):stepW c ⟨d,(.entry x0),none⟩ (ST n l lc h) P=ob (opN n l lc h (.entry x0)) fun q=>P (ST n (pd d q.v l) q.lc q.hp):=s_plain (pl_entry x0)
theorem s_app {d:Option Nat} (x0:Nat) (x1:Nat) (x2:NX) (x3:NX):stepW c ⟨d,(.app x0 x1 x2 x3),none⟩ (ST n l lc h) P=ob (opN n l lc h (.app x0 x1 x2 x3)) fun q=>P (ST n (pd d q.v l) q.lc q.hp):=s_plain (pl_app x0 x1 x2 x3)
theorem s_copy {d:Option Nat} (x0:Nat) (x1:NX) (x2:NX):stepW c ⟨d,(.copy x0 x1 x2),none⟩ (ST n l lc h) P=ob (opN n l lc h (.copy x0 x1 x2)) fun q=>P (ST n (pd d q.v l) q.lc q.hp):=s_plain (pl_copy x0 x1 x2)
theorem s_clear {d:Option Nat} (x0:Nat) (x1:List CV) (x2:NX):stepW c ⟨d,(.clear x0 x1 x2),none⟩ (ST n l lc h) P=ob (opN n l lc h (.clear x0 x1 x2)) fun q=>P (ST n (pd d q.v l) q.lc q.hp):=s_plain (pl_clear x0 x1 x2)
theorem s_len {d:Option Nat} (x0:TK) (x1:NX):stepW c ⟨d,(.len x0 x1),none⟩ (ST n l lc h) P=ob (opN n l lc h (.len x0 x1)) fun q=>P (ST n (pd d q.v l) q.lc q.hp):=s_plain (pl_len x0 x1)
theorem s_cap {d:Option Nat} (x0:NX):stepW c ⟨d,(.cap x0),none⟩ (ST n l lc h) P=ob (opN n l lc h (.cap x0)) fun q=>P (ST n (pd d q.v l) q.lc q.hp):=s_plain (pl_cap x0)
theorem s_min {d:Option Nat} (x0:List NX):stepW c ⟨d,(.min x0),none⟩ (ST n l lc h) P=ob (opN n l lc h (.min x0)) fun q=>P (ST n (pd d q.v l) q.lc q.hp):=s_plain (pl_min x0)
theorem s_max {d:Option Nat} (x0:List NX):stepW c ⟨d,(.max x0),none⟩ (ST n l lc h) P=ob (opN n l lc h (.max x0)) fun q=>P (ST n (pd d q.v l) q.lc q.hp):=s_plain (pl_max x0)
def gd (v:TV) (b:Bool) (X Y:Prop):Prop:=
 match v with
 | .v (.c (.bool b'))=>if b'=b then X else Y
 | .un=>Y
 | _=>False
@[congr] theorem gd_congr {v v':TV} {b:Bool} {X Y:Prop} {dy:Nat} (dd:dum=dy) (e:v=v'):gd v b X Y=gd v' b X Y:=by rw [e]
theorem gd_un (b:Bool) (X Y:Prop):gd .un b X Y=Y:=rfl
theorem gd_tt (X Y:Prop):gd (.v (.c (.bool true))) true X Y=X:=by simp [gd]
theorem gd_tf (X Y:Prop):gd (.v (.c (.bool true))) false X Y=Y:=by simp [gd]
theorem gd_ft (X Y:Prop):gd (.v (.c (.bool false))) true X Y=Y:=by simp [gd]
theorem gd_ff (X Y:Prop):gd (.v (.c (.bool false))) false X Y=X:=by simp [gd]
theorem s_guard {d:Option Nat} {op:NO} {g:Nat} {b:Bool}:stepW c ⟨d,op,some (g,b)⟩ (ST n l lc h) P=gd (evN n l (.t g)) b (stepW c ⟨d,op,none⟩ (ST n l lc h) P) (P (ST n (pd d .un l) lc h)):=by
 have hg:gt (ST n l lc h).tm g=evN n l (.t g):=by simp only [ST,gt_mkT,evN]
 have e:∀ q:Res,after ⟨d,op,some (g,b)⟩ (ST n l lc h) q=after ⟨d,op,none⟩ (ST n l lc h) q:=fun q=>rfl
 unfold stepW
 simp only [wanted,hg,e]
 generalize evN n l (.t g)=v
 unfold gd
 split
 ·rename_i h1
  split at h1
  ·rename_i b'
   simp only [Option.some.injEq,beq_iff_eq] at h1
   simp [h1]
  ·simp at h1
  ·cases h1
 ·rename_i h1
  split at h1
  ·rename_i b'
   simp only [Option.some.injEq,beq_eq_false_iff_ne,ne_eq] at h1
   simp [h1,ST,putT_mkT]
  ·simp [ST,putT_mkT]
  ·cases h1
 ·rename_i h1
  split at h1 <;> first|(cases h1;done)|skip
  split <;> simp_all
theorem r_cons {r:NR} {rs:List NR} {s:St}:runW c (r::rs) s P=stepW c r s fun s'=>runW c rs s' P:=rfl
theorem r_nil {s:St}:runW c [] s P=P s:=rfl
theorem d_nil {b:Nat} {s:St}:drawW c b [] s P=P s:=rfl
theorem d_cons {b i:Nat} {r:NR} {rs:List DI} {s:St}:drawW c b (⟨i,none,r,[]⟩::rs) s P=stepW c r s fun s'=>drawW c b rs s' P:=by
 simp only [drawW,againL,true_and,stepD]
theorem d_consA {b i k:Nat} {r:NR} {rs:List DI} {s:St}:drawW c b (⟨i,some k,r,[]⟩::rs) s P=stepD c b (some k) r s fun s'=>drawW c b rs s' P:=by
 simp only [drawW,againL,true_and]
theorem d_consC {b i j:Nat} {r y:NR} {cs:List (Nat × NR)} {rs:List DI} {s:St}:drawW c b (⟨i,none,r,(j,y)::cs⟩::rs) s P=stepW c r s fun s'=>againL ((j,y)::cs) s'∧drawW c b rs s' P:=by
 simp only [drawW,stepD]
theorem ag_cons {j:Nat} {y:NR} {cs:List (Nat × NR)} {s:St}:againL ((j,y)::cs) s=(again y s∧againL cs s):=rfl
theorem ag_nil {s:St}:againL [] s=True:=rfl
theorem ag_plain {d:Nat} {op:NO}:again ⟨some d,op,none⟩ (ST n l lc h)=ob (opN n l lc h op) fun q=>q.v=evN n l (.t d):=by
 simp only [again,val,wanted,Option.some.injEq,exists_eq_left',ob,opN,Option.map_eq_some_iff,ST,gt_mkT,evN]
theorem ag_guard {d g:Nat} {op:NO} {b:Bool}:again ⟨some d,op,some (g,b)⟩ (ST n l lc h)=gd (evN n l (.t g)) b (again ⟨some d,op,none⟩ (ST n l lc h)) (TV.un=evN n l (.t d)):=by
 have hg:gt (ST n l lc h).tm g=evN n l (.t g):=by simp only [ST,gt_mkT,evN]
 have hd:gt (ST n l lc h).tm d=evN n l (.t d):=by simp only [ST,gt_mkT,evN]
 simp only [again,val,wanted,hg,hd,Option.some.injEq,exists_eq_left']
 generalize evN n l (.t g)=v
 unfold gd
 cases v with
 | v x=>cases x with
  | c y=>cases y <;> simp
         rename_i b'
         cases b' <;> cases b <;> simp
  | _=>simp
 | _=>simp
def evA (n:Nat) (l:List (Nat × TV)):List NX→Option (List AV)
 | []=>some []
 | x::r=>(asV (evN n l x)).bind fun a=>(evA n l r).map (a::·)
theorem evA_nil:evA n l [] = some []:=rfl
theorem evA_cons (x:NX) (r:List NX):evA n l (x::r)=(asV (evN n l x)).bind fun a=>(evA n l r).map (a::·):=rfl
theorem evL_mkT (xs:List NX):evL (mkT n l) xs=evA n l xs:=by
 induction xs with
 | nil=>rfl
 | cons x xs ih=>
  simp only [evL,evA,ev_mkT,ih]
  cases asV (evN n l x) <;> simp
  cases evA n l xs <;> simp
theorem s_call {d:Option Nat} {f:Nat} {args:List NX}:stepW c ⟨d,.call f args,none⟩ (ST n l lc h) P=ob (evA n l args) fun as=>c f as h fun r h'=>P (ST n (pd d (.v r) l) lc h'):=by
 simp only [stepW,wanted,nopW,ST,evL_mkT,after,putT_mkT,ob]
def ofFn:TV→Option (Nat × List CV)
 | .v (.c (.fn g caps))=>some (g,caps)
 | _=>none
theorem ofFn_fn (g:Nat) (caps:List CV):ofFn (.v (.c (.fn g caps)))=some (g,caps):=rfl
theorem s_inv {d:Option Nat} {tb:List (Nat × Nat)} {f:NX} {args:List NX}:stepW c ⟨d,.inv tb f args,none⟩ (ST n l lc h) P=ob (evA n l args) fun as=>ob (methodV tb (evN n l f)) fun p=>c p.1 (p.2::as) h fun r h'=>P (ST n (pd d (.v r) l) lc h'):=by
 simp only [stepW,wanted,nopW,ST,evL_mkT,after,putT_mkT,ob,ev_mkT]
 apply propext
 constructor
 ·rintro ⟨as,g,v,h1,h2,h3⟩
  exact ⟨as,h1,(g,v),h2,h3⟩
 ·rintro ⟨as,h1,⟨g,v⟩,h2,h3⟩
  exact ⟨as,g,v,h1,h2,h3⟩
theorem mv_i (tb:List (Nat × Nat)) (t:Nat) (ag:Bool) (cs:List CV):methodV tb (.v (.c (.iface t ag cs)))=(tbAt tb t).bind fun f=>(unI ag cs).map fun v=>(f,v):=rfl
theorem tb_n (t:Nat):tbAt [] t=none:=rfl
theorem tb_c (p:Nat × Nat) (l:List (Nat × Nat)) (t:Nat):tbAt (p::l) t=if t=p.1 then some p.2 else tbAt l t:=rfl
theorem s_dyn {d:Option Nat} {f:NX} {args:List NX}:stepW c ⟨d,.dyn f args,none⟩ (ST n l lc h) P=ob (evA n l args) fun as=>ob (ofFn (evN n l f)) fun p=>c p.1 (as++p.2.map .c) h fun r h'=>P (ST n (pd d (.v r) l) lc h'):=by
 simp only [stepW,wanted,nopW,ST,evL_mkT,after,putT_mkT,ob,ev_mkT]
 apply propext
 constructor
 ·rintro ⟨as,g,caps,h1,h2,h3⟩
  exact ⟨as,h1,(g,caps),by rw [h2];rfl,h3⟩
 ·rintro ⟨as,h1,⟨g,caps⟩,h2,h3⟩
  refine ⟨as,g,caps,h1,?_,h3⟩
  unfold ofFn at h2
  split at h2
  ·rename_i e;simp only [Option.some.injEq,Prod.mk.injEq] at h2;obtain ⟨rfl,rfl⟩:=h2;exact e
  ·cases h2
def sq (c:CallW) (b:Code) (Q:Ex→St→Prop):Ex→St→Prop
 | .normal,s=>awp c b s Q
 | e,s=>Q e s
def bl (id:Nat) (Q:Ex→St→Prop):Ex→St→Prop
 | .exit i,s=>if i=id then Q .normal s else Q (.exit i) s
 | e,s=>Q e s
def cb (v:TV) (X Y:Prop):Prop:=
 match v with
 | .v (.c (.bool true))=>X
 | .v (.c (.bool false))=>Y
 | _=>False
variable {Q:Ex→St→Prop} {a b:Code} {s:St}
@[congr] theorem sq_congr {e:Ex} {s s':St} {dy:Nat} (dd:dum=dy) (h:s=s'):sq c b Q e s=sq c b Q e s':=by rw [h]
@[congr] theorem bl_congr {e:Ex} {i:Nat} {s s':St} {dy:Nat} (dd:dum=dy) (h:s=s'):bl i Q e s=bl i Q e s':=by rw [h]
@[congr] theorem cb_congr {v v':TV} {X Y:Prop} {dy:Nat} (dd:dum=dy) (h:v=v'):cb v X Y=cb v' X Y:=by rw [h]
theorem cb_t (X Y:Prop):cb (.v (.c (.bool true))) X Y=X:=rfl
theorem cb_f (X Y:Prop):cb (.v (.c (.bool false))) X Y=Y:=rfl
theorem a_seq:awp c (.seq a b) s Q=awp c a s (sq c b Q):=by
 simp only [awp]
 congr 1
 funext e s'
 cases e <;> rfl
theorem a_skip:awp c .skip s Q=Q .normal s:=rfl
theorem a_ret:awp c .ret s Q=Q .ret s:=rfl
theorem a_exit {i:Nat}:awp c (.exit i) s Q=Q (.exit i) s:=rfl
theorem a_region {ops:List NR}:awp c (.region ops) s Q=runW c ops s (Q .normal):=rfl
theorem a_block {i:Nat}:awp c (.block i b) s Q=awp c b s (bl i Q):=by
 simp only [awp]
 congr 1
 funext e s'
 cases e <;> rfl
theorem a_cond {x:NX}:awp c (.cond x a b) (ST n l lc h) Q=cb (evN n l x) (awp c a (ST n l lc h) Q) (awp c b (ST n l lc h) Q):=by
 simp only [awp,ST,ev_mkT,cb]
 split <;> simp_all
theorem sq_n:sq c b Q .normal s=awp c b s Q:=rfl
theorem sq_e {i:Nat}:sq c b Q (.exit i) s=Q (.exit i) s:=rfl
theorem sq_r:sq c b Q .ret s=Q .ret s:=rfl
theorem bl_n {i:Nat}:bl i Q .normal s=Q .normal s:=rfl
theorem bl_r {i:Nat}:bl i Q .ret s=Q .ret s:=rfl
theorem bl_e {i j:Nat}:bl j Q (.exit i) s=if i=j then Q .normal s else Q (.exit i) s:=rfl
def Hp.reserve (h:Hp) (n:Nat):Hp:={ h with obs:=h.obs++List.replicate n .dead }
theorem reserve_zero (h:Hp):h.reserve 0=h:=by simp [Hp.reserve]
theorem a_draw {k:Nat} {ord:List DI}:awp c (.draw k ord) (ST n l lc h) Q=drawW c h.obs.length ord (ST n l lc (h.reserve k)) (Q .normal):=rfl
def okL (n nlc:Nat) (l:List (Nat × TV)):List Nat→Bool
 | []=>true
 | i::r=>okLive nlc (evN n l (.t i)) && okL n nlc l r
def restr (l:List (Nat × TV)):List Nat→List (Nat × TV)
 | []=>[]
 | i::r=>(i,lk l i)::restr l r
theorem restr_map (l:List (Nat × TV)) (live:List Nat):restr l live=live.map fun i=>(i,lk l i):=by
 induction live with
 | nil=>rfl
 | cons i r ih=>simp only [restr,List.map_cons,ih]
theorem restr_nil (l:List (Nat × TV)):restr l [] = []:=rfl
theorem restr_cons (l:List (Nat × TV)) (i:Nat) (r:List Nat):restr l (i::r)=(i,lk l i)::restr l r:=rfl
theorem okL_nil (n k:Nat) (l:List (Nat × TV)):okL n k l [] = true:=rfl
theorem okL_cons (n k:Nat) (l:List (Nat × TV)) (i:Nat) (r:List Nat):okL n k l (i::r)=(okLive k (evN n l (.t i)) && okL n k l r):=rfl
theorem a_kill {live:List Nat} {k:Nat}:awp c (.kill live k) (ST n l lc h) Q=(k≤lc.length∧okL n k l live=true∧Q .normal (ST n (restr l live) (lc.take k) h)):=by
 rw [restr_map]
 have key:okL n k l live=true↔(keepLive live (mkT n l)).all (okLive k)=true:=by
  have e:∀ live:List Nat,okL n k l live=true↔∀ i∈live,okLive k (evN n l (.t i))=true:=by
   intro live
   induction live with
   | nil=>simp [okL]
   | cons j live ih=>simp [okL,ih]
  rw [e]
  simp only [List.all_eq_true,keepLive,List.mem_map,List.mem_range,gt_mkT,evN]
  constructor
  ·rintro h1 v ⟨i,hi,rfl⟩
   split
   ·rename_i hc
    exact h1 i (List.contains_iff_mem.mp hc)
   ·rfl
  ·intro h1 i hi
   by_cases hn:i<n
   ·have:=h1 _ ⟨i,by simpa [mkT] using hn,rfl⟩
    rw [if_pos (List.contains_iff_mem.mpr hi)] at this
    exact this
   ·rw [if_neg hn];rfl
 rw [keepLive_mkT] at key
 apply propext
 simp only [awp,ST,keepLive_mkT,key]
def fin (rs:List Nat) (post:AV→Hp→Prop):Ex→St→Prop:=fun e s=>(e = .normal∨e = .ret)∧∃ r,results? s.tm rs=some r∧post r s.hp
def resN (n:Nat) (l:List (Nat × TV)) (rs:List Nat):Option AV:=
 match rs with
 | [r]=>asV (evN n l (.t r))
 | rs=>(evA n l (rs.map .t)).map .tup
theorem resN_nil:resN n l [] = some (.tup []):=rfl
theorem resN_one (r:Nat):resN n l [r] = asV (evN n l (.t r)):=rfl
theorem resN_two (r q:Nat) (rs:List Nat):resN n l (r::q::rs)=(evA n l (.t r::.t q::rs.map .t)).map .tup:=rfl
theorem results_mkT (rs:List Nat):results? (mkT n l) rs=resN n l rs:=by
 match rs with
 | []=>rfl
 | [r]=>simp only [results?,resN,gt_mkT,evN]
 | r::r2::rs=>simp only [results?,resN,evL_mkT]
variable {post:AV→Hp→Prop} {rs:List Nat}
theorem fin_n:fin rs post .normal (ST n l lc h)=ob (resN n l rs) fun r=>post r h:=by
 simp only [fin,true_or,true_and,ob,ST,results_mkT]
theorem fin_r:fin rs post .ret (ST n l lc h)=ob (resN n l rs) fun r=>post r h:=by
 simp only [fin,or_true,true_and,ob,ST,results_mkT]
@[congr] theorem fin_congr {e:Ex} {s s':St} {dy:Nat} (dd:dum=dy) (h:s=s'):fin rs post e s=fin rs post e s':=by rw [h]
def argL:Nat→List AV→List (Nat × TV)
 | _,[]=>[]
 | i,a::r=>(i,.v a)::argL (i+1) r
theorem argL_nil (i:Nat):argL i [] = []:=rfl
theorem argL_cons (i:Nat) (a:AV) (r:List AV):argL i (a::r)=(i,.v a)::argL (i+1) r:=rfl
theorem args_mkT (args:List AV) (n:Nat) (h:args.length≤n):args.map TV.v++List.replicate (n-args.length) .u=mkT n (argL 0 args):=by
 have key:∀ (args:List AV) (i k:Nat),lk (argL k args) i=if k≤i then ((args[i-k]?).map TV.v).getD .u else .u:=by
  intro args
  induction args with
  | nil=>intro i k;simp [argL,lk]
  | cons a r ih=>
   intro i k
   simp only [argL,lk,ih]
   by_cases h1:k=i
   ·subst h1;simp
   ·by_cases h2:k≤i
    ·have:k+1≤i:=by omega
     rw [if_neg h1,if_pos this,if_pos h2,show i-k=(i-(k+1))+1 by omega,List.getElem?_cons_succ]
    ·rw [if_neg h1,if_neg (by omega),if_neg h2]
 apply List.ext_getElem?
 intro i
 simp only [mkT,List.getElem?_map]
 by_cases hi:i<n
 ·rw [List.getElem?_range hi]
  simp only [Option.map_some,key,Nat.zero_le,if_true,Nat.sub_zero]
  by_cases h2:i<args.length
  ·rw [List.getElem?_append_left (by simpa using h2)]
   simp [h2]
  ·rw [List.getElem?_append_right (by simpa using h2)]
   simp [List.getElem?_eq_none (show args.length≤i by omega),List.getElem?_replicate]
   omega
 ·rw [List.getElem?_eq_none (by simp;omega),List.getElem?_eq_none (by simpa using hi)]
  rfl
theorem call_intro {N:Nat→Option NF} {k f nt:Nat} {rs:List Nat} {body:Code} {args:List AV} {h:Hp} {post:AV→Hp→Prop} (hf:N f=some ⟨nt,rs,body⟩) (hl:args.length≤nt)
 (k1:awp (callW N k) body (ST nt (argL 0 args) [] h) (fin rs post)):callW N (k+1) f args h post:=by
 refine ⟨_,hf,hl,?_⟩
 rw [args_mkT _ _ hl]
 exact k1
end
end
section
def Hp.g (h:Hp) (id:Nat):Option AO:=h.obs[id]?
def Hp.n (h:Hp):Nat:=h.obs.length
theorem g_def (h:Hp) (id:Nat):h.obs[id]? = h.g id:=rfl
theorem n_def (h:Hp):h.obs.length=h.n:=rfl
theorem lt_of_g {h:Hp} {id:Nat} {o:AO} (e:h.g id=some o):id<h.n:=by
 rcases Nat.lt_or_ge id h.obs.length with h'|h'
 ·exact h'
 ·simp [Hp.g,List.getElem?_eq_none h'] at e
theorem g_ge {h:Hp} {id:Nat} (k:h.n≤id):h.g id=none:=List.getElem?_eq_none k
theorem g_put (h:Hp) (i:Nat) (o:AO) (j:Nat):(h.put i o).g j=if i=j then (h.g j).map fun _=>o else h.g j:=by
 simp only [Hp.g,Hp.put,List.getElem?_set]
 by_cases e:i=j
 ·subst e
  by_cases hl:i<h.obs.length <;> simp [hl]
 ·simp [e]
theorem g_put_eq (h:Hp) (i:Nat) (o:AO):(h.put i o).g i=(h.g i).map fun _=>o:=by rw [g_put,if_pos rfl]
theorem g_put_ne (h:Hp) {i j:Nat} (o:AO) (e:i≠j):(h.put i o).g j=h.g j:=by rw [g_put,if_neg e]
theorem g_push (h:Hp) (o:AO) (j:Nat):(h.push o).g j=if j=h.n then some o else h.g j:=by
 by_cases e:j=h.n
 ·rw [if_pos e]
  subst e
  simp [Hp.g,Hp.push,Hp.n]
 ·rw [if_neg e]
  simp only [Hp.g,Hp.push,List.getElem?_append]
  have e':j≠h.obs.length:=e
  by_cases hl:j<h.obs.length
  ·rw [if_pos hl]
  ·rw [if_neg hl,List.getElem?_eq_none (by simp;omega),List.getElem?_eq_none (by omega)]
theorem g_push_eq (h:Hp) (o:AO):(h.push o).g h.n=some o:=by rw [g_push,if_pos rfl]
theorem g_push_ne (h:Hp) (o:AO) {j:Nat} (e:j≠h.n):(h.push o).g j=h.g j:=by rw [g_push,if_neg e]
theorem g_reserve (h:Hp) (k j:Nat):(h.reserve k).g j=if h.n≤j∧j<h.n+k then some .dead else h.g j:=by
 simp only [Hp.g,Hp.reserve,Hp.n,List.getElem?_append,List.getElem?_replicate]
 by_cases hl:j<h.obs.length
 ·simp [hl];omega
 ·by_cases h2:j<h.obs.length+k
  ·simp [hl,show h.obs.length≤j by omega,h2,show j-h.obs.length<k by omega]
  ·simp [hl,show ¬(h.obs.length≤j∧j<h.obs.length+k) by omega,show ¬j-h.obs.length<k by omega]
theorem n_put (h:Hp) (i:Nat) (o:AO):(h.put i o).n=h.n:=by simp [Hp.n,Hp.put]
theorem n_push (h:Hp) (o:AO):(h.push o).n=h.n+1:=by simp [Hp.n,Hp.push]
theorem n_reserve (h:Hp) (k:Nat):(h.reserve k).n=h.n+k:=by simp [Hp.n,Hp.reserve]
def rowO (o:Option AO) (tok i:Nat):Option (List CV):=
 match o with
 | some (.rows _ _ _ lw rs)=>if lw≤tok then rs[i]? else none
 | some (.grow _ vs)=>match vs[tok]? with
  | some (some rs)=>rs[i]?
  | _=>none
 | _=>none
theorem rowO_some (wr:Bool) (sz cur lw tok i:Nat) (rs:List (List CV)):rowO (some (.rows wr sz cur lw rs)) tok i=if lw≤tok then rs[i]? else none:=rfl
theorem row_o (h:Hp) (id tok i:Nat):row? h id tok i=rowO (h.g id) tok i:=rfl
def pickT (c a b:TV):Option TV:=
 match c with
 | .v (.c (.bool true))=>some a
 | .v (.c (.bool false))=>some b
 | _=>none
theorem pick_t (a b:TV):pickT (.v (.c (.bool true))) a b=some a:=rfl
theorem pick_f (a b:TV):pickT (.v (.c (.bool false))) a b=some b:=rfl
def loadT (h:Hp) (lc:List (List CV)) (sz:Option Nat) (a:TV):Option AV:=loadAt ⟨[],lc,h⟩ sz a
theorem load_p (h:Hp) (lc:List (List CV)) (sz:Option Nat) (id tok i j:Nat):loadT h lc sz (.v (.c (.ptr id tok i j)))=(rowO (h.g id) tok i).bind fun r=>takeCells sz r j:=rfl
theorem load_l (h:Hp) (lc:List (List CV)) (sz:Option Nat) (k j:Nat):loadT h lc sz (.lp k j)=(lc[k]?).bind fun r=>takeCells sz r j:=rfl
theorem take_n (r:List CV) (j:Nat):takeCells none r j=(r[j]?).map .c:=rfl
theorem take_s (n:Nat) (r:List CV) (j:Nat):takeCells (some n) r j=if j+n≤r.length then some (.agg ((r.drop j).take n)) else none:=rfl
def storeO (o:Option AO) (h:Hp) (lc:List (List CV)) (sz id tok i j:Nat) (cs:List CV):Option Res:=
 match o with
 | some (.rows wr s1 cur _ rs)=>
  if wr=true∧tok=cur then
   (rs[i]?).bind fun row=>if j+sz≤row.length then some ⟨.un,lc,h.put id (.rows true s1 cur cur (rs.set i (splice row j cs)))⟩ else none
  else none
 | _=>none
def storeT (h:Hp) (lc:List (List CV)) (sz:Nat) (a:TV) (cs:List CV):Option Res:=storeAt ⟨[],lc,h⟩ sz a cs
theorem store_p (h:Hp) (lc:List (List CV)) (sz id tok i j:Nat) (cs:List CV):storeT h lc sz (.v (.c (.ptr id tok i j))) cs=if cs.length=sz then storeO (h.g id) h lc sz id tok i j cs else none:=by
 unfold storeT storeAt storeO
 simp only [g_def]
 split
 ·cases h.g id with
  | none=>rfl
  | some o=>
   cases o with
   | rows wr s1 cur lw rs=>
    simp only
    split
    ·cases rs[i]? <;> rfl
    ·rfl
   | _=>rfl
 ·rfl
theorem storeO_some (h:Hp) (lc:List (List CV)) (sz id tok i j:Nat) (cs:List CV) (wr:Bool) (s1 cur lw:Nat) (rs:List (List CV)):storeO (some (.rows wr s1 cur lw rs)) h lc sz id tok i j cs =
 if wr=true∧tok=cur then (rs[i]?).bind fun row=>if j+sz≤row.length then some ⟨.un,lc,h.put id (.rows true s1 cur cur (rs.set i (splice row j cs)))⟩ else none else none:=rfl
theorem store_l (h:Hp) (lc:List (List CV)) (sz k j:Nat) (cs:List CV):storeT h lc sz (.lp k j) cs=if cs.length=sz then (lc[k]?).bind fun row=>if j+sz≤row.length then some ⟨.un,lc.set k (splice row j cs),h⟩ else none else none:=by
 unfold storeT storeAt
 split
 ·simp only
  cases lc[k]? <;> rfl
 ·rfl
def nilT:TV→Option TV
 | .v (.c (.ptr id tok i j))=>some (.v (.c (.ptr id tok i j)))
 | .v (.c (.fn f cs))=>some (.v (.c (.fn f cs)))
 | .lp k j=>some (.lp k j)
 | _=>none
theorem nil_p (id tok i j:Nat):nilT (.v (.c (.ptr id tok i j)))=some (.v (.c (.ptr id tok i j))):=rfl
theorem nil_l (k j:Nat):nilT (.lp k j)=some (.lp k j):=rfl
theorem nil_f (f:Nat) (cs:List CV):nilT (.v (.c (.fn f cs)))=some (.v (.c (.fn f cs))):=rfl
def faddrT (off:Nat):TV→Option TV
 | .v (.c (.ptr id tok i j))=>some (.v (.c (.ptr id tok i (j+off))))
 | .lp k j=>some (.lp k (j+off))
 | _=>none
theorem fa_p (off id tok i j:Nat):faddrT off (.v (.c (.ptr id tok i j)))=some (.v (.c (.ptr id tok i (j+off)))):=rfl
theorem fa_l (off k j:Nat):faddrT off (.lp k j)=some (.lp k (j+off)):=rfl
def binT (op:BinOp) (ty:TK) (x y:TV):Option CV:=(asV x).bind fun a=>(asV y).bind fun b=>binV op ty a b
theorem bin_g (op:BinOp) (l:List EK) (a b:List CV):binT op (.st l) (.v (.agg a)) (.v (.agg b))=(eqCells l a b).bind (isEq op):=rfl
theorem eqCells_nil:eqCells [] [] [] = some true:=rfl
theorem eqCells_cons (e:EK) (es:List EK) (x y:CV) (xs ys:List CV):eqCells (e::es) (x::xs) (y::ys)=(eqCell e x y).bind fun r=>if r then eqCells es xs ys else some false:=rfl
theorem eqCell_i (k:IntKind) (a b:Int):eqCell .int (.int k a) (.int k b)=some (decide (a=b)):=by simp [eqCell];rfl
theorem eqCell_b (a b:Bool):eqCell .bool (.bool a) (.bool b)=some (a == b):=rfl
theorem eqCell_s (a b:ByteArray):eqCell .str (.str a) (.str b)=some (a == b):=rfl
theorem isEq_e (b:Bool):isEq .eql b=some (.bool b):=rfl
theorem isEq_n (b:Bool):isEq .neq b=some (.bool !b):=rfl
theorem bin_c (op:BinOp) (ty:TK) (a b:CV):binT op ty (.v (.c a)) (.v (.c b))=binC op ty a b:=rfl
def sliceT (h:Hp) (sz:Nat) (x:TV) (lo hi mx:Option Int):Option CV:=sliceV ⟨[],[],h⟩ sz x lo hi mx
def optN (n:Nat) (l:List (Nat × TV)):Option NX→Option (Option Int)
 | none=>some none
 | some x=>(asI (evN n l x)).map fun p=>some p.2
def iaddrT (h:Hp) (sz:Nat) (x:TV) (i:Int):Option TV:=iaddrV ⟨[],[],h⟩ sz x i
def lenT (h:Hp) (ty:TK) (x:TV):Option Int:=lenV ⟨[],[],h⟩ ty x
def evPN (n:Nat) (l:List (Nat × TV)):List (Nat × Nat × NX)→Option (List (Nat × Nat × AV))
 | []=>some []
 | (o,s,x)::r=>(asV (evN n l x)).bind fun a=>(evPN n l r).map ((o,s,a)::·)
def evCN (n:Nat) (l:List (Nat × TV)):List NX→Option (List CV)
 | []=>some []
 | x::r=>(asC (evN n l x)).bind fun a=>(evCN n l r).map (a::·)
def mapO (o:Option AO):Option (List ME):=
 match o with
 | some (.map _ es _)=>some es
 | _=>none
def mapT (h:Hp):TV→Option (List ME)
 | .v (.c .nilm)=>some []
 | .v (.c (.map id))=>mapO (h.g id)
 | _=>none
def lookT (h:Hp) (kt:KT) (m:TV) (k:Option AV):Option (Option AV):=
 (mapT h m).bind fun es=>k.bind fun kv=>if okKey kt kv=true then (findKey kv es 0).map fun r=>r.map (·.2) else none
def mupdT (h:Hp) (kt:KT) (m:TV) (k:Option AV) (x:Option AV):Option Hp:=
 match m,k,x with
 | .v (.c (.map id)),some kv,some xv=>
  match h.g id with
  | some (.map true es clock)=>
   if okKey kt kv then (findKey kv es 0).map fun
    | some (i,_)=>h.put id (.map true (es.modify i fun e=>{ e with key:=kv,val:=xv }) clock)
    | none=>h.put id (.map true (es++[⟨kv,xv,clock⟩]) (clock+1))
   else none
  | _=>none
 | _,_,_=>none
def mdelT (h:Hp) (kt:KT) (m:TV) (k:Option AV):Option Hp:=
 match m,k with
 | .v (.c .nilm),some kv=>if okKey kt kv then some h else none
 | .v (.c (.map id)),some kv=>
  match h.g id with
  | some (.map true es clock)=>
   if okKey kt kv then (findKey kv es 0).map fun
    | some (i,_)=>h.put id (.map true (es.eraseIdx i) clock)
    | none=>h.put id (.map true es clock)
   else none
  | _=>none
 | _,_=>none
def appT (h:Hp) (lc:List (List CV)) (sz bytes:Nat) (a x:TV):Option (CV × Hp):=(asC a).bind fun av=>(sliceRows h lc sz x).bind fun xs=>appRows h sz bytes av xs
def fold1min:List CV→Option CV
 | []=>none
 | a::r=>foldC minC a r
def fold1max:List CV→Option CV
 | []=>none
 | a::r=>foldC maxC a r
section
variable {n:Nat} {l:List (Nat × TV)} {lc:List (List CV)} {h:Hp}
theorem optN_none:optN n l none=some none:=rfl
theorem optN_some (x:NX):optN n l (some x)=(asI (evN n l x)).map fun p=>some p.2:=rfl
theorem evPN_nil:evPN n l [] = some []:=rfl
theorem evPN_cons (o s:Nat) (x:NX) (r:List (Nat × Nat × NX)):evPN n l ((o,s,x)::r)=(asV (evN n l x)).bind fun a=>(evPN n l r).map ((o,s,a)::·):=rfl
theorem evCN_nil:evCN n l [] = some []:=rfl
theorem evCN_cons (x:NX) (r:List NX):evCN n l (x::r)=(asC (evN n l x)).bind fun a=>(evCN n l r).map (a::·):=rfl
theorem evP_mkT (ps:List (Nat × Nat × NX)):evP (mkT n l) ps=evPN n l ps:=by
 induction ps with
 | nil=>rfl
 | cons p ps ih=>
  obtain ⟨o,s,x⟩:=p
  simp only [evP,evPN,ev_mkT,ih]
  cases asV (evN n l x) <;> simp
  cases evPN n l ps <;> simp
theorem evC_mkT (xs:List NX):evC (mkT n l) xs=evCN n l xs:=by
 induction xs with
 | nil=>rfl
 | cons x xs ih=>
  simp only [evC,evCN,ev_mkT,ih]
  cases asC (evN n l x) <;> simp
  cases evCN n l xs <;> simp
theorem optI_mkT (x:Option NX):optI (mkT n l) x=optN n l x:=by
 cases x with
 | none=>rfl
 | some x=>simp only [optI,optN,ev_mkT]
theorem o_mov (x:NX):opN n l lc h (.mov x)=some ⟨evN n l x,lc,h⟩:=by simp only [opN,nop,ev_mkT]
theorem o_pick (c a b:NX):opN n l lc h (.pick c a b)=(pickT (evN n l c) (evN n l a) (evN n l b)).map fun v=>⟨v,lc,h⟩:=by
 simp only [opN,nop,ev_mkT,pickT]
 split <;> simp_all
theorem o_box_t (sz:Nat) (x:NX):opN n l lc h (.box true sz x)=(asV (evN n l x)).bind fun a=>if a.cells.length=sz then some ⟨.lp lc.length 0,lc++[a.cells],h⟩ else none:=by
 simp only [opN,nop,ev_mkT,boxTo,if_true]
theorem o_box_f (sz:Nat) (x:NX):opN n l lc h (.box false sz x)=(asV (evN n l x)).bind fun a=>if a.cells.length=sz then some ⟨.v (.c (.ptr h.n 0 0 0)),lc,h.push (.rows true sz 0 0 [a.cells])⟩ else none:=by
 simp only [opN,nop,ev_mkT,boxTo,Bool.false_eq_true,if_false]
 rfl
theorem o_build (zero:List CV) (ps:List (Nat × Nat × NX)):opN n l lc h (.build zero ps)=(evPN n l ps).bind fun q=>(fillCells zero q).map fun cs=>⟨.v (.agg cs),lc,h⟩:=by
 simp only [opN,nop,evP_mkT]
theorem o_bslice_t (sz m:Nat) (zero:List CV) (ps:List (Nat × Nat × NX)):opN n l lc h (.bslice true sz m zero ps)=(evPN n l ps).bind fun q=>(fillCells (List.replicate m zero).flatten q).map fun cs=>⟨.lsl lc.length m,lc++[cs],h⟩:=by
 simp only [opN,nop,evP_mkT,if_true]
theorem o_bslice_f (sz m:Nat) (zero:List CV) (ps:List (Nat × Nat × NX)):opN n l lc h (.bslice false sz m zero ps)=(evPN n l ps).bind fun q=>(fillCells (List.replicate m zero).flatten q).map fun cs=>⟨.v (.c (.sl h.n 0 0 m (some m))),lc,h.push (.rows true sz 0 0 (chunks sz m cs))⟩:=by
 simp only [opN,nop,evP_mkT,Bool.false_eq_true,if_false]
 rfl
theorem o_load (sz:Option Nat) (a:NX):opN n l lc h (.load sz a)=(loadT h lc sz (evN n l a)).map fun v=>⟨.v v,lc,h⟩:=by
 simp only [opN,nop,ev_mkT]
 rfl
theorem o_store (sz:Nat) (a x:NX):opN n l lc h (.store sz a x)=(asV (evN n l x)).bind fun v=>storeT h lc sz (evN n l a) v.cells:=by
 simp only [opN,nop,ev_mkT]
 rfl
theorem o_nilck (x:NX):opN n l lc h (.nilck x)=(nilT (evN n l x)).map fun v=>⟨v,lc,h⟩:=by
 simp only [opN,nop,ev_mkT,nilT]
 split <;> simp_all
theorem o_bin (op:BinOp) (ty:TK) (x y:NX):opN n l lc h (.bin op ty x y)=(binT op ty (evN n l x) (evN n l y)).map fun r=>⟨.v (.c r),lc,h⟩:=by
 simp only [opN,nop,ev_mkT,binT]
 cases asV (evN n l x) <;> simp
 cases asV (evN n l y) <;> simp
theorem o_un (op:UnOp) (x:NX):opN n l lc h (.un op x)=(asC (evN n l x)).bind fun a=>(unC op a).map fun r=>⟨.v (.c r),lc,h⟩:=by simp only [opN,nop,ev_mkT]
theorem o_conv (c:NC) (x:NX):opN n l lc h (.conv c x)=convV ⟨mkT n l,lc,h⟩ c (evN n l x):=by simp only [opN,nop,ev_mkT]
theorem o_mkfn (f:Nat) (caps:List NX):opN n l lc h (.mkfn f caps)=(evCN n l caps).map fun q=>⟨.v (.c (.fn f q)),lc,h⟩:=by simp only [opN,nop,evC_mkT]
theorem o_mkmap:opN n l lc h .mkmap=some ⟨.v (.c (.map h.n)),lc,h.push (.map true [] 0)⟩:=rfl
theorem o_mkslice (sz bytes:Nat) (zero:List CV) (a b:NX):opN n l lc h (.mkslice sz bytes zero a b)=(asI (evN n l a)).bind fun x=>(asI (evN n l b)).bind fun y=>
 if 0≤x.2∧x.2≤y.2∧y.2 * bytes≤70368744177664∧y.2≤70368744177664 then
  some ⟨.v (.c (.sl h.n 0 0 x.2.toNat (some y.2.toNat))),lc,h.push (.rows true sz 0 0 (List.replicate y.2.toNat zero))⟩
 else none:=by
 simp only [opN,nop,ev_mkT]
 rfl
theorem o_slice (sz:Nat) (x:NX) (lo hi mx:Option NX):opN n l lc h (.slice sz x lo hi mx)=(optN n l lo).bind fun a=>(optN n l hi).bind fun b=>(optN n l mx).bind fun m=>(sliceT h sz (evN n l x) a b m).map fun r=>⟨.v (.c r),lc,h⟩:=by
 simp only [opN,nop,ev_mkT,optI_mkT]
 rfl
theorem o_faddr (off:Nat) (x:NX):opN n l lc h (.faddr off x)=(faddrT off (evN n l x)).map fun v=>⟨v,lc,h⟩:=by
 simp only [opN,nop,ev_mkT,faddrT]
 split <;> simp_all
theorem o_field (off:Nat) (sz:Option Nat) (x:NX):opN n l lc h (.field off sz x)=(fieldV off sz (evN n l x)).map fun v=>⟨.v v,lc,h⟩:=by simp only [opN,nop,ev_mkT]
theorem o_isnil (b:Bool) (x:NX):opN n l lc h (.isnil b x)=(nilV b (evN n l x)).map fun v=>⟨.v (.c v),lc,h⟩:=by simp only [opN,nop,ev_mkT]
theorem o_mkif (t:Nat) (x:NX):opN n l lc h (.mkif t x)=(ifaceV t (evN n l x)).map fun v=>⟨.v (.c v),lc,h⟩:=by simp only [opN,nop,ev_mkT]
theorem o_assert (t:Nat) (z:AV) (x:NX):opN n l lc h (.assert t z x)=(assertV t z (evN n l x)).map fun v=>⟨.v v,lc,h⟩:=by simp only [opN,nop,ev_mkT]
theorem o_iaddr (sz:Nat) (x i:NX):opN n l lc h (.iaddr sz x i)=(asI (evN n l i)).bind fun p=>(iaddrT h sz (evN n l x) p.2).map fun v=>⟨v,lc,h⟩:=by
 simp only [opN,nop,ev_mkT]
 rfl
theorem o_iaddrA (len sz:Nat) (x i:NX):opN n l lc h (.iaddrA len sz x i)=(asI (evN n l i)).bind fun p=>(iaddrAV len sz (evN n l x) p.2).map fun v=>⟨v,lc,h⟩:=by simp only [opN,nop,ev_mkT]
theorem o_index (len sz:Nat) (ag:Bool) (x i:NX):opN n l lc h (.index len sz ag x i)=(asI (evN n l i)).bind fun p=>
 if 0≤p.2∧p.2<len then (fieldV (p.2.toNat * sz) (if ag then some sz else none) (evN n l x)).map fun v=>⟨.v v,lc,h⟩ else none:=by simp only [opN,nop,ev_mkT]
def strAt:TV→Int→Option CV
 | .v (.c (.str b)),i=>if 0≤i then (b.data.toList[i.toNat]?).map fun c=>.int .u8 c.toNat else none
 | _,_=>none
theorem o_indexS (x i:NX):opN n l lc h (.indexS x i)=(asI (evN n l i)).bind fun p=>(strAt (evN n l x) p.2).map fun r=>⟨.v (.c r),lc,h⟩:=by
 simp only [opN,nop,ev_mkT]
 generalize evN n l x=v
 cases asI (evN n l i) with
 | none=>rfl
 | some p=>
  simp only [Option.bind_some]
  cases v with
  | v q=>cases q with
   | c y=>cases y with
    | str b=>
     simp only [strAt]
     by_cases h0:0≤p.2
     ·rw [if_pos h0,if_pos h0]
      cases b.data.toList[p.2.toNat]? <;> rfl
     ·rw [if_neg h0,if_neg h0];rfl
    | _=>rfl
   | _=>rfl
  | _=>rfl
theorem o_look (kt:KT) (zero:AV) (ok:Bool) (m k:NX):opN n l lc h (.look kt zero ok m k)=(lookT h kt (evN n l m) (asV (evN n l k))).map fun r=>(⟨.v (if ok then .tup [r.getD zero,.c (.bool r.isSome)] else r.getD zero),lc,h⟩:Res):=by
 simp only [opN,nop,ev_mkT,lookT]
 generalize evN n l m=mv
 generalize asV (evN n l k)=kv
 have e:∀ es:List ME,(kv.bind fun kv=>(some es).bind fun es=>if okKey kt kv=true then Option.map (fun r=>(⟨.v (if ok=true then .tup [(match r with|some (_,v)=>(v,true)|none=>(zero,false)).1,.c (.bool (match r with|some (_,v)=>(v,true)|none=>(zero,false)).2)] else (match r with|some (_,v)=>(v,true)|none=>(zero,false)).1),lc,h⟩:Res)) (findKey kv es 0) else none) =
  Option.map (fun r=>(⟨.v (if ok=true then .tup [r.getD zero,.c (.bool r.isSome)] else r.getD zero),lc,h⟩:Res)) ((some es).bind fun es=>kv.bind fun kv=>if okKey kt kv=true then (findKey kv es 0).map fun r=>r.map (·.2) else none):=by
  intro es
  cases kv with
  | none=>rfl
  | some kv=>
   simp only [Option.bind_some]
   by_cases hk:okKey kt kv=true
   ·rw [if_pos hk,if_pos hk]
    cases findKey kv es 0 with
    | none=>rfl
    | some r=>cases r with
     | none=>rfl
     | some p=>rfl
   ·rw [if_neg hk,if_neg hk];rfl
 cases mv with
 | v x=>cases x with
  | c y=>
   cases y with
   | nilm=>exact e []
   | map id=>
    simp only [asC,mapT,Option.bind_some,mapOf,g_def,mapO]
    cases h.g id with
    | none=>cases kv <;> rfl
    | some o=>cases o with
     | map wr es clock=>exact e es
     | _=>cases kv <;> rfl
   | _=>cases kv <;> rfl
  | _=>rfl
 | _=>rfl
theorem o_mupd (kt:KT) (m k x:NX):opN n l lc h (.mupd kt m k x)=(mupdT h kt (evN n l m) (asV (evN n l k)) (asV (evN n l x))).map fun h'=>⟨.un,lc,h'⟩:=by
 simp only [opN,nop,ev_mkT]
 generalize evN n l m=mv
 generalize asV (evN n l k)=kv
 generalize asV (evN n l x)=xv
 cases mv with
 | v q=>cases q with
  | c y=>
   cases y <;> cases kv <;> cases xv <;> try rfl
   rename_i id kv xv
   simp only [asC,Option.bind_some,mupdT,g_def]
   cases h.g id with
   | none=>rfl
   | some o=>cases o with
    | map wr es clock=>
     cases wr with
     | false=>rfl
     | true=>
      simp only
      split
      ·cases findKey kv es 0 with
       | none=>rfl
       | some r=>cases r <;> rfl
      ·rfl
    | _=>rfl
  | _=>rfl
 | _=>rfl
theorem o_mdel (kt:KT) (m k:NX):opN n l lc h (.mdel kt m k)=(mdelT h kt (evN n l m) (asV (evN n l k))).map fun h'=>⟨.v (.tup []),lc,h'⟩:=by
 simp only [opN,nop,ev_mkT]
 generalize evN n l m=mv
 generalize asV (evN n l k)=kv
 cases mv with
 | v q=>cases q with
  | c y=>
   cases y <;> cases kv <;> try rfl
   ·rename_i kv
    simp only [asC,Option.bind_some,mdelT]
    split <;> rfl
   ·rename_i id kv
    simp only [asC,Option.bind_some,mdelT,g_def]
    cases h.g id with
    | none=>rfl
    | some o=>cases o with
     | map wr es clock=>
      cases wr with
      | false=>rfl
      | true=>
       simp only
       split
       ·cases findKey kv es 0 with
        | none=>rfl
        | some r=>cases r <;> rfl
       ·rfl
     | _=>rfl
  | _=>rfl
 | _=>rfl
theorem o_range (ty:TK) (x:NX):opN n l lc h (.range ty x)=nop noCall (fun _=>0) ⟨[],lc,h⟩ (.range ty (match evN n l x with | .v a=>.c a|_=>.t 0)):=by
 simp only [opN,nop,ev_mkT]
 generalize evN n l x=v
 cases v <;> rfl
theorem o_ext (x:NX) (i:Nat):opN n l lc h (.ext x i)=(extV (evN n l x) i).map fun v=>⟨v,lc,h⟩:=by simp only [opN,nop,ev_mkT]
def entryT (h:Hp) (x:TV):Option TV:=entryV ⟨[],[],h⟩ x
theorem o_entry (x:NX):opN n l lc h (.entry x)=(entryT h (evN n l x)).map fun v=>⟨v,lc,h⟩:=by
 simp only [opN,nop,ev_mkT]
 rfl
theorem o_app (sz bytes:Nat) (a x:NX):opN n l lc h (.app sz bytes a x)=(appT h lc sz bytes (evN n l a) (evN n l x)).map fun r=>⟨.v (.c r.1),lc,r.2⟩:=by
 simp only [opN,nop,ev_mkT,appT]
 cases asC (evN n l a) <;> simp
 cases sliceRows h lc sz (evN n l x) <;> simp
theorem o_copy (sz:Nat) (d x:NX):opN n l lc h (.copy sz d x)=copyV ⟨[],lc,h⟩ sz (evN n l d) (evN n l x):=by
 simp only [opN,nop,ev_mkT]
 rfl
theorem o_clear (sz:Nat) (zero:List CV) (x:NX):opN n l lc h (.clear sz zero x)=clearV ⟨[],lc,h⟩ sz zero (evN n l x):=by
 simp only [opN,nop,ev_mkT]
 rfl
theorem o_len (ty:TK) (x:NX):opN n l lc h (.len ty x)=(lenT h ty (evN n l x)).map fun r=>⟨.v (.c (.int .i64 r)),lc,h⟩:=by
 simp only [opN,nop,ev_mkT]
 rfl
theorem o_cap (x:NX):opN n l lc h (.cap x)=(capV (evN n l x)).map fun r=>⟨.v (.c (.int .i64 r)),lc,h⟩:=by simp only [opN,nop,ev_mkT]
theorem o_min (xs:List NX):opN n l lc h (.min xs)=((evCN n l xs).bind fold1min).map fun v=>⟨.v (.c v),lc,h⟩:=by
 simp only [opN,nop,evC_mkT]
 cases evCN n l xs with
 | none=>rfl
 | some q=>cases q <;> rfl
theorem o_max (xs:List NX):opN n l lc h (.max xs)=((evCN n l xs).bind fold1max).map fun v=>⟨.v (.c v),lc,h⟩:=by
 simp only [opN,nop,evC_mkT]
 cases evCN n l xs with
 | none=>rfl
 | some q=>cases q <;> rfl
end
theorem fmin_cons (a:CV) (r:List CV):fold1min (a::r)=foldC minC a r:=rfl
theorem fmax_cons (a:CV) (r:List CV):fold1max (a::r)=foldC maxC a r:=rfl
theorem foldC_nil (f:CV→CV→Option CV) (a:CV):foldC f a [] = some a:=rfl
theorem foldC_cons (f:CV→CV→Option CV) (a b:CV) (r:List CV):foldC f a (b::r)=(f a b).bind fun x=>foldC f x r:=rfl
theorem minC_int (k:IntKind) (x y:Int):minC (.int k x) (.int k y)=some (.int k (min x y)):=by
 simp only [minC,if_true]
 congr 2
 rw [Int.min_def]
 split <;> split <;> omega
theorem maxC_int (k:IntKind) (x y:Int):maxC (.int k x) (.int k y)=some (.int k (max x y)):=by
 simp only [maxC,if_true]
 congr 2
 rw [Int.max_def]
 split <;> split <;> omega
theorem extV_tup (vs:List AV) (i:Nat):extV (.v (.tup vs)) i=(vs[i]?).map .v:=rfl
theorem fieldV_agg (off:Nat) (sz:Option Nat) (cs:List CV):fieldV off sz (.v (.agg cs))=takeCells sz cs off:=rfl
theorem nv_n (b:Bool):nilV b (.v (.c .nili))=some (.bool !b):=rfl
theorem nv_i (b:Bool) (t:Nat) (ag:Bool) (cs:List CV):nilV b (.v (.c (.iface t ag cs)))=some (.bool b):=rfl
theorem if_c (t:Nat) (y:CV):ifaceV t (.v (.c y))=some (.iface t false [y]):=rfl
theorem if_a (t:Nat) (cs:List CV):ifaceV t (.v (.agg cs))=some (.iface t true cs):=rfl
theorem as_n (t:Nat) (z:AV):assertV t z (.v (.c .nili))=some (.tup [z,.c (.bool false)]):=rfl
theorem as_i (t t':Nat) (z:AV) (ag:Bool) (cs:List CV):assertV t z (.v (.c (.iface t' ag cs)))=if t'=t then (unI ag cs).map fun v=>.tup [v,.c (.bool true)] else some (.tup [z,.c (.bool false)]):=rfl
theorem uni_t (cs:List CV):unI true cs=some (.agg cs):=rfl
theorem uni_f (y:CV):unI false [y] = some (.c y):=rfl
theorem fill_nil (cells:List CV):fillCells cells [] = some cells:=rfl
theorem fill_cons (cells:List CV) (off sz:Nat) (x:AV) (r:List (Nat × Nat × AV)):fillCells cells ((off,sz,x)::r)=if x.cells.length=sz∧off+sz≤cells.length then fillCells (splice cells off x.cells) r else none:=rfl
theorem splice_def (r:List CV) (j:Nat) (cs:List CV):splice r j cs=r.take j++(cs++r.drop (j+cs.length)):=List.append_assoc _ _ _
theorem cells_c (x:CV):AV.cells (.c x)=[x]:=rfl
theorem cells_agg (x:List CV):AV.cells (.agg x)=x:=rfl
end
section
theorem asV_c (x:CV):asV (.v (.c x))=some (.c x):=rfl
theorem asV_a (x:List CV):asV (.v (.agg x))=some (.agg x):=rfl
theorem asC_c (x:CV):asC (.v (.c x))=some x:=rfl
theorem asI_i (k:IntKind) (n:Int):asI (.v (.c (.int k n)))=some (k,n):=rfl
section
variable (ty:TK) (k:IntKind) (a b:Int)
theorem b_add:binC .add ty (.int k a) (.int k b)=some (.int k (k.wrap (a+b))):=by simp [binC,intBin]
theorem b_sub:binC .sub ty (.int k a) (.int k b)=some (.int k (k.wrap (a-b))):=by simp [binC,intBin]
theorem b_mul:binC .mul ty (.int k a) (.int k b)=some (.int k (k.wrap (a * b))):=by simp [binC,intBin]
theorem b_quo:binC .quo ty (.int k a) (.int k b)=if b=0 then none else some (.int k (k.wrap (a.tdiv b))):=by simp [binC,intBin]
theorem b_rem:binC .rem ty (.int k a) (.int k b)=if b=0 then none else some (.int k (a.tmod b)):=by simp [binC,intBin]
theorem b_and:binC .and ty (.int k a) (.int k b)=some (.int k (k.wrap (BitVec.ofInt k.bits a &&& BitVec.ofInt k.bits b).toNat)):=by simp [binC,intBin]
theorem b_or:binC .or ty (.int k a) (.int k b)=some (.int k (k.wrap (BitVec.ofInt k.bits a ||| BitVec.ofInt k.bits b).toNat)):=by simp [binC,intBin]
theorem b_xor:binC .xor ty (.int k a) (.int k b)=some (.int k (k.wrap (BitVec.ofInt k.bits a ^^^ BitVec.ofInt k.bits b).toNat)):=by simp [binC,intBin]
theorem b_eql:binC .eql ty (.int k a) (.int k b)=some (.bool (decide (a=b))):=by
 simp [binC,intBin]
 rfl
theorem b_neq:binC .neq ty (.int k a) (.int k b)=some (.bool (!decide (a=b))):=by
 simp [binC,intBin,bne]
 rfl
theorem b_lss:binC .lss ty (.int k a) (.int k b)=some (.bool (decide (a<b))):=by simp [binC,intBin]
theorem b_leq:binC .leq ty (.int k a) (.int k b)=some (.bool (decide (a≤b))):=by simp [binC,intBin]
theorem b_gtr:binC .gtr ty (.int k a) (.int k b)=some (.bool (decide (b<a))):=by simp [binC,intBin]
theorem b_geq:binC .geq ty (.int k a) (.int k b)=some (.bool (decide (b≤a))):=by simp [binC,intBin]
end
theorem b_beq (a b:Bool):binC .eql .bool (.bool a) (.bool b)=some (.bool (a == b)):=rfl
theorem b_bne (a b:Bool):binC .neq .bool (.bool a) (.bool b)=some (.bool !(a == b)):=rfl
theorem b_pn1 (id tok i j:Nat):binC .eql .ptr (.ptr id tok i j) .nilp=some (.bool false):=rfl
theorem b_pn2 (id tok i j:Nat):binC .neq .ptr (.ptr id tok i j) .nilp=some (.bool true):=rfl
theorem b_pn3:binC .eql .ptr .nilp .nilp=some (.bool true):=rfl
theorem b_pn4:binC .neq .ptr .nilp .nilp=some (.bool false):=rfl
theorem b_sn1 (id tok off len:Nat) (cap:Option Nat):binC .eql .sl (.sl id tok off len cap) .nils=some (.bool false):=rfl
theorem b_sn2 (id tok off len:Nat) (cap:Option Nat):binC .neq .sl (.sl id tok off len cap) .nils=some (.bool true):=rfl
theorem b_sn3:binC .eql .sl .nils .nils=some (.bool true):=rfl
theorem b_sn4:binC .neq .sl .nils .nils=some (.bool false):=rfl
theorem u_not (b:Bool):unC .not (.bool b)=some (.bool !b):=rfl
theorem u_neg (k:IntKind) (n:Int):unC .neg (.int k n)=some (.int k (k.wrap (0-n))):=rfl
theorem c_int (t:List TV) (lc:List (List CV)) (h:Hp) (k k':IntKind) (n:Int):convV ⟨t,lc,h⟩ (.toInt k) (.v (.c (.int k' n)))=some ⟨.v (.c (.int k (k.wrap n))),lc,h⟩:=rfl
theorem c_same (t:List TV) (lc:List (List CV)) (h:Hp) (b:ByteArray):convV ⟨t,lc,h⟩ .same (.v (.c (.str b)))=some ⟨.v (.c (.str b)),lc,h⟩:=rfl
theorem wrap_i64 {n:Int} (h : -9223372036854775808≤n∧n≤9223372036854775807):IntKind.wrap .i64 n=n:=IntWalk.i64_in n h
theorem wrap_u64 {n:Int} (h:0≤n∧n≤18446744073709551615):IntKind.wrap .u64 n=n:=IntWalk.u64_in n h
theorem wrap_i32 {n:Int} (h : -2147483648≤n∧n≤2147483647):IntKind.wrap .i32 n=n:=IntWalk.i32_in n h
theorem wrap_u8 {n:Int} (h:0≤n∧n≤255):IntKind.wrap .u8 n=n:=IntWalk.u8_in n h
end
section
theorem beq_bytes (m n:ByteArray):(m == n)=true↔m=n:=by
 constructor
 ·intro h
  obtain ⟨a⟩:=m
  obtain ⟨b⟩:=n
  have h2:(a == b)=true:=h
  have h3:=eq_of_beq h2
  rw [h3]
 ·rintro rfl
  obtain ⟨a⟩:=m
  show (a == a)=true
  exact beq_self_eq_true a
theorem keqC_int {k:IntKind} {a b:CV} (ha:isInt k a=true) (hb:isInt k b=true):∃ r,keqC a b=some r∧(r=true↔a=b):=by
 cases a with
 | int k1 m=>cases b with
  | int k2 n=>
   simp only [isInt,beq_iff_eq] at ha hb
   subst ha hb
   exact ⟨m == n,by simp [keqC],by simp⟩
  | _=>cases hb
 | _=>cases ha
theorem keqL_int {k:IntKind}:∀ {a b:List CV},a.length=b.length→a.all (isInt k)=true→b.all (isInt k)=true→∃ r,keqL a b=some r∧(r=true↔a=b)
 | [],[],_,_,_=>⟨true,rfl,by simp⟩
 | x::a,y::b,hl,ha,hb=>by
  simp only [List.all_cons,Bool.and_eq_true] at ha hb
  obtain ⟨r,h1,h2⟩:=keqC_int ha.1 hb.1
  obtain ⟨q,h3,h4⟩:=keqL_int (by simpa using hl) ha.2 hb.2
  cases r with
  | true=>
   refine ⟨q,by simp [keqL,h1,h3],?_⟩
   rw [h4]
   have:=h2.mp rfl
   subst this
   simp
  | false=>
   refine ⟨false,by simp [keqL,h1],?_⟩
   constructor
   ·intro h;cases h
   ·intro h
    injection h with h5 h6
    have:=h2.mpr h5
    cases this
 | [],_::_,hl,_,_=>by simp at hl
 | _::_,[],hl,_,_=>by simp at hl
theorem keq_ok {kt:KT} {a b:AV} (ha:okKey kt a=true) (hb:okKey kt b=true):∃ r,keq a b=some r∧(r=true↔a=b):=by
 cases kt with
 | int k=>
  cases a with
  | c x=>cases b with
   | c y=>
    cases x with
    | int k1 m=>cases y with
     | int k2 n=>
      simp only [okKey,beq_iff_eq] at ha hb
      subst ha hb
      exact ⟨m == n,by simp [keq,keqC],by simp⟩
     | _=>cases hb
    | _=>cases ha
   | _=>simp [okKey] at hb
  | _=>simp [okKey] at ha
 | str=>
  cases a with
  | c x=>cases b with
   | c y=>
    cases x <;> simp [okKey] at ha
    cases y <;> simp [okKey] at hb
    rename_i m n
    exact ⟨m == n,by simp [keq,keqC],by rw [beq_bytes];simp⟩
   | _=>simp [okKey] at hb
  | _=>simp [okKey] at ha
 | bool=>
  cases a with
  | c x=>cases b with
   | c y=>
    cases x <;> simp [okKey] at ha
    cases y <;> simp [okKey] at hb
    rename_i m n
    exact ⟨m == n,by simp [keq,keqC],by simp⟩
   | _=>simp [okKey] at hb
  | _=>simp [okKey] at ha
 | arr n k=>
  cases a with
  | agg x=>cases b with
   | agg y=>
    simp only [okKey,Bool.and_eq_true,beq_iff_eq] at ha hb
    obtain ⟨r,h1,h2⟩:=keqL_int (by rw [ha.1,hb.1]) ha.2 hb.2
    exact ⟨r,by simp [keq,h1],by rw [h2];simp⟩
   | _=>simp [okKey] at hb
  | _=>simp [okKey] at ha
theorem findKey_fn {kt:KT} {k:AV} (hk:okKey kt k=true):∀ {es:List ME} (i:Nat),(∀ e∈es,okKey kt e.key=true)→
 (findKey k es i=some none∧∀ e∈es,e.key≠k)∨∃ j e,findKey k es i=some (some (i+j,e.val))∧es[j]? = some e∧e.key=k
 | [],i,_=>.inl ⟨rfl,by simp⟩
 | e::es,i,h=>by
  obtain ⟨r,h1,h2⟩:=keq_ok hk (h e (by simp))
  cases r with
  | true=>
   right
   exact ⟨0,e,by simp [findKey,h1],rfl,(h2.mp rfl).symm⟩
  | false=>
   have hne:e.key≠k:=fun he=>by have:=h2.mpr he.symm;cases this
   rcases findKey_fn hk (es:=es) (i+1) (fun e he=>h e (by simp [he])) with ⟨h3,h4⟩|⟨j,e',h3,h4,h5⟩
   ·left
    refine ⟨by simp [findKey,h1,h3],?_⟩
    intro x hx
    rcases List.mem_cons.mp hx with rfl|hx
    ·exact hne
    ·exact h4 x hx
   ·right
    exact ⟨j+1,e',by simp only [findKey,h1,h3];rw [Nat.add_assoc,Nat.add_comm 1 j],by simpa using h4,h5⟩
structure IsMap (kt:KT) (es:List ME) (M:AV→Option AV):Prop where
 keys:∀ e∈es,okKey kt e.key=true
 uniq:List.Pairwise (fun a b:ME=>a.key≠b.key) es
 vals:∀ k v,M k=some v↔∃ e∈es,e.key=k∧e.val=v
theorem IsMap.nil {kt:KT} {M:AV→Option AV} (h:∀ k,M k=none):IsMap kt [] M:=⟨by simp,List.Pairwise.nil,fun k v=>by simp [h]⟩
theorem IsMap.find {kt:KT} {es:List ME} {M:AV→Option AV} (h:IsMap kt es M) {k:AV} (hk:okKey kt k=true):∃ r,findKey k es 0=some r∧r.map (·.2)=M k:=by
 rcases findKey_fn hk (es:=es) 0 h.keys with ⟨h1,h2⟩|⟨j,e,h1,h2,h3⟩
 ·refine ⟨none,h1,?_⟩
  cases hM:M k with
  | none=>rfl
  | some v=>
   obtain ⟨e,he,hk',_⟩:=(h.vals k v).mp hM
   exact absurd hk' (h2 e he)
 ·refine ⟨_,h1,?_⟩
  simp only [Option.map_some]
  exact ((h.vals k e.val).mpr ⟨e,List.mem_of_getElem? h2,h3,rfl⟩).symm
theorem look_ok {kt:KT} {wr:Bool} {es:List ME} {M:AV→Option AV} {h:Hp} {id clock:Nat} {k:AV} (hm:h.g id=some (.map wr es clock)) (hM:IsMap kt es M) (hk:okKey kt k=true) :
 lookT h kt (.v (.c (.map id))) (some k)=some (M k):=by
 obtain ⟨r,h1,h2⟩:=hM.find hk
 simp only [lookT,mapT,hm,mapO,Option.bind_some,hk,if_true,h1,Option.map_some,h2]
theorem look_nil {kt:KT} {h:Hp} {k:AV} (hk:okKey kt k=true):lookT h kt (.v (.c .nilm)) (some k)=some none:=by
 simp only [lookT,mapT,Option.bind_some,hk,if_true,findKey,Option.map_some,Option.map_none]
theorem uniq_idx {es:List ME} (h:List.Pairwise (fun a b:ME=>a.key≠b.key) es) {i j:Nat} {a b:ME} (hi:es[i]? = some a) (hj:es[j]? = some b) (he:a.key=b.key):i=j:=by
 obtain ⟨hi1,hi2⟩:=List.getElem?_eq_some_iff.mp hi
 obtain ⟨hj1,hj2⟩:=List.getElem?_eq_some_iff.mp hj
 rcases Nat.lt_trichotomy i j with hl|hl|hl
 ·have:=List.pairwise_iff_getElem.mp h i j hi1 hj1 hl
  rw [hi2,hj2] at this
  exact absurd he this
 ·exact hl
 ·have:=List.pairwise_iff_getElem.mp h j i hj1 hi1 hl
  rw [hi2,hj2] at this
  exact absurd he.symm this
open Classical in
noncomputable def setM (M:AV→Option AV) (k:AV) (v:Option AV):AV→Option AV:=fun k'=>if k'=k then v else M k'
theorem setM_eq (M:AV→Option AV) (k:AV) (v:Option AV):setM M k v k=v:=by simp [setM]
theorem setM_ne (M:AV→Option AV) {k k':AV} (v:Option AV) (h:k'≠k):setM M k v k'=M k':=by simp [setM,h]
theorem mupd_ok {kt:KT} {es:List ME} {M M':AV→Option AV} {h:Hp} {id clock:Nat} {k x:AV} (hm:h.g id=some (.map true es clock)) (hM:IsMap kt es M) (hk:okKey kt k=true)
 (h1:M' k=some x) (h2:∀ k',k'≠k→M' k'=M k'):∃ es' clock',mupdT h kt (.v (.c (.map id))) (some k) (some x)=some (h.put id (.map true es' clock'))∧IsMap kt es' M':=by
 unfold mupdT
 simp only [hm,hk,if_true]
 rcases findKey_fn hk (es:=es) 0 hM.keys with ⟨f1,f2⟩|⟨j,e,f1,f2,f3⟩
 ·rw [f1]
  refine ⟨_,_,rfl,?_,?_,?_⟩
  ·intro e he
   rcases List.mem_append.mp he with he|he
   ·exact hM.keys e he
   ·simp at he;subst he;exact hk
  ·rw [List.pairwise_append]
   refine ⟨hM.uniq,by simp,?_⟩
   intro a ha b hb
   simp at hb
   subst hb
   exact f2 a ha
  ·intro k' v
   by_cases hkk:k'=k
   ·subst hkk
    rw [h1]
    constructor
    ·intro hv
     injection hv with hv
     subst hv
     exact ⟨⟨k',x,clock⟩,by simp,rfl,rfl⟩
    ·rintro ⟨e,he,e1,e2⟩
     rcases List.mem_append.mp he with he|he
     ·exact absurd e1 (f2 e he)
     ·simp at he;subst he;simp at e2;rw [e2]
   ·rw [h2 k' hkk,hM.vals]
    constructor
    ·rintro ⟨e,he,e1,e2⟩
     exact ⟨e,by simp [he],e1,e2⟩
    ·rintro ⟨e,he,e1,e2⟩
     rcases List.mem_append.mp he with he|he
     ·exact ⟨e,he,e1,e2⟩
     ·simp at he;subst he;exact absurd e1.symm hkk
 ·rw [f1]
  simp only [Nat.zero_add,Option.map_some]
  have hget:∀ i,(es.modify j fun e=>{ e with key:=k,val:=x })[i]? = if j=i then (es[i]?).map fun e=>{ e with key:=k,val:=x } else es[i]?:=by
   intro i
   rw [List.getElem?_modify]
   by_cases hij:j=i
   ·simp [hij]
   ·simp [hij]
  refine ⟨_,_,rfl,?_,?_,?_⟩
  ·intro e' he
   obtain ⟨i,hi⟩:=List.getElem?_of_mem he
   rw [hget] at hi
   split at hi
   ·simp only [Option.map_eq_some_iff] at hi
    obtain ⟨e0,_,rfl⟩:=hi
    exact hk
   ·exact hM.keys e' (List.mem_of_getElem? hi)
  ·rw [List.pairwise_iff_getElem]
   intro a b ha hb hab
   have ha':a<es.length:=by simpa using ha
   have hb':b<es.length:=by simpa using hb
   have hkey:∀ i (hi:i<es.length),((es.modify j fun e=>{ e with key:=k,val:=x })[i]'(by simpa using hi)).key=es[i].key:=by
    intro i hi
    have:=hget i
    rw [List.getElem?_eq_getElem (by simpa using hi),List.getElem?_eq_getElem hi] at this
    split at this
    ·rename_i hij
     subst hij
     simp only [Option.map_some,Option.some.injEq] at this
     rw [this]
     simp only
     rw [List.getElem?_eq_getElem hi] at f2
     injection f2 with f2
     rw [f2,f3]
    ·injection this with this
     rw [this]
   rw [hkey a ha',hkey b hb']
   exact List.pairwise_iff_getElem.mp hM.uniq a b ha' hb' hab
  ·intro k' v
   by_cases hkk:k'=k
   ·subst hkk
    rw [h1]
    constructor
    ·intro hv
     injection hv with hv
     subst hv
     refine ⟨{ e with key:=k',val:=x },List.mem_of_getElem? (i:=j) ?_,rfl,rfl⟩
     rw [hget,if_pos rfl,f2]
     rfl
    ·rintro ⟨e',he,e1,e2⟩
     obtain ⟨i,hi⟩:=List.getElem?_of_mem he
     rw [hget] at hi
     split at hi
     ·simp only [Option.map_eq_some_iff] at hi
      obtain ⟨e0,_,rfl⟩:=hi
      simp at e2
      rw [e2]
     ·rename_i hij
      exact absurd (uniq_idx hM.uniq f2 hi (by rw [f3,e1])) hij
   ·rw [h2 k' hkk,hM.vals]
    constructor
    ·rintro ⟨e',he,e1,e2⟩
     obtain ⟨i,hi⟩:=List.getElem?_of_mem he
     refine ⟨e',List.mem_of_getElem? (i:=i) ?_,e1,e2⟩
     rw [hget,if_neg]
     ·exact hi
     ·rintro rfl
      rw [f2] at hi
      injection hi with hi
      subst hi
      exact hkk (by rw [←e1,f3])
    ·rintro ⟨e',he,e1,e2⟩
     obtain ⟨i,hi⟩:=List.getElem?_of_mem he
     rw [hget] at hi
     split at hi
     ·simp only [Option.map_eq_some_iff] at hi
      obtain ⟨e0,_,rfl⟩:=hi
      exact absurd e1.symm hkk
     ·exact ⟨e',List.mem_of_getElem? hi,e1,e2⟩
theorem mdel_ok {kt:KT} {es:List ME} {M M':AV→Option AV} {h:Hp} {id clock:Nat} {k:AV} (hm:h.g id=some (.map true es clock)) (hM:IsMap kt es M) (hk:okKey kt k=true)
 (h1:M' k=none) (h2:∀ k',k'≠k→M' k'=M k'):∃ es' clock',mdelT h kt (.v (.c (.map id))) (some k)=some (h.put id (.map true es' clock'))∧IsMap kt es' M':=by
 unfold mdelT
 simp only [hm,hk,if_true]
 rcases findKey_fn hk (es:=es) 0 hM.keys with ⟨f1,f2⟩|⟨j,e,f1,f2,f3⟩
 ·rw [f1]
  refine ⟨es,clock,rfl,hM.keys,hM.uniq,?_⟩
  intro k' v
  by_cases hkk:k'=k
  ·subst hkk
   rw [h1]
   constructor
   ·intro h;cases h
   ·rintro ⟨e,he,e1,_⟩;exact absurd e1 (f2 e he)
  ·rw [h2 k' hkk,hM.vals]
 ·rw [f1]
  simp only [Nat.zero_add,Option.map_some]
  refine ⟨_,_,rfl,?_,?_,?_⟩
  ·intro e' he
   exact hM.keys e' (List.mem_of_mem_eraseIdx he)
  ·exact hM.uniq.sublist (List.eraseIdx_sublist _ _)
  ·intro k' v
   by_cases hkk:k'=k
   ·subst hkk
    rw [h1]
    constructor
    ·intro h;cases h
    ·rintro ⟨e',he,e1,_⟩
     exfalso
     obtain ⟨i,hi⟩:=List.getElem?_of_mem he
     rw [List.getElem?_eraseIdx] at hi
     split at hi
     ·rename_i hlt
      have:=uniq_idx hM.uniq f2 hi (by rw [f3,e1])
      omega
     ·rename_i hge
      have:=uniq_idx hM.uniq f2 hi (by rw [f3,e1])
      omega
   ·rw [h2 k' hkk,hM.vals]
    constructor
    ·rintro ⟨e',he,e1,e2⟩
     refine ⟨e',?_,e1,e2⟩
     obtain ⟨i,hi⟩:=List.getElem?_of_mem he
     have hij:i≠j:=by
      rintro rfl
      rw [f2] at hi
      injection hi with hi
      subst hi
      exact hkk (by rw [←e1,f3])
     rcases Nat.lt_or_ge i j with hlt|hge
     ·refine List.mem_of_getElem? (i:=i) ?_
      rw [List.getElem?_eraseIdx,if_pos hlt];exact hi
     ·refine List.mem_of_getElem? (i:=i-1) ?_
      rw [List.getElem?_eraseIdx,if_neg (by omega),show i-1+1=i by omega];exact hi
    ·rintro ⟨e',he,e1,e2⟩
     exact ⟨e',List.mem_of_mem_eraseIdx he,e1,e2⟩
end
section
structure Fm (S:Nat→Prop) (h h':Hp):Prop where
 n:h.n≤h'.n
 g:∀ j,j<h.n→¬S j→h'.g j=h.g j
theorem Fm.refl (S:Nat→Prop) (h:Hp):Fm S h h:=⟨Nat.le_refl _,fun _ _ _=>rfl⟩
theorem Fm.trans {S:Nat→Prop} {a b c:Hp} (h:Fm S a b) (k:Fm S b c):Fm S a c:=
 ⟨Nat.le_trans h.n k.n,fun j hj hS=>(k.g j (Nat.lt_of_lt_of_le hj h.n) hS).trans (h.g j hj hS)⟩
theorem Fm.mono {S S':Nat→Prop} {a b:Hp} (h:Fm S a b) (k:∀ j,j<a.n→S j→S' j):Fm S' a b:=
 ⟨h.n,fun j hj hS=>h.g j hj fun h'=>hS (k j hj h')⟩
theorem Fm.some {S:Nat→Prop} {a b:Hp} (h:Fm S a b) {j:Nat} {o:AO} (e:a.g j = .some o) (hS:¬S j):b.g j = .some o:=by
 rw [h.g j (lt_of_g e) hS,e]
theorem Fm.push (S:Nat→Prop) (h:Hp) (o:AO):Fm S h (h.push o):=⟨by rw [n_push];omega,fun j hj _=>g_push_ne h o (by omega)⟩
theorem Fm.put {S:Nat→Prop} (h:Hp) {i:Nat} (o:AO) (hi:S i):Fm S h (h.put i o):=⟨by rw [n_put];exact Nat.le_refl _,fun j _ hS=>g_put_ne h o (by rintro rfl;exact hS hi)⟩
abbrev Fn (h h':Hp):Prop:=Fm (fun _=>False) h h'
theorem Fm.fresh {S T:Nat→Prop} {a b c:Hp} (h:Fm T a b) (k:Fm S b c) (hS:∀ j,S j→a.n≤j):Fm T a c:=
 ⟨Nat.le_trans h.n k.n,fun j hj hT=>(k.g j (Nat.lt_of_lt_of_le hj h.n) fun h'=>by have:=hS j h';omega).trans (h.g j hj hT)⟩
def SL (h:Hp) (sz:Nat):CV→List (List CV)→Prop
 | .nils,rows=>rows=[]
 | .sl id tok off len _,rows=>∃ wr cur lw rs,h.g id=some (.rows wr sz cur lw rs)∧lw≤tok∧off+len≤rs.length∧rows=(rs.drop off).take len
 | _,_=>False
section
variable {h:Hp} {sz:Nat} {v:CV} {rows:List (List CV)} {lc:List (List CV)}
theorem SL.len (k:SL h sz v rows) (h':Hp):lenT h' .sl (.v (.c v))=some (rows.length:Int):=by
 cases v <;> simp only [SL] at k
 case nils=>subst k;rfl
 case sl id tok off len cap=>
  obtain ⟨wr,cur,lw,rs,h1,h2,h3,rfl⟩:=k
  simp only [lenT,lenV,if_true,List.length_take,List.length_drop]
  congr 1
  omega
theorem SL.read (k:SL h sz v rows):sliceRows h lc sz (.v (.c v))=some rows:=by
 cases v <;> simp only [SL] at k
 case nils=>subst k;rfl
 case sl id tok off len cap=>
  obtain ⟨wr,cur,lw,rs,h1,h2,h3,rfl⟩:=k
  simp only [sliceRows,g_def,h1,h2,and_self,if_true]
theorem SL.at (k:SL h sz v rows) {i:Int} {r:List CV} (h0:0≤i) (hr:rows[i.toNat]? = some r):∃ id tok j,iaddrT h sz (.v (.c v)) i=some (.v (.c (.ptr id tok j 0)))∧rowO (h.g id) tok j=some r:=by
 cases v <;> simp only [SL] at k
 case nils=>subst k;simp at hr
 case sl id tok off len cap=>
  obtain ⟨wr,cur,lw,rs,h1,h2,h3,rfl⟩:=k
  rw [List.getElem?_take] at hr
  split at hr
  ·rename_i hlt
   rw [List.getElem?_drop] at hr
   refine ⟨id,tok,off+i.toNat,?_,?_⟩
   ·simp only [iaddrT,iaddrV,g_def,h1]
    rw [if_pos ⟨trivial,h2,h0,by omega⟩]
   ·simp only [h1,rowO,h2,if_true,hr]
  ·cases hr
theorem SL.mono {S:Nat→Prop} {h':Hp} (k:SL h sz v rows) (f:Fm S h h') (hS:∀ id tok off len cap,v = .sl id tok off len cap→¬S id):SL h' sz v rows:=by
 cases v <;> simp only [SL] at k ⊢
 case nils=>exact k
 case sl id tok off len cap=>
  obtain ⟨wr,cur,lw,rs,h1,h2,h3,h4⟩:=k
  exact ⟨wr,cur,lw,rs,f.some h1 (hS _ _ _ _ _ rfl),h2,h3,h4⟩
theorem SL.new {h':Hp} (k:SL h sz v rows) (f:Fn h h'):SL h' sz v rows:=k.mono f (fun _ _ _ _ _ _ h=>h)
def Own (h:Hp) (sz:Nat):CV→List (List CV)→Prop
 | .nils,rows=>rows=[]
 | .sl id tok off len cap,rows=>off=0∧len=rows.length∧cap=none∧h.g id=some (.rows true sz tok 0 rows)
 | _,_=>False
def ownId:CV→Nat→Prop
 | .sl id _ _ _ _,j=>j=id
 | _,_=>False
theorem Own.sl (k:Own h sz v rows):SL h sz v rows:=by
 cases v <;> simp only [Own] at k
 case nils=>subst k;rfl
 case sl id tok off len cap=>
  obtain ⟨rfl,rfl,rfl,h1⟩:=k
  exact ⟨true,tok,0,rows,h1,Nat.zero_le _,by omega,by simp⟩
theorem Own.app (k:Own h sz v rows) {x:TV} {xs:List (List CV)} (hx:sliceRows h lc sz x=some xs) (hne:xs≠[]) {bytes:Nat} (hb:(rows.length+xs.length) * bytes≤room) :
 ∃ v' h',appT h lc sz bytes (.v (.c v)) x=some (v',h')∧Own h' sz v' (rows++xs)∧Fm (ownId v) h h'∧(∀ j,ownId v' j→ownId v j∨h.n≤j):=by
 cases xs with
 | nil=>exact absurd rfl hne
 | cons y ys=>
  cases v <;> simp only [Own] at k
  case nils=>
   subst k
   refine ⟨.sl h.n 0 0 (y::ys).length none,h.push (.rows true sz 0 0 (y::ys)),?_,?_,Fm.push _ _ _,?_⟩
   ·simp only [appT,asC_c,Option.bind_some,hx,appRows]
    rw [if_pos (by simpa using hb)]
    rfl
   ·simp only [Own,List.nil_append]
    exact ⟨trivial,trivial,trivial,g_push_eq _ _⟩
   ·intro j hj
    simp only [ownId] at hj
    exact .inr (by omega)
  case sl id tok off len cap=>
   obtain ⟨rfl,rfl,rfl,h1⟩:=k
   refine ⟨.sl id (tok+1) 0 (rows.length+(y::ys).length) none,h.put id (.rows true sz (tok+1) 0 (rows++(y::ys))),?_,?_,Fm.put _ _ rfl,fun j hj=>.inl hj⟩
   ·simp only [appT,asC_c,Option.bind_some,hx,appRows,g_def,h1]
    rw [if_pos ⟨trivial,Nat.zero_le _,hb⟩]
    simp
   ·simp only [Own]
    exact ⟨trivial,by simp,trivial,by rw [g_put_eq,h1];rfl⟩
end
theorem loop_inv {c:CallW} {b:Code} {Q:Ex→St→Prop} (I:Nat→St→Prop) {n:Nat} {s:St} (h0:I n s)
 (h1:∀ n s,I n s→awp c b s fun e s'=>match e with | .normal=>∃ m,m<n∧I m s'|e=>Q e s') (hc:c.Mono):awp c (.loop b) s Q:=by
 refine ⟨n+1,?_⟩
 have key:∀ k n s,n<k→I n s→loopW (awp c b) k s Q:=by
  intro k
  induction k with
  | zero=>intro n s h;omega
  | succ k ih=>
   intro n s hn hi
   refine awp_mono hc b s _ _ ?_ (h1 n s hi)
   intro e s' he
   cases e with
   | normal=>
    obtain ⟨m,hm,hI⟩:=he
    exact ih m s' (by omega) hI
   | exit i=>exact he
   | ret=>exact he
 exact key (n+1) n s (by omega) h0
def rd (I:Nat→St→Prop) (n:Nat) (Q:Ex→St→Prop):Ex→St→Prop
 | .normal,s=>∃ m,m<n∧I m s
 | e,s=>Q e s
theorem loop_rd {c:CallW} {b:Code} {Q:Ex→St→Prop} (hc:c.Mono) (I:Nat→St→Prop) {n:Nat} {s:St} (h0:I n s) (h1:∀ n s,I n s→awp c b s (rd I n Q)):awp c (.loop b) s Q:=by
 refine loop_inv I h0 (fun n s hi=>?_) hc
 refine awp_mono hc b s _ _ ?_ (h1 n s hi)
 intro e s' he
 cases e <;> exact he
theorem rd_n {I:Nat→St→Prop} {n:Nat} {Q:Ex→St→Prop} {s:St}:rd I n Q .normal s = ∃ m,m<n∧I m s:=rfl
theorem rd_e {I:Nat→St→Prop} {n i:Nat} {Q:Ex→St→Prop} {s:St}:rd I n Q (.exit i) s=Q (.exit i) s:=rfl
theorem rd_r {I:Nat→St→Prop} {n:Nat} {Q:Ex→St→Prop} {s:St}:rd I n Q .ret s=Q .ret s:=rfl
@[congr] theorem rd_congr {I:Nat→St→Prop} {n:Nat} {Q:Ex→St→Prop} {e:Ex} {s s':St} {dy:Nat} (dd:dum=dy) (h:s=s'):rd I n Q e s=rd I n Q e s':=by rw [h]
def ct (I:St→Prop) (Q:Ex→St→Prop):Ex→St→Prop
 | .normal,s=>I s
 | e,s=>Q e s
theorem ct_n {I:St→Prop} {Q:Ex→St→Prop} {s:St}:ct I Q .normal s=I s:=rfl
theorem ct_e {I:St→Prop} {i:Nat} {Q:Ex→St→Prop} {s:St}:ct I Q (.exit i) s=Q (.exit i) s:=rfl
theorem ct_r {I:St→Prop} {Q:Ex→St→Prop} {s:St}:ct I Q .ret s=Q .ret s:=rfl
@[congr] theorem ct_congr {I:St→Prop} {Q:Ex→St→Prop} {e:Ex} {s s':St} {dy:Nat} (dd:dum=dy) (h:s=s'):ct I Q e s=ct I Q e s':=by rw [h]
theorem a_cut {c:CallW} {a b:Code} {s:St} {Q:Ex→St→Prop} (hc:c.Mono) (I:St→Prop) (h1:awp c a s (ct I Q)) (h2:∀ s,I s→awp c b s Q):awp c (.seq a b) s Q:=by
 rw [a_seq]
 refine awp_mono hc a s _ _ ?_ h1
 intro e s' he
 cases e with
 | normal=>exact h2 s' he
 | exit i=>exact he
 | ret=>exact he
end
section
theorem iaA_p {n sz id tok j off:Nat} {i:Int} (h:0≤i∧i<n):iaddrAV n sz (.v (.c (.ptr id tok j off))) i=some (.v (.c (.ptr id tok j (off+i.toNat * sz)))):=by
 simp [iaddrAV,h]
theorem iaA_l {n sz b off:Nat} {i:Int} (h:0≤i∧i<n):iaddrAV n sz (.lp b off) i=some (.lp b (off+i.toNat * sz)):=by
 simp [iaddrAV,h]
theorem u64_nonneg (n:Int):0≤IntKind.wrap .u64 n:=by
 simp [IntKind.wrap,IntKind.bits,IntKind.signed]
 omega
theorem u64_tmod (n m:Int) (h:0<m):0≤(IntKind.wrap .u64 n).tmod m∧(IntKind.wrap .u64 n).tmod m<m:=
 ⟨Int.tmod_nonneg _ (u64_nonneg n),Int.tmod_lt_of_pos _ h⟩
theorem take_snoc {α:Type} {L:List α} {i:Nat} {x:α} (h:L[i]? = some x):L.take (i+1)=L.take i++[x]:=by
 rw [List.take_add_one,h]
 rfl
theorem sl_push (h:Hp) (o:AO) (sz n:Nat) (rs:List (List CV)) (ho:o = .rows true sz 0 0 rs) (hn:n=rs.length) (c:Option Nat):SL (h.push o) sz (.sl h.n 0 0 n c) rs:=
 ⟨true,0,0,rs,by rw [g_push_eq,ho],Nat.le_refl _,by omega,by subst hn;simp⟩
def rowL (f:Nat→Int):List CV:=(List.range 16).map fun b=>.int .i64 (f b)
theorem rowL_len (f:Nat→Int):(rowL f).length=16:=by simp [rowL]
theorem set16 (g g':Nat→CV) {b:Nat} (hb:b<16) (he:∀ j,j<16→j≠b→g' j=g j):((List.range 16).map g).take (b * 1)++g' b::((List.range 16).map g).drop (b * 1+1)=(List.range 16).map g':=by
 rw [Nat.mul_one]
 apply List.ext_getElem?
 intro i
 rw [List.getElem?_map]
 by_cases h1:i<b
 ·rw [List.getElem?_append_left (by simp;omega),List.getElem?_take,if_pos h1,List.getElem?_map,List.getElem?_range (by omega)]
  simp [he i (by omega) (by omega)]
 ·rw [List.getElem?_append_right (by simp;omega),List.length_take,List.length_map,List.length_range,Nat.min_eq_left (by omega)]
  by_cases h2:i=b
  ·subst h2
   rw [Nat.sub_self,List.getElem?_cons_zero,List.getElem?_range (by omega)]
   rfl
  ·rw [show i-b=(i-b-1)+1 by omega,List.getElem?_cons_succ,List.getElem?_drop,show b+1+(i-b-1)=i by omega,List.getElem?_map]
   by_cases h3:i<16
   ·rw [List.getElem?_range h3]
    simp [he i h3 h2]
   ·rw [List.getElem?_eq_none (by simp;omega)]
    rfl
theorem rowL_at (x:CV) (f:Nat→Int) {b:Nat} (h:b<16):(x::rowL f)[1+b * 1]? = some (.int .i64 (f b)):=by
 rw [show 1+b * 1=b+1 by omega,List.getElem?_cons_succ]
 unfold rowL
 rw [List.getElem?_map,List.getElem?_range (by omega)]
 rfl
theorem rowL_set (x:CV) {f f':Nat→Int} {b:Nat} (hb:b<16) (he:∀ j,j<16→j≠b→f' j=f j):(x::rowL f).take (1+b * 1)++CV.int .i64 (f' b)::(rowL f).drop (1+b * 1)=x::rowL f':=by
 rw [show 1+b * 1=b * 1+1 by omega,List.take_succ_cons,List.cons_append]
 congr 1
 exact set16 (fun b=>.int .i64 (f b)) (fun b=>.int .i64 (f' b)) hb (fun j h1 h2=>by rw [he j h1 h2])
end
section
theorem KA:type_of% (And.intro @dum_eq (And.intro @a_seq (And.intro @a_skip (And.intro @a_ret (And.intro @a_exit (And.intro @a_region (And.intro @a_block (And.intro @a_cond (And.intro @a_draw (And.intro @a_kill (And.intro @reserve_zero (And.intro @sq_n (And.intro @sq_e (And.intro @sq_r (And.intro @bl_n (And.intro @bl_r (And.intro @bl_e (And.intro @r_cons (And.intro @r_nil (And.intro @d_nil (And.intro @d_cons (And.intro @d_consA (And.intro @d_consC (And.intro @ag_cons (And.intro @ag_nil (And.intro @ag_plain (And.intro @ag_guard (And.intro @s_guard (And.intro @s_call (And.intro @s_dyn (And.intro @s_inv (And.intro @gd_un (And.intro @gd_tt (And.intro @gd_tf (And.intro @gd_ft (And.intro @gd_ff (And.intro @cb_t (And.intro @cb_f (And.intro @rd_e (And.intro @rd_r (And.intro @ct_e (And.intro @ct_r (And.intro @fin_n (And.intro @fin_r (And.intro @resN_nil (And.intro @resN_one (And.intro @resN_two (And.intro @evA_nil (And.intro @evA_cons (And.intro @ofFn_fn (And.intro @argL_nil (And.intro @argL_cons (And.intro @okL_nil (And.intro @okL_cons (And.intro @restr_nil (And.intro @restr_cons (And.intro @pd_some (And.intro @pd_none (And.intro @s_mov (And.intro @s_pick (And.intro @s_box (And.intro @s_build (And.intro @s_bslice (And.intro @s_load (And.intro @s_store (And.intro @s_nilck (And.intro @s_bin (And.intro @s_un (And.intro @s_conv (And.intro @s_mkfn (And.intro @s_mkmap (And.intro @s_mkslice (And.intro @s_slice (And.intro @s_faddr (And.intro @s_field (And.intro @s_mkif (And.intro @s_isnil (And.intro @s_assert (And.intro @s_iaddr (And.intro @s_iaddrA (And.intro @s_index (And.intro @s_indexS (And.intro @s_look (And.intro @s_mupd (And.intro @s_ment (And.intro @s_mest (And.intro @s_mdel (And.intro @s_range (And.intro @s_ext (And.intro @s_entry (And.intro @s_app (And.intro @s_copy (And.intro @s_clear (And.intro @s_len (And.intro @s_cap (And.intro @s_min (And.intro @s_max (And.intro @ol_v (And.intro @ol_un (And.intro @ol_u (And.intro @ol_lp (And.intro @ol_lsl (And.intro @evN_t (And.intro @evN_c (And.intro @lk_nil (And.intro @lk_cons (And.intro @ob_some (And.intro @ob_none (And.intro @ob_bind (And.intro @ob_map (And.intro @ob_if (And.intro @ob_if' (@ob_if2))))))))))))))))))))))))))))))))))))))))))))))))))))))))))))))))))))))))))))))))))))))))))))))))))))))))))))))))):=And.intro @dum_eq (And.intro @a_seq (And.intro @a_skip (And.intro @a_ret (And.intro @a_exit (And.intro @a_region (And.intro @a_block (And.intro @a_cond (And.intro @a_draw (And.intro @a_kill (And.intro @reserve_zero (And.intro @sq_n (And.intro @sq_e (And.intro @sq_r (And.intro @bl_n (And.intro @bl_r (And.intro @bl_e (And.intro @r_cons (And.intro @r_nil (And.intro @d_nil (And.intro @d_cons (And.intro @d_consA (And.intro @d_consC (And.intro @ag_cons (And.intro @ag_nil (And.intro @ag_plain (And.intro @ag_guard (And.intro @s_guard (And.intro @s_call (And.intro @s_dyn (And.intro @s_inv (And.intro @gd_un (And.intro @gd_tt (And.intro @gd_tf (And.intro @gd_ft (And.intro @gd_ff (And.intro @cb_t (And.intro @cb_f (And.intro @rd_e (And.intro @rd_r (And.intro @ct_e (And.intro @ct_r (And.intro @fin_n (And.intro @fin_r (And.intro @resN_nil (And.intro @resN_one (And.intro @resN_two (And.intro @evA_nil (And.intro @evA_cons (And.intro @ofFn_fn (And.intro @argL_nil (And.intro @argL_cons (And.intro @okL_nil (And.intro @okL_cons (And.intro @restr_nil (And.intro @restr_cons (And.intro @pd_some (And.intro @pd_none (And.intro @s_mov (And.intro @s_pick (And.intro @s_box (And.intro @s_build (And.intro @s_bslice (And.intro @s_load (And.intro @s_store (And.intro @s_nilck (And.intro @s_bin (And.intro @s_un (And.intro @s_conv (And.intro @s_mkfn (And.intro @s_mkmap (And.intro @s_mkslice (And.intro @s_slice (And.intro @s_faddr (And.intro @s_field (And.intro @s_mkif (And.intro @s_isnil (And.intro @s_assert (And.intro @s_iaddr (And.intro @s_iaddrA (And.intro @s_index (And.intro @s_indexS (And.intro @s_look (And.intro @s_mupd (And.intro @s_ment (And.intro @s_mest (And.intro @s_mdel (And.intro @s_range (And.intro @s_ext (And.intro @s_entry (And.intro @s_app (And.intro @s_copy (And.intro @s_clear (And.intro @s_len (And.intro @s_cap (And.intro @s_min (And.intro @s_max (And.intro @ol_v (And.intro @ol_un (And.intro @ol_u (And.intro @ol_lp (And.intro @ol_lsl (And.intro @evN_t (And.intro @evN_c (And.intro @lk_nil (And.intro @lk_cons (And.intro @ob_some (And.intro @ob_none (And.intro @ob_bind (And.intro @ob_map (And.intro @ob_if (And.intro @ob_if' (@ob_if2))))))))))))))))))))))))))))))))))))))))))))))))))))))))))))))))))))))))))))))))))))))))))))))))))))))))))))))))
theorem KB:type_of% (And.intro @o_mov (And.intro @o_pick (And.intro @o_box_t (And.intro @o_box_f (And.intro @o_build (And.intro @o_bslice_t (And.intro @o_bslice_f (And.intro @o_load (And.intro @o_store (And.intro @o_nilck (And.intro @o_bin (And.intro @o_un (And.intro @o_conv (And.intro @o_mkfn (And.intro @o_mkmap (And.intro @o_mkslice (And.intro @o_slice (And.intro @o_faddr (And.intro @o_field (And.intro @o_mkif (And.intro @o_isnil (And.intro @o_assert (And.intro @o_iaddr (And.intro @o_iaddrA (And.intro @o_index (And.intro @o_indexS (And.intro @o_look (And.intro @o_mupd (And.intro @o_mdel (And.intro @o_range (And.intro @o_ext (And.intro @o_entry (And.intro @o_app (And.intro @o_copy (And.intro @o_clear (And.intro @o_len (And.intro @o_cap (And.intro @o_min (@o_max))))))))))))))))))))))))))))))))))))))):=And.intro @o_mov (And.intro @o_pick (And.intro @o_box_t (And.intro @o_box_f (And.intro @o_build (And.intro @o_bslice_t (And.intro @o_bslice_f (And.intro @o_load (And.intro @o_store (And.intro @o_nilck (And.intro @o_bin (And.intro @o_un (And.intro @o_conv (And.intro @o_mkfn (And.intro @o_mkmap (And.intro @o_mkslice (And.intro @o_slice (And.intro @o_faddr (And.intro @o_field (And.intro @o_mkif (And.intro @o_isnil (And.intro @o_assert (And.intro @o_iaddr (And.intro @o_iaddrA (And.intro @o_index (And.intro @o_indexS (And.intro @o_look (And.intro @o_mupd (And.intro @o_mdel (And.intro @o_range (And.intro @o_ext (And.intro @o_entry (And.intro @o_app (And.intro @o_copy (And.intro @o_clear (And.intro @o_len (And.intro @o_cap (And.intro @o_min (@o_max))))))))))))))))))))))))))))))))))))))
theorem KC:type_of% (And.intro @rowO_some (And.intro @row_o (And.intro @pick_t (And.intro @pick_f (And.intro @load_p (And.intro @load_l (And.intro @take_n (And.intro @take_s (And.intro @store_p (And.intro @storeO_some (And.intro @store_l (And.intro @nil_p (And.intro @nil_l (And.intro @nil_f (And.intro @fa_p (And.intro @fa_l (And.intro @bin_c (And.intro @bin_g (And.intro @eqCells_nil (And.intro @eqCells_cons (And.intro @eqCell_i (And.intro @eqCell_b (And.intro @eqCell_s (And.intro @isEq_e (And.intro @isEq_n (And.intro @optN_none (And.intro @optN_some (And.intro @evPN_nil (And.intro @evPN_cons (And.intro @evCN_nil (And.intro @evCN_cons (And.intro @fmin_cons (And.intro @fmax_cons (And.intro @foldC_nil (And.intro @foldC_cons (And.intro @minC_int (And.intro @maxC_int (And.intro @asV_c (And.intro @asV_a (And.intro @asC_c (And.intro @asI_i (And.intro @extV_tup (And.intro @fieldV_agg (And.intro @if_c (And.intro @if_a (And.intro @nv_n (And.intro @nv_i (And.intro @as_n (And.intro @as_i (And.intro @uni_t (And.intro @uni_f (And.intro @mv_i (And.intro @tb_n (And.intro @tb_c (And.intro @fill_nil (And.intro @fill_cons (And.intro @splice_def (And.intro @cells_c (And.intro @cells_agg (And.intro @n_put (And.intro @n_push (And.intro @n_reserve (And.intro @g_put_eq (@g_push_eq)))))))))))))))))))))))))))))))))))))))))))))))))))))))))))))))):=And.intro @rowO_some (And.intro @row_o (And.intro @pick_t (And.intro @pick_f (And.intro @load_p (And.intro @load_l (And.intro @take_n (And.intro @take_s (And.intro @store_p (And.intro @storeO_some (And.intro @store_l (And.intro @nil_p (And.intro @nil_l (And.intro @nil_f (And.intro @fa_p (And.intro @fa_l (And.intro @bin_c (And.intro @bin_g (And.intro @eqCells_nil (And.intro @eqCells_cons (And.intro @eqCell_i (And.intro @eqCell_b (And.intro @eqCell_s (And.intro @isEq_e (And.intro @isEq_n (And.intro @optN_none (And.intro @optN_some (And.intro @evPN_nil (And.intro @evPN_cons (And.intro @evCN_nil (And.intro @evCN_cons (And.intro @fmin_cons (And.intro @fmax_cons (And.intro @foldC_nil (And.intro @foldC_cons (And.intro @minC_int (And.intro @maxC_int (And.intro @asV_c (And.intro @asV_a (And.intro @asC_c (And.intro @asI_i (And.intro @extV_tup (And.intro @fieldV_agg (And.intro @if_c (And.intro @if_a (And.intro @nv_n (And.intro @nv_i (And.intro @as_n (And.intro @as_i (And.intro @uni_t (And.intro @uni_f (And.intro @mv_i (And.intro @tb_n (And.intro @tb_c (And.intro @fill_nil (And.intro @fill_cons (And.intro @splice_def (And.intro @cells_c (And.intro @cells_agg (And.intro @n_put (And.intro @n_push (And.intro @n_reserve (And.intro @g_put_eq (@g_push_eq)))))))))))))))))))))))))))))))))))))))))))))))))))))))))))))))
theorem KD:type_of% (And.intro @b_add (And.intro @b_sub (And.intro @b_mul (And.intro @b_quo (And.intro @b_rem (And.intro @b_and (And.intro @b_or (And.intro @b_xor (And.intro @b_eql (And.intro @b_neq (And.intro @b_lss (And.intro @b_leq (And.intro @b_gtr (And.intro @b_geq (And.intro @b_beq (And.intro @b_bne (And.intro @b_pn1 (And.intro @b_pn2 (And.intro @b_pn3 (And.intro @b_pn4 (And.intro @b_sn1 (And.intro @b_sn2 (And.intro @b_sn3 (And.intro @b_sn4 (And.intro @u_not (And.intro @u_neg (And.intro @c_int (@c_same)))))))))))))))))))))))))))):=And.intro @b_add (And.intro @b_sub (And.intro @b_mul (And.intro @b_quo (And.intro @b_rem (And.intro @b_and (And.intro @b_or (And.intro @b_xor (And.intro @b_eql (And.intro @b_neq (And.intro @b_lss (And.intro @b_leq (And.intro @b_gtr (And.intro @b_geq (And.intro @b_beq (And.intro @b_bne (And.intro @b_pn1 (And.intro @b_pn2 (And.intro @b_pn3 (And.intro @b_pn4 (And.intro @b_sn1 (And.intro @b_sn2 (And.intro @b_sn3 (And.intro @b_sn4 (And.intro @u_not (And.intro @u_neg (And.intro @c_int (@c_same)))))))))))))))))))))))))))
theorem KE:type_of% (And.intro @Nat.le_refl (And.intro @Nat.zero_le (And.intro @List.all_cons.{0} (And.intro @List.all_nil.{0} (And.intro @Bool.and_self (And.intro @Bool.true_and (And.intro @Bool.and_true (And.intro @List.length_cons.{0} (And.intro @List.length_nil.{0} (And.intro @List.map_cons.{0,0} (And.intro @List.map_nil.{0,0} (And.intro @List.take_zero.{0} (And.intro @List.take_nil.{0} (And.intro @List.take_succ_cons.{0} (And.intro @List.drop_zero.{0} (And.intro @List.drop_succ_cons.{0} (And.intro @List.append_nil.{0} (And.intro @List.nil_append.{0} (And.intro @List.cons_append.{0} (And.intro @List.append_assoc.{0} (And.intro @List.getElem?_cons_zero.{0} (And.intro @List.getElem?_cons_succ.{0} (And.intro @List.set_cons_zero.{0} (And.intro @List.set_cons_succ.{0} (And.intro @Option.map_some.{0,0} (And.intro @Option.map_none.{0,0} (And.intro @Option.bind_some.{0,0} (And.intro @Option.bind_none.{0,0} (And.intro @Option.some.injEq.{0} (And.intro @Nat.zero_add (And.intro @Nat.add_zero (And.intro @and_true (And.intro @true_and (And.intro @and_self (And.intro @and_false (And.intro @false_and (And.intro @decide_true (And.intro @decide_false (And.intro @Bool.not_true (And.intro @Bool.not_false (And.intro @not_true_eq_false (And.intro @not_false_eq_true (And.intro @Nat.succ_ne_self (And.intro @decide_eq_true_eq (And.intro @Bool.false_eq_true (And.intro @List.replicate_succ.{0} (And.intro @List.replicate_zero.{0} (And.intro @List.flatten_cons.{0} (@List.flatten_nil.{0}))))))))))))))))))))))))))))))))))))))))))))))))):=And.intro @Nat.le_refl (And.intro @Nat.zero_le (And.intro @List.all_cons.{0} (And.intro @List.all_nil.{0} (And.intro @Bool.and_self (And.intro @Bool.true_and (And.intro @Bool.and_true (And.intro @List.length_cons.{0} (And.intro @List.length_nil.{0} (And.intro @List.map_cons.{0,0} (And.intro @List.map_nil.{0,0} (And.intro @List.take_zero.{0} (And.intro @List.take_nil.{0} (And.intro @List.take_succ_cons.{0} (And.intro @List.drop_zero.{0} (And.intro @List.drop_succ_cons.{0} (And.intro @List.append_nil.{0} (And.intro @List.nil_append.{0} (And.intro @List.cons_append.{0} (And.intro @List.append_assoc.{0} (And.intro @List.getElem?_cons_zero.{0} (And.intro @List.getElem?_cons_succ.{0} (And.intro @List.set_cons_zero.{0} (And.intro @List.set_cons_succ.{0} (And.intro @Option.map_some.{0,0} (And.intro @Option.map_none.{0,0} (And.intro @Option.bind_some.{0,0} (And.intro @Option.bind_none.{0,0} (And.intro @Option.some.injEq.{0} (And.intro @Nat.zero_add (And.intro @Nat.add_zero (And.intro @and_true (And.intro @true_and (And.intro @and_self (And.intro @and_false (And.intro @false_and (And.intro @decide_true (And.intro @decide_false (And.intro @Bool.not_true (And.intro @Bool.not_false (And.intro @not_true_eq_false (And.intro @not_false_eq_true (And.intro @Nat.succ_ne_self (And.intro @decide_eq_true_eq (And.intro @Bool.false_eq_true (And.intro @List.replicate_succ.{0} (And.intro @List.replicate_zero.{0} (And.intro @List.flatten_cons.{0} (@List.flatten_nil.{0}))))))))))))))))))))))))))))))))))))))))))))))))
section
variable {c:CallW} {n:Nat} {l:List (Nat × TV)} {lc:List (List CV)} {h:Hp} {P:St→Prop}
theorem sd_bslice {b k m sz:Nat} {d:Option Nat} {zero:List CV} {ps:List (Nat × Nat × NX)}:stepD c b (some k) ⟨d,.bslice false sz m zero ps,none⟩ (ST n l lc h) P=(h.g (b+k)=some .dead∧ob ((evPN n l ps).bind fun q=>fillCells (List.replicate m zero).flatten q) fun cs=>P (ST n (pd d (.v (.c (.sl (b+k) 0 0 m (some m)))) l) lc (h.put (b+k) (.rows true sz 0 0 (chunks sz m cs))))):=by
 simp only [stepD,wanted,allocAt,ST,evP_mkT,g_def,ob]
 congr 1
 cases evPN n l ps with
 | none=>simp
 | some q=>
  simp only [Option.bind_some]
  cases fillCells (List.replicate m zero).flatten q with
  | none=>simp
  | some cs=>simp [after,putT_mkT]
theorem sd_box {b k sz:Nat} {d:Option Nat} {x:NX}:stepD c b (some k) ⟨d,.box false sz x,none⟩ (ST n l lc h) P=(h.g (b+k)=some .dead∧ob (asV (evN n l x)) fun a=>a.cells.length=sz∧P (ST n (pd d (.v (.c (.ptr (b+k) 0 0 0))) l) lc (h.put (b+k) (.rows true sz 0 0 [a.cells])))):=by
 simp only [stepD,wanted,allocAt,ST,ev_mkT,g_def,ob]
 congr 1
 cases asV (evN n l x) with
 | none=>simp
 | some a=>
  simp only [Option.bind_some]
  by_cases e:a.cells.length=sz
  ·simp [e,after,putT_mkT,ptrTo]
  ·simp [e]
theorem sd_mkmap {b k:Nat} {d:Option Nat}:stepD c b (some k) ⟨d,.mkmap,none⟩ (ST n l lc h) P=(h.g (b+k)=some .dead∧P (ST n (pd d (.v (.c (.map (b+k)))) l) lc (h.put (b+k) (.map true [] 0)))):=by
 simp [stepD,wanted,allocAt,ST,g_def,after,putT_mkT]
theorem dead_one (h:Hp):(h.reserve 1).g h.n=some .dead:=by rw [g_reserve,if_pos (by omega)]
theorem n_res (h:Hp) (k:Nat):(h.reserve k).n=h.n+k:=n_reserve h k
theorem Fm.reserve (S:Nat→Prop) (h:Hp) (k:Nat):Fm S h (h.reserve k):=⟨by rw [n_reserve];omega,fun j hj _=>by rw [g_reserve,if_neg (by omega)]⟩
theorem Fm.putNew {S:Nat→Prop} {h h':Hp} (k:Fm S h h') {i:Nat} (o:AO) (hi:h.n≤i):Fm S h (h'.put i o):=⟨by rw [n_put];exact k.n,fun j hj hS=>by rw [g_put_ne h' o (by omega)];exact k.g j hj hS⟩
theorem KF:type_of% (And.intro @sd_bslice (And.intro @sd_box (And.intro @sd_mkmap (And.intro @dead_one (And.intro @n_def (And.intro @chunks.eq_1 @chunks.eq_2)))))):=And.intro @sd_bslice (And.intro @sd_box (And.intro @sd_mkmap (And.intro @dead_one (And.intro @n_def (And.intro @chunks.eq_1 @chunks.eq_2)))))
end
end
section
def eqC:CV→CV→Bool
 | .bool a,.bool b=>a == b
 | .int k a,.int k' b=>k == k' && a == b
 | .str a,.str b=>a.data.toList == b.data.toList
 | .nilp,.nilp=>true
 | .ptr a b c d,.ptr a' b' c' d'=>a == a' && b == b' && c == c' && d == d'
 | .nils,.nils=>true
 | .sl a b c d e,.sl a' b' c' d' e'=>a == a' && b == b' && c == c' && d == d' && e == e'
 | .nilm,.nilm=>true
 | .map a,.map b=>a == b
 | .nilf,.nilf=>true
 | .fn a [],.fn b []=>a == b
 | .nili,.nili=>true
 | .it a,.it b=>a == b
 | _,_=>false
def eqCs:List CV→List CV→Bool
 | [],[]=>true
 | a::x,b::y=>eqC a b && eqCs x y
 | _,_=>false
def eqT:TV→TV→Bool
 | .v (.c a),.v (.c b)=>eqC a b
 | .v (.agg a),.v (.agg b)=>eqCs a b
 | .lp a b,.lp a' b'=>a == a' && b == b'
 | .lsl a b,.lsl a' b'=>a == a' && b == b'
 | .un,.un=>true
 | _,_=>false
theorem eqC_eq {a b:CV} (h:eqC a b=true):a=b:=by
 unfold eqC at h
 split at h <;> simp_all
 rename_i x y
 cases x;cases y
 rename_i x y
 cases x;cases y
 simp at h
 rw [h]
theorem eqCs_eq:∀ {a b:List CV},eqCs a b=true→a=b
 | [],[],_=>rfl
 | a::x,b::y,h=>by
  simp only [eqCs,Bool.and_eq_true] at h
  rw [eqC_eq h.1,eqCs_eq h.2]
 | [],_::_,h=>by simp [eqCs] at h
 | _::_,[],h=>by simp [eqCs] at h
theorem eqT_eq {a b:TV} (h:eqT a b=true):a=b:=by
 unfold eqT at h
 split at h
 ·rw [eqC_eq h]
 ·rw [eqCs_eq h]
 all_goals simp_all
def sureN (s:St) (x:TV):Bool:=
 match x with
 | .v (.c (.it id))=>match s.hp.obs[id]? with
  | some (.siter _ _)=>true
  | some (.miter none _ _ _)=>true
  | some (.miter (some m) since seen _)=>match s.hp.obs[m]? with
   | some (.map _ es _)=>decide ((candOf es since seen).length≤1)
   | _=>false
  | _=>false
 | _=>false
def exOp (call:CallF) (s:St) (op:NO):Option Res:=
 match op with
 | .call f args=>(evL s.tm args).bind fun l=>(call f l s.hp).map fun r=>⟨.v r.1,s.lc,r.2⟩
 | .dyn f args=>(evL s.tm args).bind fun l=>match f.ev s.tm with
  | .v (.c (.fn g caps))=>(call g (l++caps.map .c) s.hp).map fun r=>⟨.v r.1,s.lc,r.2⟩
  | _=>none
 | .inv tb x args=>(evL s.tm args).bind fun l=>match methodV tb (x.ev s.tm) with
  | some (g,v)=>(call g (v::l) s.hp).map fun r=>⟨.v r.1,s.lc,r.2⟩
  | none=>none
 | .next str x=>if sureN s (x.ev s.tm)=true then nop noCall (fun _=>0) s (.next str x) else none
 | op=>nop noCall (fun _=>0) s op
def exStep (call:CallF) (r:NR) (s:St):Option St:=
 match wanted s.tm r.guard with
 | some true=>(exOp call s r.op).map fun q=>after r s q
 | some false=>some { s with tm:=putT s.tm r.dst .un }
 | none=>none
def exRun (call:CallF):List NR→St→Option St
 | [],s=>some s
 | r::l,s=>(exStep call r s).bind fun s'=>exRun call l s'
def exStepD (call:CallF) (base:Nat) (al:Option Nat) (r:NR) (s:St):Option St:=
 match al with
 | none=>exStep call r s
 | some k=>match wanted s.tm r.guard with
  | some true=>match s.hp.obs[base+k]? with
   | some .dead=>(allocAt s (base+k) r.op).map fun q=>after r s q
   | _=>none
  | some false=>some { s with tm:=putT s.tm r.dst .un }
  | none=>none
def exAgain:List (Nat × NR)→St→Bool
 | [],_=>true
 | c::l,s=>(match c.2.dst with
  | some d=>match val c.2 s with
   | some v=>eqT v (gt s.tm d)
   | none=>false
  | none=>false) && exAgain l s
def exDraw (call:CallF) (base:Nat):List DI→St→Option St
 | [],s=>some s
 | d::l,s=>(exStepD call base d.al d.r s).bind fun s'=>if exAgain d.chk s'=true then exDraw call base l s' else none
def exLoop (f:St→Option (Ex × St)):Nat→St→Option (Ex × St)
 | 0,_=>none
 | n+1,s=>(f s).bind fun r=>match r.1 with
  | .normal=>exLoop f n r.2
  | _=>some r
def exCode (call:CallF) (L:Nat):Code→St→Option (Ex × St)
 | .skip,s=>some (.normal,s)
 | .kill live nlc,s=>if nlc≤s.lc.length∧(keepLive live s.tm).all (okLive nlc)=true then some (.normal,⟨keepLive live s.tm,s.lc.take nlc,s.hp⟩) else none
 | .region ops,s=>(exRun call ops s).map fun s'=>(.normal,s')
 | .draw nal ord,s=>(exDraw call s.hp.obs.length ord { s with hp:={ s.hp with obs:=s.hp.obs++List.replicate nal .dead } }).map fun s'=>(.normal,s')
 | .seq a b,s=>(exCode call L a s).bind fun r=>match r.1 with
  | .normal=>exCode call L b r.2
  | _=>some r
 | .cond c a b,s=>match c.ev s.tm with
  | .v (.c (.bool true))=>exCode call L a s
  | .v (.c (.bool false))=>exCode call L b s
  | _=>none
 | .block id b,s=>(exCode call L b s).map fun r=>match r.1 with
  | .exit i=>if i=id then (.normal,r.2) else r
  | _=>r
 | .loop b,s=>exLoop (fun s=>exCode call L b s) L s
 | .exit id,s=>some (.exit id,s)
 | .ret,s=>some (.ret,s)
 | .prim F n,s=>match s.tm[n]? with
  | some .u=>(evL s.tm ((List.range n).map .t)).bind fun l=>(F l).map fun r=>(.ret,⟨s.tm.set n (.v r),s.lc,s.hp⟩)
  | _=>none
 | .fin b ops,s=>(exCode call L b s).bind fun r=>match r.1 with
  | .exit _=>none
  | _=>(exRun call ops r.2).map fun s'=>(.ret,s')
def exCall (N:Nat→Option NF) (L:Nat):Nat→CallF
 | 0=>fun _ _ _=>none
 | k+1=>fun f args hp=>match N f with
  | none=>none
  | some nf=>if args.length≤nf.ntmps then
   (exCode (exCall N L k) L nf.body ⟨args.map .v++List.replicate (nf.ntmps-args.length) .u,[],hp⟩).bind fun r=>match r.1 with
    | .exit _=>none
    | _=>(results? r.2.tm nf.results).map fun v=>(v,r.2.hp)
   else none
def Sound (ce:CallF) (cw:CallW):Prop:=∀ f args hp r hp',ce f args hp=some (r,hp')→∀ post:AV→Hp→Prop,post r hp'→cw f args hp post
section
variable {ce:CallF} {cw:CallW}
theorem exOp_ok (hc:Sound ce cw) {s:St} {op:NO} {q:Res} (h:exOp ce s op=some q) {post:Res→Prop} (hq:post q):nopW cw s op post:=by
 cases op with
 | call f args=>
  simp only [exOp,Option.bind_eq_some_iff,Option.map_eq_some_iff] at h
  obtain ⟨l,h1,⟨r,hp'⟩,h2,rfl⟩:=h
  exact ⟨l,h1,hc _ _ _ _ _ h2 _ hq⟩
 | dyn f args=>
  simp only [exOp,Option.bind_eq_some_iff] at h
  obtain ⟨l,h1,h2⟩:=h
  split at h2
  ·rename_i g caps hf
   simp only [Option.map_eq_some_iff] at h2
   obtain ⟨⟨r,hp'⟩,h2,rfl⟩:=h2
   exact ⟨l,g,caps,h1,hf,hc _ _ _ _ _ h2 _ hq⟩
  ·cases h2
 | inv tb f args=>
  simp only [exOp,Option.bind_eq_some_iff] at h
  obtain ⟨l,h1,h2⟩:=h
  split at h2
  ·rename_i g caps hf
   simp only [Option.map_eq_some_iff] at h2
   obtain ⟨⟨r,hp'⟩,h2,rfl⟩:=h2
   exact ⟨l,g,caps,h1,hf,hc _ _ _ _ _ h2 _ hq⟩
  ·cases h2
 | next str x=>
  simp only [exOp] at h
  split at h
  ·rename_i hs
   intro o
   refine ⟨q,?_,hq⟩
   rw [←h]
   simp only [nop]
   generalize x.ev s.tm=v at hs
   unfold sureN at hs
   split at hs
   ·rename_i id
    unfold nextV
    split at hs
    ·rename_i hob;simp only [hob];cases str <;> rfl
    ·rename_i hob;simp only [hob];cases str <;> rfl
    ·rename_i m since seen last hob
     split at hs
     ·rename_i wr es clock hm
      have hs:=of_decide_eq_true hs
      simp only [hob]
      cases str with
      | true=>rfl
      | false=>
       simp only [nextM,hm]
       simp only [if_pos hs]
     ·cases hs
    ·cases hs
   ·cases hs
  ·cases h
 | _=>exact ⟨q,h,hq⟩
theorem exStep_ok (hc:Sound ce cw) {r:NR} {s s':St} (h:exStep ce r s=some s') {post:St→Prop} (hq:post s'):stepW cw r s post:=by
 unfold exStep at h
 unfold stepW
 split at h
 ·rename_i hw
  rw [hw]
  simp only [Option.map_eq_some_iff] at h
  obtain ⟨q,h1,rfl⟩:=h
  exact exOp_ok hc h1 hq
 ·rename_i hw
  rw [hw]
  injection h with h
  subst h
  exact hq
 ·cases h
theorem exRun_ok (hc:Sound ce cw):∀ {l:List NR} {s s':St},exRun ce l s=some s'→∀ {post:St→Prop},post s'→runW cw l s post
 | [],s,s',h,post,hq=>by simp only [exRun,Option.some.injEq] at h;subst h;exact hq
 | r::l,s,s',h,post,hq=>by
  simp only [exRun,Option.bind_eq_some_iff] at h
  obtain ⟨s1,h1,h2⟩:=h
  exact exStep_ok hc h1 (exRun_ok hc h2 hq)
theorem exStepD_ok (hc:Sound ce cw) {base:Nat} {al:Option Nat} {r:NR} {s s':St} (h:exStepD ce base al r s=some s') {post:St→Prop} (hq:post s'):stepD cw base al r s post:=by
 cases al with
 | none=>exact exStep_ok hc h hq
 | some k=>
  simp only [exStepD] at h
  simp only [stepD]
  split at h
  ·rename_i hw
   rw [hw]
   split at h
   ·rename_i hob
    simp only [Option.map_eq_some_iff] at h
    obtain ⟨q,h1,rfl⟩:=h
    exact ⟨hob,q,h1,hq⟩
   ·cases h
  ·rename_i hw
   rw [hw]
   injection h with h
   subst h
   exact hq
  ·cases h
theorem exAgain_ok:∀ {l:List (Nat × NR)} {s:St},exAgain l s=true→againL l s
 | [],_,_=>trivial
 | c::l,s,h=>by
  simp only [exAgain,Bool.and_eq_true] at h
  refine ⟨?_,exAgain_ok h.2⟩
  have h:=h.1
  split at h
  ·rename_i d hd
   split at h
   ·rename_i v hv
    exact ⟨d,hd,by rw [hv,eqT_eq h]⟩
   ·cases h
  ·cases h
theorem exDraw_ok (hc:Sound ce cw) {base:Nat}:∀ {l:List DI} {s s':St},exDraw ce base l s=some s'→∀ {post:St→Prop},post s'→drawW cw base l s post
 | [],s,s',h,post,hq=>by simp only [exDraw,Option.some.injEq] at h;subst h;exact hq
 | d::l,s,s',h,post,hq=>by
  simp only [exDraw,Option.bind_eq_some_iff] at h
  obtain ⟨s1,h1,h2⟩:=h
  split at h2
  ·rename_i ha
   exact exStepD_ok hc h1 ⟨exAgain_ok ha,exDraw_ok hc h2 hq⟩
  ·cases h2
theorem exLoop_ok {f:St→Option (Ex × St)} {g:St→(Ex→St→Prop)→Prop} (hf:∀ s e s',f s=some (e,s')→∀ Q:Ex→St→Prop,Q e s'→g s Q):∀ (n:Nat) (s:St) (e:Ex) (s':St),exLoop f n s=some (e,s')→∀ Q:Ex→St→Prop,Q e s'→loopW g n s Q
 | 0,s,e,s',h,Q,hq=>by simp [exLoop] at h
 | n+1,s,e,s',h,Q,hq=>by
  simp only [exLoop,Option.bind_eq_some_iff] at h
  obtain ⟨⟨e1,s1⟩,h1,h2⟩:=h
  refine hf _ _ _ h1 _ ?_
  cases e1 with
  | normal=>exact exLoop_ok hf n s1 e s' h2 Q hq
  | exit i=>simp only [Option.some.injEq,Prod.mk.injEq] at h2;obtain ⟨rfl,rfl⟩:=h2;exact hq
  | ret=>simp only [Option.some.injEq,Prod.mk.injEq] at h2;obtain ⟨rfl,rfl⟩:=h2;exact hq
theorem exCode_ok (hc:Sound ce cw) {L:Nat}:∀ (c:Code) (s:St) (e:Ex) (s':St),exCode ce L c s=some (e,s')→∀ Q:Ex→St→Prop,Q e s'→awp cw c s Q:=by
 intro c
 induction c with
 | skip=>intro s e s' h Q hq;simp only [exCode,Option.some.injEq,Prod.mk.injEq] at h;obtain ⟨rfl,rfl⟩:=h;exact hq
 | kill live nlc=>
  intro s e s' h Q hq
  simp only [exCode] at h
  split at h
  ·rename_i hk
   simp only [Option.some.injEq,Prod.mk.injEq] at h
   obtain ⟨rfl,rfl⟩:=h
   exact ⟨hk.1,hk.2,hq⟩
  ·cases h
 | region ops=>
  intro s e s' h Q hq
  simp only [exCode,Option.map_eq_some_iff,Prod.mk.injEq] at h
  obtain ⟨s1,h1,rfl,rfl⟩:=h
  exact exRun_ok hc h1 hq
 | draw nal ord=>
  intro s e s' h Q hq
  simp only [exCode,Option.map_eq_some_iff,Prod.mk.injEq] at h
  obtain ⟨s1,h1,rfl,rfl⟩:=h
  exact exDraw_ok hc h1 hq
 | seq a b iha ihb=>
  intro s e s' h Q hq
  simp only [exCode,Option.bind_eq_some_iff] at h
  obtain ⟨⟨e1,s1⟩,h1,h2⟩:=h
  refine iha _ _ _ h1 _ ?_
  cases e1 with
  | normal=>exact ihb _ _ _ h2 _ hq
  | exit i=>simp only [Option.some.injEq,Prod.mk.injEq] at h2;obtain ⟨rfl,rfl⟩:=h2;exact hq
  | ret=>simp only [Option.some.injEq,Prod.mk.injEq] at h2;obtain ⟨rfl,rfl⟩:=h2;exact hq
 | cond c a b iha ihb=>
  intro s e s' h Q hq
  simp only [exCode] at h
  simp only [awp]
  split at h
  ·rename_i hw;rw [hw];exact iha _ _ _ h _ hq
  ·rename_i hw;rw [hw];exact ihb _ _ _ h _ hq
  ·cases h
 | block id b ih=>
  intro s e s' h Q hq
  simp only [exCode,Option.map_eq_some_iff] at h
  obtain ⟨⟨e1,s1⟩,h1,h2⟩:=h
  refine ih _ _ _ h1 _ ?_
  cases e1 with
  | normal=>simp only [Prod.mk.injEq] at h2;obtain ⟨rfl,rfl⟩:=h2;exact hq
  | exit i=>
   simp only at h2 ⊢
   split at h2
   ·rename_i hi
    rw [if_pos hi]
    simp only [Prod.mk.injEq] at h2;obtain ⟨rfl,rfl⟩:=h2;exact hq
   ·rename_i hi
    rw [if_neg hi]
    simp only [Prod.mk.injEq] at h2;obtain ⟨rfl,rfl⟩:=h2;exact hq
  | ret=>simp only [Prod.mk.injEq] at h2;obtain ⟨rfl,rfl⟩:=h2;exact hq
 | loop b ih=>
  intro s e s' h Q hq
  exact ⟨L,exLoop_ok ih L s e s' h Q hq⟩
 | exit id=>intro s e s' h Q hq;simp only [exCode,Option.some.injEq,Prod.mk.injEq] at h;obtain ⟨rfl,rfl⟩:=h;exact hq
 | ret=>intro s e s' h Q hq;simp only [exCode,Option.some.injEq,Prod.mk.injEq] at h;obtain ⟨rfl,rfl⟩:=h;exact hq
 | prim F n=>
  intro s e s' h Q hq
  simp only [exCode] at h
  split at h
  ·rename_i hu
   simp only [Option.bind_eq_some_iff,Option.map_eq_some_iff,Prod.mk.injEq] at h
   obtain ⟨l,h1,r,h2,rfl,rfl⟩:=h
   exact ⟨l,r,hu,h1,h2,hq⟩
  ·cases h
 | fin b ops ih=>
  intro s e s' h Q hq
  simp only [exCode,Option.bind_eq_some_iff] at h
  obtain ⟨⟨e1,s1⟩,h1,h2⟩:=h
  refine ih _ _ _ h1 _ ?_
  cases e1 with
  | normal=>simp only [Option.map_eq_some_iff,Prod.mk.injEq] at h2;obtain ⟨s2,h3,rfl,rfl⟩:=h2;exact ⟨.inl rfl,exRun_ok hc h3 hq⟩
  | exit i=>cases h2
  | ret=>simp only [Option.map_eq_some_iff,Prod.mk.injEq] at h2;obtain ⟨s2,h3,rfl,rfl⟩:=h2;exact ⟨.inr rfl,exRun_ok hc h3 hq⟩
end
theorem exCall_ok (N:Nat→Option NF) (L:Nat):∀ k,Sound (exCall N L k) (callW N k)
 | 0,f,args,hp,r,hp',h=>by simp [exCall] at h
 | k+1,f,args,hp,r,hp',h=>by
  intro post hq
  simp only [exCall] at h
  split at h
  ·cases h
  ·rename_i nf hN
   split at h
   ·rename_i hl
    simp only [Option.bind_eq_some_iff] at h
    obtain ⟨⟨e,s⟩,h1,h2⟩:=h
    refine ⟨nf,hN,hl,exCode_ok (exCall_ok N L k) _ _ _ _ h1 _ ?_⟩
    cases e with
    | normal=>simp only [Option.map_eq_some_iff,Prod.mk.injEq] at h2;obtain ⟨v,h3,rfl,rfl⟩:=h2;exact ⟨.inl rfl,_,h3,hq⟩
    | exit i=>cases h2
    | ret=>simp only [Option.map_eq_some_iff,Prod.mk.injEq] at h2;obtain ⟨v,h3,rfl,rfl⟩:=h2;exact ⟨.inr rfl,_,h3,hq⟩
   ·cases h
end
section
def trueF:List AV→Option AV
 | []=>some (.c (.bool true))
 | _=>none
def awakeN:NF:=⟨1,[0],.prim trueF 0⟩
def isTrue (x:Option (AV × Hp)):Bool:=
 match x with
 | some (.c (.bool b),_)=>b
 | _=>false
theorem closed_prim {P : Program} {rn : FuncId → Nat} {N0 : Nat → Option NF} (hN : HProg P rn (DJ P rn) N0) (hmix : P.follows .mixedOrders = true) {L k : Nat} {g : FuncId} {fn : Func} (h1 : (fn.name == "runtime.NumGoroutine") = false) (h2 : fn.body.isSome = true)
 (hev:isTrue (exCall N0 L k (rn g) [] ⟨[],0⟩)=true):PrimFn P g fn awakeN:=by
 refine ⟨h1,h2,trueF,0,rfl,?_⟩
 intro E G l r vs w hF hr
 cases l with
 | cons _ _=>cases hF
 | nil=>
  injection hF with hF
  subst hF
  simp only [RAL] at hr
  subst hr
  have hcall:callW N0 k (rn g) [] ⟨[],0⟩ fun r _=>r = .c (.bool true):=by
   unfold isTrue at hev
   split at hev
   ·rename_i b hp hx
    subst hev
    exact exCall_ok N0 L k _ _ _ _ _ hx _ rfl
   ·cases hev
  have hc:=calls_ok (E:=⟨rn,fun t=>t⟩) N0 hN (fun k hk=>draws_ok (B:=w.heap.size) hmix (callW_mono N0 k) (callW_real N0 k) (callW_framed N0 k) hk) k
  have hrd:=rd_empty (E:=⟨rn,fun t=>t⟩) (W:=w)
  obtain ⟨_,hcalls⟩:=hc g [] ⟨[],0⟩ _ ⟨fun _ _=>none,fun _=>none⟩ w [] hcall (by simp [RAL]) hrd.rh hrd.top
  refine Calls.mono hcalls ?_
  rintro e w' ⟨v,r,hp',G',rfl,rfl,hret⟩
  have hv:v = .bool true:=by simpa [RA,RC] using hret.val
  subst hv
  refine ⟨_,rfl,by simp [RA,RC],hret.fr.mono ?_⟩
  rintro b ⟨⟨id,o,wr,h1,_⟩,_⟩
  simp [Hp.f] at h1
def withF (N0:Nat→Option NF) (t:Nat) (nf:NF):Nat→Option NF:=fun i=>if i=t then some nf else N0 i
theorem hprog_with {P:Program} {tbl:List Nat} {N0:Nat→Option NF} (h:HProg P (rnOf tbl) (DJ P (rnOf tbl)) N0) {g t:Nat} {fn:Func} {nf:NF} (hf:P.funcs[g]? = some fn) (hp:PrimFn P g fn nf)
 (hu:((List.range tbl.length).all fun i=>tbl[i]? != some t || i == g)=true) (hbig:t≠1000000):HProg P (rnOf tbl) (DJ P (rnOf tbl)) (withF N0 t nf):=by
 intro g' nf' hn
 unfold withF at hn
 split at hn
 ·rename_i ht
  injection hn with hn
  subst hn
  unfold rnOf at ht
  cases hx:tbl[g']? with
  | none=>rw [hx] at ht;exact absurd ht.symm hbig
  | some t'=>
   rw [hx] at ht
   simp only [Option.getD_some] at ht
   subst ht
   have hlt:g'<tbl.length:=by
    rcases Nat.lt_or_ge g' tbl.length with h'|h'
    ·exact h'
    ·rw [List.getElem?_eq_none h'] at hx;cases hx
   have:=List.all_eq_true.mp hu g' (List.mem_range.mpr hlt)
   rw [hx] at this
   simp at this
   subst this
   exact ⟨fn,hf,.inr (.inl hp)⟩
 ·exact h g' nf' hn
end
end Camp
