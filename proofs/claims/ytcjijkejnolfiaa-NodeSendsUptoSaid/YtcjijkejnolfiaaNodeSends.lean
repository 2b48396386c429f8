/- The law of what the root sends, as the seat states it: where what it reads is of bulk at most 1048576 it returns true, and its arguments read as they did. No other condition. -/
import Derived.Test.YtcjijkejnolfiaaLawE
import Derived.Test.YtcjijkejnolfiaaSeat
import Derived.Test.YtcjijkejnolfiaaRows
import Derived.OpenShut
import Derived.JoinedCond
import Derived.JoinedOf
set_option linter.unnecessarySimpa false
set_option linter.unusedVariables false
set_option linter.unusedSimpArgs false
set_option linter.unusedSectionVars false
namespace Go.Proofs.Ytcjijkejnolfiaa.NodeSends
open Go.ChangeShapes Go.WideShapes Go.ChangeAt Go.RowKit Camp
theorem own:ownKnob Try.prog.godebug=none:=by kernel_rfl
def sh:List (Bool × List Sc):=[(false,[.int .i64]),(false,[.int .i64]),(false,[.sl [.int .i64,.int .i64,.int .i64,.int .i64,.int .i64,.int .i64,.int .i64,.int .i64,.sl [.int .i64,.int .i64,.int .i64,.int .i64,.sl [.int .i64]],.sl [.int .u8],.int .i64,.int .i64,.int .i64,.int .i64,.sl [.int .i64],.sl [.int .u8],.sl [.int .u8]]])]
theorem shape:paramsOf Try.prog Try.f3.params.toList=some sh:=by kernel_rfl
mutual
theorem ubD {H:Type}:∀ d:DataW H,Rows.uptoBulk d=bulkD d
 | .lit l=>by cases l <;> rfl
 | .nil=>rfl
 | .ptr d=>by simp only [Rows.uptoBulk,bulkD,ubD d]
 | .slice a b=>by simp only [Rows.uptoBulk,bulkD,ubA a,ubA b]
 | .agg a=>by simp only [Rows.uptoBulk,bulkD,ubA a]
 | .iface _ d=>by simp only [Rows.uptoBulk,bulkD,ubD d]
 | .map e=>by simp only [Rows.uptoBulk,bulkD,ubE e]
 | .held _=>rfl
theorem ubA {H:Type}:∀ l:List (DataW H),Rows.uptoBulkAll l=bulkA l
 | []=>rfl
 | d::r=>by simp only [Rows.uptoBulkAll,bulkA,ubD d,ubA r]
theorem ubE {H:Type}:∀ l:List (Lit × DataW H),Rows.uptoBulkEntries l=bulkE l
 | []=>rfl
 | x::r=>by simp only [Rows.uptoBulkEntries,bulkE,ubK x,ubE r]
theorem ubK {H:Type}:∀ x:Lit × DataW H,Rows.uptoBulkEntry x=bulkK x
 | (l,d)=>by cases l <;> simp only [Rows.uptoBulkEntry,bulkK,ubD d]
end
theorem law {args:List AV} {hp:Hp} {b:Nat} (h:ArgsWT hp sh args b) (hb:b≤1048576):callW N 13 (Camp.S.rn 3) args hp fun r _=>r = .c (.bool true):=by
 unfold sh at h
 match args,h with
 | .c x1::.c x2::.c x3::rest,h=>
  simp only [ArgsWT] at h
  obtain ⟨_,_,h1,⟨_,_,h2,⟨_,_,h3,h6,rfl⟩,rfl⟩,rfl⟩:=h
  cases rest with
  | cons _ _=>exact h6.elim
  | nil=>
   obtain ⟨C,hC,hG⟩:=wt_cr h3 (by omega)
   cases h1 with
   | int _ _=>cases h2 with
    | int _ _=>exact nodeSends_ok (k:=0) hC hG (fun _=>rfl)
set_option maxRecDepth 100000 in
theorem contract (H:Type) (enc:TypeId × Value→H) (W:World) (base:Nat) (args:Array Value) (ds gs:List (DataW H)) (before:List MemPlace)
 (hval:∀ (j:Nat) t v,Try.f3.params[j]? = some t→args[j]? = some v→Value.okWide Try.prog W .any base t v)
 (hW:DataW.Whole enc Try.prog Try.f3.params.toList Rows.nodeSendsSpec.vars false W args.toList ds gs before) (hb:bulkA (ds++gs)≤1048576) :
 Calls Try.prog 3 args W fun e W'=>∃ v,e = .returned v∧Rows.nodeSendsSpec.post enc Try.prog Try.f3 false true false false W args v W':=
 law_calls (E:=⟨Camp.S.rn,fun t=>t⟩) Camp.S.hprog Camp.S.mixed shape (k:=13) (bound:=1048576) (tb:=4) (by kernel_rfl) (by kernel_rfl) (by kernel_rfl) (by kernel_rfl) (fun args hp b h hb=>law h hb) rfl
  (by intro ds h;match ds,h with | [d1,d2,d3],_=>rfl) hval hW hb
set_option maxRecDepth 100000 in
theorem lifted (os:Os) (started:os.Started) (H:Type) (enc:TypeId × Value→H) (F:Stop.Interp) :
 ReturnsInHanded {} Try.checked os 3 .any ((Rows.OpenSpec.upto Rows.nodeSendsSpec).pre6 enc Try.prog Try.f3 Rows.nodeSendsUptoRow.domain false) (((Rows.OpenSpec.upto Rows.nodeSendsSpec).at F).post enc Try.prog Try.f3 false true false false):=by
 refine returnsInHanded_of_cond (C:=Try.checked) (s:=Rows.OpenSpec.upto Rows.nodeSendsSpec) (k:=Rows.uptoSmall) rfl own started (by kernel_rfl) Try.func3
  (OpenSpec.witness (enc:=enc) (C:=Try.checked) (s:=Rows.OpenSpec.upto Rows.nodeSendsSpec) (k:=Rows.uptoSmall) rfl false ⟨#[],#[.int .i64 0,.int .i64 0,.slice none 0 0],[]⟩ 8 (by kernel_rfl) (by kernel_rfl) (by kernel_rfl)
   (x:=([.lit (.int .i64 0),.lit (.int .i64 0),.nil],[],[])) (by kernel_rfl) rfl (by kernel_rfl)) ?_
 intro W base args ds gs before hval hW _ hk _
 exact contract H enc W base args ds gs before hval hW (by rw [←ubA];exact of_decide_eq_true hk)
theorem proved:Rows.NodeSendsUptoSaid:=
 OpenClaim.holds_of_cond 3 Try.f3 rfl rfl rfl rfl rfl rfl rfl ⟨rfl,rfl,rfl,rfl,rfl⟩ rfl rfl rfl rfl rfl (by kernel_rfl) Try.func3 (by kernel_rfl)
  (of_decide_eq_true (by kernel_rfl)) (by unfold Func.isWrapper;first|(rw [if_pos (by decide +kernel)];kernel_rfl)|(rw [if_neg (by decide +kernel)];exact ⟨rfl,rfl⟩))
  (fun os started H enc _ F=>lifted os started H enc F)
end Go.Proofs.Ytcjijkejnolfiaa.NodeSends
