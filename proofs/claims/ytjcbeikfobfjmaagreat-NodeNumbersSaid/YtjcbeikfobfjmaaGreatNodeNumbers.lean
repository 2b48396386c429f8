/- The law of the numbers, as the seat states it: for every input it returns true, and its arguments read as they did. No condition. -/
import Derived.Test.YtjcbeikfobfjmaaGreatLawG
import Derived.Test.YtjcbeikfobfjmaaGreatSeat
import Derived.Test.YtjcbeikfobfjmaaGreatRows
import Derived.OpenShut
import Derived.JoinedCond
import Derived.JoinedOf
set_option linter.unnecessarySimpa false
set_option linter.unusedVariables false
set_option linter.unusedSimpArgs false
set_option linter.unusedSectionVars false
namespace Go.Proofs.YtjcbeikfobfjmaaGreat.NodeNumbers
open Go.ChangeShapes Go.WideShapes Go.ChangeAt Go.RowKit Camp
theorem own:ownKnob Tryz.prog.godebug=none:=by kernel_rfl
def sh:List (Bool × List Sc):=[(false,[.int .i64]),(false,[.sl [.int .i64,.int .i64,.int .i64,.int .i64,.int .i64,.int .i64,.int .i64,.int .i64,.sl [.int .i64,.int .i64,.int .i64,.int .i64,.sl [.int .i64]],.sl [.int .u8],.int .i64,.int .i64,.int .i64,.int .i64,.sl [.int .i64],.sl [.int .u8],.sl [.int .u8]]])]
theorem shape:paramsOf Tryz.prog Tryz.f3.params.toList=some sh:=by kernel_rfl
theorem law {args:List AV} {hp:Hp} {b:Nat} (h:ArgsWT hp sh args b):callW N 14 (Camp.S.rn 3) args hp fun r _=>r = .c (.bool true):=by
 unfold sh at h
 match args,h with
 | .c x1::.c x2::rest,h=>
  simp only [ArgsWT] at h
  obtain ⟨_,_,h1,⟨_,_,h2,h5,rfl⟩,rfl⟩:=h
  cases rest with
  | cons _ _=>exact h5.elim
  | nil=>
   obtain ⟨C,hC⟩:=wt_cr h2
   cases h1 with
   | int _ _=>exact nodeNumbers_ok (k:=0) hC (fun _=>rfl)
set_option maxRecDepth 100000 in
theorem contract (H:Type) (enc:TypeId × Value→H) (W:World) (base:Nat) (args:Array Value) (ds gs:List (DataW H)) (before:List MemPlace)
 (hval:∀ (j:Nat) t v,Tryz.f3.params[j]? = some t→args[j]? = some v→Value.okWide Tryz.prog W .any base t v)
 (hW:DataW.Whole enc Tryz.prog Tryz.f3.params.toList Rows.nodeNumbersSpec.vars false W args.toList ds gs before) :
 Calls Tryz.prog 3 args W fun e W'=>∃ v,e = .returned v∧Rows.nodeNumbersSpec.post enc Tryz.prog Tryz.f3 false true false false W args v W':=
 law_calls (E:=⟨Camp.S.rn,fun t=>t⟩) Camp.S.hprog Camp.S.mixed shape (k:=14) (bound:=bulkA (ds++gs)) (tb:=4) (by kernel_rfl) (by kernel_rfl) (by kernel_rfl) (by kernel_rfl) (fun args hp b h _=>law h) rfl
  (by intro ds h;match ds,h with | [d1,d2],_=>rfl) hval hW (Nat.le_refl _)
set_option maxRecDepth 100000 in
theorem lifted (os:Os) (started:os.Started) (H:Type) (enc:TypeId × Value→H) :
 ReturnsInHanded {} Tryz.checked os 3 .any (Rows.nodeNumbersSpec.pre6 enc Tryz.prog Tryz.f3 Rows.nodeNumbersRow.domain false) (Rows.nodeNumbersSpec.post enc Tryz.prog Tryz.f3 false true false false):=by
 refine returnsInHanded_of_change (C:=Tryz.checked) own started (by kernel_rfl) Tryz.func3
  (ChangeSpec.witness6 (enc:=enc) (C:=Tryz.checked) false ⟨#[],#[.int .i64 0,.slice none 0 0],[]⟩ 8 (by kernel_rfl) (by kernel_rfl) (by kernel_rfl) (by kernel_rfl)) ?_
 intro W base args ds gs before hval hW _ _
 exact contract H enc W base args ds gs before hval hW
theorem proved:Rows.NodeNumbersSaid:=
 OpenClaim.holds_of_wide 3 Tryz.f3 rfl rfl rfl rfl rfl rfl rfl ⟨rfl,rfl,rfl,rfl,rfl⟩ rfl rfl rfl rfl rfl (by kernel_rfl) Tryz.func3 (by kernel_rfl)
  (of_decide_eq_true (by kernel_rfl)) (by unfold Func.isWrapper;first|(rw [if_pos (by decide +kernel)];kernel_rfl)|(rw [if_neg (by decide +kernel)];exact ⟨rfl,rfl⟩))
  (fun os started H enc _=>lifted os started H enc)
end Go.Proofs.YtjcbeikfobfjmaaGreat.NodeNumbers
