/- The law of who loses the time, as the seat states it: for every input it returns true, and its arguments read as they did. No condition. -/
import Derived.Test.YtjcbeikfobfjmaaGreatLawG
import Derived.Test.YtjcbeikfobfjmaaGreatSeat
import Derived.Test.YtjcbeikfobfjmaaGreatRows
import Derived.OpenShut
import Derived.JoinedCond
import Derived.JoinedOf
set_option linter.unnecessarySimpa false
set_option linter.unusedVariables false
set_option linter.unusedSimpArgs false
set_option linter.unusedSectionVars false
namespace Go.Proofs.YtjcbeikfobfjmaaGreat.NodeLoses
open Go.ChangeShapes Go.WideShapes Go.ChangeAt Go.RowKit Camp
theorem own:ownKnob Tryz.prog.godebug=none:=by kernel_rfl
def sh:List (Bool × List Sc):=[(false,[.int .i64]),(false,[.int .i64]),(false,[.int .i64]),(false,[.sl [.bool]])]
theorem shape:paramsOf Tryz.prog Tryz.f5.params.toList=some sh:=by kernel_rfl
theorem law {args:List AV} {hp:Hp} {b:Nat} (h:ArgsWT hp sh args b):callW N 14 (Camp.S.rn 5) args hp fun r _=>r = .c (.bool true):=by
 unfold sh at h
 match args,h with
 | .c x1::.c x2::.c x3::.c x4::rest,h=>
  simp only [ArgsWT] at h
  obtain ⟨_,_,h1,⟨_,_,h2,⟨_,_,h3,⟨_,_,h4,h5,rfl⟩,rfl⟩,rfl⟩,rfl⟩:=h
  cases rest with
  | cons _ _=>exact h5.elim
  | nil=>
   obtain ⟨C,hC⟩:=wt_bo h4
   cases h1 with
   | int _ _=>cases h2 with
    | int _ _=>cases h3 with
     | int _ _=>exact nodeLoses_ok (k:=0) hC (fun _=>rfl)
set_option maxRecDepth 100000 in
theorem contract (H:Type) (enc:TypeId × Value→H) (W:World) (base:Nat) (args:Array Value) (ds gs:List (DataW H)) (before:List MemPlace)
 (hval:∀ (j:Nat) t v,Tryz.f5.params[j]? = some t→args[j]? = some v→Value.okWide Tryz.prog W .any base t v)
 (hW:DataW.Whole enc Tryz.prog Tryz.f5.params.toList Rows.nodeLosesSpec.vars false W args.toList ds gs before) :
 Calls Tryz.prog 5 args W fun e W'=>∃ v,e = .returned v∧Rows.nodeLosesSpec.post enc Tryz.prog Tryz.f5 false true false false W args v W':=
 law_calls (E:=⟨Camp.S.rn,fun t=>t⟩) Camp.S.hprog Camp.S.mixed shape (k:=14) (bound:=bulkA (ds++gs)) (tb:=4) (by kernel_rfl) (by kernel_rfl) (by kernel_rfl) (by kernel_rfl) (fun args hp b h _=>law h) rfl
  (by intro ds h;match ds,h with | [d1,d2,d3,d4],_=>rfl) hval hW (Nat.le_refl _)
set_option maxRecDepth 100000 in
theorem lifted (os:Os) (started:os.Started) (H:Type) (enc:TypeId × Value→H) :
 ReturnsInHanded {} Tryz.checked os 5 .any (Rows.nodeLosesSpec.pre6 enc Tryz.prog Tryz.f5 Rows.nodeLosesRow.domain false) (Rows.nodeLosesSpec.post enc Tryz.prog Tryz.f5 false true false false):=by
 refine returnsInHanded_of_change (C:=Tryz.checked) own started (by kernel_rfl) Tryz.func5
  (ChangeSpec.witness6 (enc:=enc) (C:=Tryz.checked) false ⟨#[],#[.int .i64 0,.int .i64 0,.int .i64 0,.slice none 0 0],[]⟩ 8 (by kernel_rfl) (by kernel_rfl) (by kernel_rfl) (by kernel_rfl)) ?_
 intro W base args ds gs before hval hW _ _
 exact contract H enc W base args ds gs before hval hW
theorem proved:Rows.NodeLosesSaid:=
 OpenClaim.holds_of_wide 5 Tryz.f5 rfl rfl rfl rfl rfl rfl rfl ⟨rfl,rfl,rfl,rfl,rfl⟩ rfl rfl rfl rfl rfl (by kernel_rfl) Tryz.func5 (by kernel_rfl)
  (of_decide_eq_true (by kernel_rfl)) (by unfold Func.isWrapper;first|(rw [if_pos (by decide +kernel)];kernel_rfl)|(rw [if_neg (by decide +kernel)];exact ⟨rfl,rfl⟩))
  (fun os started H enc _=>lifted os started H enc)
end Go.Proofs.YtjcbeikfobfjmaaGreat.NodeLoses
