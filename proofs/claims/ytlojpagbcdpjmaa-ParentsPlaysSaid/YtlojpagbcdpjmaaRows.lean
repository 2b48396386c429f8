/-
  No cell of these rows narrows 'for every input' (looked for: loops, veiled, ifaces, maps, wideKeys, modest, calm, conditions, laid).
  DERIVED. THE GIVEN ROWS OF THIS SEAT. 6 by the template 'for every input the law returns true; each argument reads behind the call as it read before'; 0 by the template 'total and deterministic' (their statements: YtlojpagbcdpjmaaTotals.lean).
  GIVEN WITH THE SEED: the statements are not yours to turn. If you find one false, say at which input.
  Laid BY PROGRAM, IN A SANDBOX (cutbox-rows.mjs): the forced cells as the released guide's own fill.sh prints them over the translation e3c05fc8023f1038… (all of the seat's roots in one cut). By AI agents, Wed Nov 11 2026. No macro, syntax, notation, axiom, sorry.
-/
import Derived.Test.YtlojpagbcdpjmaaChecked
import GoSem.Claim
import GoSem.ClaimJoined
import GoSem.ClaimMapViews
import Derived.JoinedTies
import Derived.KernelRfl
namespace Go.Proofs.Ytlojpagbcdpjmaa
/- THE CELL 'sum', in the pinned program and in every row, IS THE sha256 OF THE DUMP (.gsa) THAT YtlojpagbcdpjmaaProg.lean LOADS. Nothing in Lean hashes anything: it is a label: what it is worth is what the hold of that sum in a sandbox is worth. -/
noncomputable def Try.pinned : Pinned := { name := "ytlojpagbcdpjmaa", sum := "e3c05fc8023f103884b5d1897001144365694b42cc157e55b0b78616ffe8f4b5", checked := Try.checked }
namespace Rows
def none {H : Type} : Left H := { results := [], args := [] }

/-- 'campanilelaw14.ParentsPlays': WHATEVER THE INPUT: true; the input reads as it did. -/
def parentsPlaysSpec : ChangeSpec := { name := "parentsPlays", fn := fun _ => fun
  | [d1, d2, d3, d4] => { results := [.lit (.bool true)], args := [d1, d2, d3, d4] }
  | _ => none }
def parentsPlaysRow : OpenClaim := { program := "ytlojpagbcdpjmaa", sum := "e3c05fc8023f103884b5d1897001144365694b42cc157e55b0b78616ffe8f4b5", func := "campanile/campanilelaw14.ParentsPlays", spec := "parentsPlays", unfollowed := true, recurses := true, apart := false }
def ParentsPlaysSaid : Prop := parentsPlaysRow.holds Try.pinned (OpenSpec.ofChange parentsPlaysSpec)

/-- ITS FALSE NEIGHBOUR: 'it returns false'. Refute it at one input. -/
def parentsPlaysWrong : ChangeSpec := { name := "parentsPlays", fn := fun _ => fun
  | [d1, d2, d3, d4] => { results := [.lit (.bool false)], args := [d1, d2, d3, d4] }
  | _ => none }
def ParentsPlaysWrongFalsely : Prop := parentsPlaysRow.holds Try.pinned (OpenSpec.ofChange parentsPlaysWrong)

/-- 'campanilelaw14.ParentsNil': WHATEVER THE INPUT: true; the input reads as it did. -/
def parentsNilSpec : ChangeSpec := { name := "parentsNil", fn := fun _ => fun
  | [d] => { results := [.lit (.bool true)], args := [d] }
  | _ => none }
def parentsNilRow : OpenClaim := { program := "ytlojpagbcdpjmaa", sum := "e3c05fc8023f103884b5d1897001144365694b42cc157e55b0b78616ffe8f4b5", func := "campanile/campanilelaw14.ParentsNil", spec := "parentsNil", unfollowed := true, recurses := true, apart := false }
def ParentsNilSaid : Prop := parentsNilRow.holds Try.pinned (OpenSpec.ofChange parentsNilSpec)

/-- ITS FALSE NEIGHBOUR: 'it returns false'. Refute it at one input. -/
def parentsNilWrong : ChangeSpec := { name := "parentsNil", fn := fun _ => fun
  | [d] => { results := [.lit (.bool false)], args := [d] }
  | _ => none }
def ParentsNilWrongFalsely : Prop := parentsNilRow.holds Try.pinned (OpenSpec.ofChange parentsNilWrong)

/-- 'campanilelaw14.ParentsFall': WHATEVER THE INPUT: true; the input reads as it did. -/
def parentsFallSpec : ChangeSpec := { name := "parentsFall", fn := fun _ => fun
  | [d1, d2, d3] => { results := [.lit (.bool true)], args := [d1, d2, d3] }
  | _ => none }
def parentsFallRow : OpenClaim := { program := "ytlojpagbcdpjmaa", sum := "e3c05fc8023f103884b5d1897001144365694b42cc157e55b0b78616ffe8f4b5", func := "campanile/campanilelaw14.ParentsFall", spec := "parentsFall", unfollowed := true, recurses := true, apart := false }
def ParentsFallSaid : Prop := parentsFallRow.holds Try.pinned (OpenSpec.ofChange parentsFallSpec)

/-- ITS FALSE NEIGHBOUR: 'it returns false'. Refute it at one input. -/
def parentsFallWrong : ChangeSpec := { name := "parentsFall", fn := fun _ => fun
  | [d1, d2, d3] => { results := [.lit (.bool false)], args := [d1, d2, d3] }
  | _ => none }
def ParentsFallWrongFalsely : Prop := parentsFallRow.holds Try.pinned (OpenSpec.ofChange parentsFallWrong)

/-- 'campanilelaw14.ParentsOld': WHATEVER THE INPUT: true; the input reads as it did. -/
def parentsOldSpec : ChangeSpec := { name := "parentsOld", fn := fun _ => fun
  | [d1, d2, d3, d4] => { results := [.lit (.bool true)], args := [d1, d2, d3, d4] }
  | _ => none }
def parentsOldRow : OpenClaim := { program := "ytlojpagbcdpjmaa", sum := "e3c05fc8023f103884b5d1897001144365694b42cc157e55b0b78616ffe8f4b5", func := "campanile/campanilelaw14.ParentsOld", spec := "parentsOld", unfollowed := true, recurses := true, apart := false }
def ParentsOldSaid : Prop := parentsOldRow.holds Try.pinned (OpenSpec.ofChange parentsOldSpec)

/-- ITS FALSE NEIGHBOUR: 'it returns false'. Refute it at one input. -/
def parentsOldWrong : ChangeSpec := { name := "parentsOld", fn := fun _ => fun
  | [d1, d2, d3, d4] => { results := [.lit (.bool false)], args := [d1, d2, d3, d4] }
  | _ => none }
def ParentsOldWrongFalsely : Prop := parentsOldRow.holds Try.pinned (OpenSpec.ofChange parentsOldWrong)

/-- 'campanilelaw14.ParentsBest': WHATEVER THE INPUT: true; the input reads as it did. -/
def parentsBestSpec : ChangeSpec := { name := "parentsBest", fn := fun _ => fun
  | [d1, d2] => { results := [.lit (.bool true)], args := [d1, d2] }
  | _ => none }
def parentsBestRow : OpenClaim := { program := "ytlojpagbcdpjmaa", sum := "e3c05fc8023f103884b5d1897001144365694b42cc157e55b0b78616ffe8f4b5", func := "campanile/campanilelaw14.ParentsBest", spec := "parentsBest", unfollowed := true, recurses := true, apart := false }
def ParentsBestSaid : Prop := parentsBestRow.holds Try.pinned (OpenSpec.ofChange parentsBestSpec)

/-- ITS FALSE NEIGHBOUR: 'it returns false'. Refute it at one input. -/
def parentsBestWrong : ChangeSpec := { name := "parentsBest", fn := fun _ => fun
  | [d1, d2] => { results := [.lit (.bool false)], args := [d1, d2] }
  | _ => none }
def ParentsBestWrongFalsely : Prop := parentsBestRow.holds Try.pinned (OpenSpec.ofChange parentsBestWrong)

/-- 'campanilelaw14.ParentsAgain': WHATEVER THE INPUT: true; the input reads as it did. -/
def parentsAgainSpec : ChangeSpec := { name := "parentsAgain", fn := fun _ => fun
  | [d1, d2] => { results := [.lit (.bool true)], args := [d1, d2] }
  | _ => none }
def parentsAgainRow : OpenClaim := { program := "ytlojpagbcdpjmaa", sum := "e3c05fc8023f103884b5d1897001144365694b42cc157e55b0b78616ffe8f4b5", func := "campanile/campanilelaw14.ParentsAgain", spec := "parentsAgain", unfollowed := true, recurses := true, apart := false }
def ParentsAgainSaid : Prop := parentsAgainRow.holds Try.pinned (OpenSpec.ofChange parentsAgainSpec)

/-- ITS FALSE NEIGHBOUR: 'it returns false'. Refute it at one input. -/
def parentsAgainWrong : ChangeSpec := { name := "parentsAgain", fn := fun _ => fun
  | [d1, d2] => { results := [.lit (.bool false)], args := [d1, d2] }
  | _ => none }
def ParentsAgainWrongFalsely : Prop := parentsAgainRow.holds Try.pinned (OpenSpec.ofChange parentsAgainWrong)

/- THE SECOND FORM. 'bulk': how many values and letters a reading holds, each counted each time it is reached (what is shared counts as often as it is met; a slice's spare places count too). A statement '..UptoSaid' is the law's where the arguments, and the package variables that the reading takes, are together of bulk at most 1048576: NARROWER than '..Said'. Prove '..Said' where nothing that the law and all that it calls make is longer than what came in: it says more and counts as full. Else prove '..UptoSaid'. A law counts once. -/
mutual
def uptoBulk {H : Type} : DataW H → Nat
  | .lit (.string bytes) => bytes.length + 1
  | .lit _ => 1
  | .nil => 1
  | .ptr d => uptoBulk d + 1
  | .slice elems spare => uptoBulkAll elems + uptoBulkAll spare + 1
  | .agg parts => uptoBulkAll parts + 1
  | .iface _ d => uptoBulk d + 1
  | .map entries => uptoBulkEntries entries + 1
  | .held _ => 1
def uptoBulkAll {H : Type} : List (DataW H) → Nat
  | [] => 0
  | d :: r => uptoBulk d + uptoBulkAll r
def uptoBulkEntries {H : Type} : List (Lit × DataW H) → Nat
  | [] => 0
  | x :: r => uptoBulkEntry x + uptoBulkEntries r
def uptoBulkEntry {H : Type} : Lit × DataW H → Nat
  | (.string bytes, d) => bytes.length + uptoBulk d + 1
  | (_, d) => uptoBulk d + 1
 end
def uptoSmall : (H : Type) → List (DataW H) → Bool := fun _ ds => decide (uptoBulkAll ds ≤ 1048576)
def OpenSpec.upto (s : _root_.Go.ChangeSpec) : _root_.Go.OpenSpec := { _root_.Go.OpenSpec.ofChange s with cond := some uptoSmall }

/-- 'campanilelaw14.ParentsPlays', WHERE WHAT IT READS IS OF BULK AT MOST 1048576: true; the input reads as it did. -/
def parentsPlaysUptoRow : OpenClaim := { program := "ytlojpagbcdpjmaa", sum := "e3c05fc8023f103884b5d1897001144365694b42cc157e55b0b78616ffe8f4b5", func := "campanile/campanilelaw14.ParentsPlays", spec := "parentsPlays", unfollowed := true, recurses := true, apart := false, narrowed := true }
def ParentsPlaysUptoSaid : Prop := parentsPlaysUptoRow.holds Try.pinned (OpenSpec.upto parentsPlaysSpec)

/-- 'campanilelaw14.ParentsNil', WHERE WHAT IT READS IS OF BULK AT MOST 1048576: true; the input reads as it did. -/
def parentsNilUptoRow : OpenClaim := { program := "ytlojpagbcdpjmaa", sum := "e3c05fc8023f103884b5d1897001144365694b42cc157e55b0b78616ffe8f4b5", func := "campanile/campanilelaw14.ParentsNil", spec := "parentsNil", unfollowed := true, recurses := true, apart := false, narrowed := true }
def ParentsNilUptoSaid : Prop := parentsNilUptoRow.holds Try.pinned (OpenSpec.upto parentsNilSpec)

/-- 'campanilelaw14.ParentsFall', WHERE WHAT IT READS IS OF BULK AT MOST 1048576: true; the input reads as it did. -/
def parentsFallUptoRow : OpenClaim := { program := "ytlojpagbcdpjmaa", sum := "e3c05fc8023f103884b5d1897001144365694b42cc157e55b0b78616ffe8f4b5", func := "campanile/campanilelaw14.ParentsFall", spec := "parentsFall", unfollowed := true, recurses := true, apart := false, narrowed := true }
def ParentsFallUptoSaid : Prop := parentsFallUptoRow.holds Try.pinned (OpenSpec.upto parentsFallSpec)

/-- 'campanilelaw14.ParentsOld', WHERE WHAT IT READS IS OF BULK AT MOST 1048576: true; the input reads as it did. -/
def parentsOldUptoRow : OpenClaim := { program := "ytlojpagbcdpjmaa", sum := "e3c05fc8023f103884b5d1897001144365694b42cc157e55b0b78616ffe8f4b5", func := "campanile/campanilelaw14.ParentsOld", spec := "parentsOld", unfollowed := true, recurses := true, apart := false, narrowed := true }
def ParentsOldUptoSaid : Prop := parentsOldUptoRow.holds Try.pinned (OpenSpec.upto parentsOldSpec)

/-- 'campanilelaw14.ParentsBest', WHERE WHAT IT READS IS OF BULK AT MOST 1048576: true; the input reads as it did. -/
def parentsBestUptoRow : OpenClaim := { program := "ytlojpagbcdpjmaa", sum := "e3c05fc8023f103884b5d1897001144365694b42cc157e55b0b78616ffe8f4b5", func := "campanile/campanilelaw14.ParentsBest", spec := "parentsBest", unfollowed := true, recurses := true, apart := false, narrowed := true }
def ParentsBestUptoSaid : Prop := parentsBestUptoRow.holds Try.pinned (OpenSpec.upto parentsBestSpec)

/-- 'campanilelaw14.ParentsAgain', WHERE WHAT IT READS IS OF BULK AT MOST 1048576: true; the input reads as it did. -/
def parentsAgainUptoRow : OpenClaim := { program := "ytlojpagbcdpjmaa", sum := "e3c05fc8023f103884b5d1897001144365694b42cc157e55b0b78616ffe8f4b5", func := "campanile/campanilelaw14.ParentsAgain", spec := "parentsAgain", unfollowed := true, recurses := true, apart := false, narrowed := true }
def ParentsAgainUptoSaid : Prop := parentsAgainUptoRow.holds Try.pinned (OpenSpec.upto parentsAgainSpec)

end Rows
end Go.Proofs.Ytlojpagbcdpjmaa
