/-
  No cell of these rows narrows 'for every input' (looked for: loops, veiled, ifaces, maps, wideKeys, modest, calm, conditions, laid).
  DERIVED. THE GIVEN ROWS OF THIS SEAT. 6 by the template 'for every input the law returns true; each argument reads behind the call as it read before'; 0 by the template 'total and deterministic' (their statements: YtbdikeedilidkaaTotals.lean).
  GIVEN WITH THE SEED: the statements are not yours to turn. If you find one false, say at which input.
  Laid BY PROGRAM, IN A SANDBOX (cutbox-rows.mjs): the forced cells as the released guide's own fill.sh prints them over the translation 70a3d307d6b01f64… (all of the seat's roots in one cut). By AI agents, Wed Nov 11 2026. No macro, syntax, notation, axiom, sorry.
-/
import Derived.Test.YtbdikeedilidkaaChecked
import GoSem.Claim
import GoSem.ClaimJoined
import GoSem.ClaimMapViews
import Derived.JoinedTies
import Derived.KernelRfl
namespace Go.Proofs.Ytbdikeedilidkaa
/- THE CELL 'sum', in the pinned program and in every row, IS THE sha256 OF THE DUMP (.gsa) THAT YtbdikeedilidkaaProg.lean LOADS. Nothing in Lean hashes anything: it is a label: what it is worth is what the hold of that sum in a sandbox is worth. -/
noncomputable def Try.pinned : Pinned := { name := "ytbdikeedilidkaa", sum := "70a3d307d6b01f64b5985a4bbd94987a24041833183d4df7c2293ad49a59c0ac", checked := Try.checked }
namespace Rows
def none {H : Type} : Left H := { results := [], args := [] }

/-- 'campanilelaw1.LabelMay': WHATEVER THE INPUT: true; the input reads as it did. -/
def labelMaySpec : ChangeSpec := { name := "labelMay", fn := fun _ => fun
  | [d] => { results := [.lit (.bool true)], args := [d] }
  | _ => none }
def labelMayRow : OpenClaim := { program := "ytbdikeedilidkaa", sum := "70a3d307d6b01f64b5985a4bbd94987a24041833183d4df7c2293ad49a59c0ac", func := "campanile/campanilelaw1.LabelMay", spec := "labelMay", inPlace := ["internal/abi.NoEscape"], apart := false }
def LabelMaySaid : Prop := labelMayRow.holds Try.pinned (OpenSpec.ofChange labelMaySpec)

/-- ITS FALSE NEIGHBOUR: 'it returns false'. Refute it at one input. -/
def labelMayWrong : ChangeSpec := { name := "labelMay", fn := fun _ => fun
  | [d] => { results := [.lit (.bool false)], args := [d] }
  | _ => none }
def LabelMayWrongFalsely : Prop := labelMayRow.holds Try.pinned (OpenSpec.ofChange labelMayWrong)

/-- 'campanilelaw1.LabelSums': WHATEVER THE INPUT: true; the input reads as it did. -/
def labelSumsSpec : ChangeSpec := { name := "labelSums", fn := fun _ => fun
  | [d1, d2] => { results := [.lit (.bool true)], args := [d1, d2] }
  | _ => none }
def labelSumsRow : OpenClaim := { program := "ytbdikeedilidkaa", sum := "70a3d307d6b01f64b5985a4bbd94987a24041833183d4df7c2293ad49a59c0ac", func := "campanile/campanilelaw1.LabelSums", spec := "labelSums", inPlace := ["internal/abi.NoEscape"], apart := false }
def LabelSumsSaid : Prop := labelSumsRow.holds Try.pinned (OpenSpec.ofChange labelSumsSpec)

/-- ITS FALSE NEIGHBOUR: 'it returns false'. Refute it at one input. -/
def labelSumsWrong : ChangeSpec := { name := "labelSums", fn := fun _ => fun
  | [d1, d2] => { results := [.lit (.bool false)], args := [d1, d2] }
  | _ => none }
def LabelSumsWrongFalsely : Prop := labelSumsRow.holds Try.pinned (OpenSpec.ofChange labelSumsWrong)

/-- 'campanilelaw1.LabelTurns': WHATEVER THE INPUT: true; the input reads as it did. -/
def labelTurnsSpec : ChangeSpec := { name := "labelTurns", fn := fun _ => fun
  | [d1, d2] => { results := [.lit (.bool true)], args := [d1, d2] }
  | _ => none }
def labelTurnsRow : OpenClaim := { program := "ytbdikeedilidkaa", sum := "70a3d307d6b01f64b5985a4bbd94987a24041833183d4df7c2293ad49a59c0ac", func := "campanile/campanilelaw1.LabelTurns", spec := "labelTurns", inPlace := ["internal/abi.NoEscape"], apart := false }
def LabelTurnsSaid : Prop := labelTurnsRow.holds Try.pinned (OpenSpec.ofChange labelTurnsSpec)

/-- ITS FALSE NEIGHBOUR: 'it returns false'. Refute it at one input. -/
def labelTurnsWrong : ChangeSpec := { name := "labelTurns", fn := fun _ => fun
  | [d1, d2] => { results := [.lit (.bool false)], args := [d1, d2] }
  | _ => none }
def LabelTurnsWrongFalsely : Prop := labelTurnsRow.holds Try.pinned (OpenSpec.ofChange labelTurnsWrong)

/-- 'campanilelaw1.LabelForms': WHATEVER THE INPUT: true; the input reads as it did. -/
def labelFormsSpec : ChangeSpec := { name := "labelForms", fn := fun _ => fun
  | [d1, d2] => { results := [.lit (.bool true)], args := [d1, d2] }
  | _ => none }
def labelFormsRow : OpenClaim := { program := "ytbdikeedilidkaa", sum := "70a3d307d6b01f64b5985a4bbd94987a24041833183d4df7c2293ad49a59c0ac", func := "campanile/campanilelaw1.LabelForms", spec := "labelForms", inPlace := ["internal/abi.NoEscape"], apart := false }
def LabelFormsSaid : Prop := labelFormsRow.holds Try.pinned (OpenSpec.ofChange labelFormsSpec)

/-- ITS FALSE NEIGHBOUR: 'it returns false'. Refute it at one input. -/
def labelFormsWrong : ChangeSpec := { name := "labelForms", fn := fun _ => fun
  | [d1, d2] => { results := [.lit (.bool false)], args := [d1, d2] }
  | _ => none }
def LabelFormsWrongFalsely : Prop := labelFormsRow.holds Try.pinned (OpenSpec.ofChange labelFormsWrong)

/-- 'campanilelaw1.LabelParts': WHATEVER THE INPUT: true; the input reads as it did. -/
def labelPartsSpec : ChangeSpec := { name := "labelParts", fn := fun _ => fun
  | [d1, d2] => { results := [.lit (.bool true)], args := [d1, d2] }
  | _ => none }
def labelPartsRow : OpenClaim := { program := "ytbdikeedilidkaa", sum := "70a3d307d6b01f64b5985a4bbd94987a24041833183d4df7c2293ad49a59c0ac", func := "campanile/campanilelaw1.LabelParts", spec := "labelParts", inPlace := ["internal/abi.NoEscape"], apart := false }
def LabelPartsSaid : Prop := labelPartsRow.holds Try.pinned (OpenSpec.ofChange labelPartsSpec)

/-- ITS FALSE NEIGHBOUR: 'it returns false'. Refute it at one input. -/
def labelPartsWrong : ChangeSpec := { name := "labelParts", fn := fun _ => fun
  | [d1, d2] => { results := [.lit (.bool false)], args := [d1, d2] }
  | _ => none }
def LabelPartsWrongFalsely : Prop := labelPartsRow.holds Try.pinned (OpenSpec.ofChange labelPartsWrong)

/-- 'campanilelaw1.LabelCuts': WHATEVER THE INPUT: true; the input reads as it did. -/
def labelCutsSpec : ChangeSpec := { name := "labelCuts", fn := fun _ => fun
  | [d1, d2, d3] => { results := [.lit (.bool true)], args := [d1, d2, d3] }
  | _ => none }
def labelCutsRow : OpenClaim := { program := "ytbdikeedilidkaa", sum := "70a3d307d6b01f64b5985a4bbd94987a24041833183d4df7c2293ad49a59c0ac", func := "campanile/campanilelaw1.LabelCuts", spec := "labelCuts", inPlace := ["internal/abi.NoEscape"], apart := false }
def LabelCutsSaid : Prop := labelCutsRow.holds Try.pinned (OpenSpec.ofChange labelCutsSpec)

/-- ITS FALSE NEIGHBOUR: 'it returns false'. Refute it at one input. -/
def labelCutsWrong : ChangeSpec := { name := "labelCuts", fn := fun _ => fun
  | [d1, d2, d3] => { results := [.lit (.bool false)], args := [d1, d2, d3] }
  | _ => none }
def LabelCutsWrongFalsely : Prop := labelCutsRow.holds Try.pinned (OpenSpec.ofChange labelCutsWrong)

/- THE SECOND FORM. 'bulk': how many values and letters a reading holds, each counted each time it is reached (what is shared counts as often as it is met; a slice's spare places count too). A statement '..UptoSaid' is the law's where the arguments, and the package variables that the reading takes, are together of bulk at most 1048576: NARROWER than '..Said'. Prove '..Said' where nothing that the law and all that it calls make is longer than what came in: it says more and counts as full. Else prove '..UptoSaid'. A law counts once. -/
mutual
def uptoBulk {H : Type} : DataW H → Nat
  | .lit (.string bytes) => bytes.length + 1
  | .lit _ => 1
  | .nil => 1
  | .ptr d => uptoBulk d + 1
  | .slice elems spare => uptoBulkAll elems + uptoBulkAll spare + 1
  | .agg parts => uptoBulkAll parts + 1
  | .iface _ d => uptoBulk d + 1
  | .map entries => uptoBulkEntries entries + 1
  | .held _ => 1
def uptoBulkAll {H : Type} : List (DataW H) → Nat
  | [] => 0
  | d :: r => uptoBulk d + uptoBulkAll r
def uptoBulkEntries {H : Type} : List (Lit × DataW H) → Nat
  | [] => 0
  | x :: r => uptoBulkEntry x + uptoBulkEntries r
def uptoBulkEntry {H : Type} : Lit × DataW H → Nat
  | (.string bytes, d) => bytes.length + uptoBulk d + 1
  | (_, d) => uptoBulk d + 1
 end
def uptoSmall : (H : Type) → List (DataW H) → Bool := fun _ ds => decide (uptoBulkAll ds ≤ 1048576)
def OpenSpec.upto (s : _root_.Go.ChangeSpec) : _root_.Go.OpenSpec := { _root_.Go.OpenSpec.ofChange s with cond := some uptoSmall }

/-- 'campanilelaw1.LabelMay', WHERE WHAT IT READS IS OF BULK AT MOST 1048576: true; the input reads as it did. -/
def labelMayUptoRow : OpenClaim := { program := "ytbdikeedilidkaa", sum := "70a3d307d6b01f64b5985a4bbd94987a24041833183d4df7c2293ad49a59c0ac", func := "campanile/campanilelaw1.LabelMay", spec := "labelMay", inPlace := ["internal/abi.NoEscape"], apart := false, narrowed := true }
def LabelMayUptoSaid : Prop := labelMayUptoRow.holds Try.pinned (OpenSpec.upto labelMaySpec)

/-- 'campanilelaw1.LabelSums', WHERE WHAT IT READS IS OF BULK AT MOST 1048576: true; the input reads as it did. -/
def labelSumsUptoRow : OpenClaim := { program := "ytbdikeedilidkaa", sum := "70a3d307d6b01f64b5985a4bbd94987a24041833183d4df7c2293ad49a59c0ac", func := "campanile/campanilelaw1.LabelSums", spec := "labelSums", inPlace := ["internal/abi.NoEscape"], apart := false, narrowed := true }
def LabelSumsUptoSaid : Prop := labelSumsUptoRow.holds Try.pinned (OpenSpec.upto labelSumsSpec)

/-- 'campanilelaw1.LabelTurns', WHERE WHAT IT READS IS OF BULK AT MOST 1048576: true; the input reads as it did. -/
def labelTurnsUptoRow : OpenClaim := { program := "ytbdikeedilidkaa", sum := "70a3d307d6b01f64b5985a4bbd94987a24041833183d4df7c2293ad49a59c0ac", func := "campanile/campanilelaw1.LabelTurns", spec := "labelTurns", inPlace := ["internal/abi.NoEscape"], apart := false, narrowed := true }
def LabelTurnsUptoSaid : Prop := labelTurnsUptoRow.holds Try.pinned (OpenSpec.upto labelTurnsSpec)

/-- 'campanilelaw1.LabelForms', WHERE WHAT IT READS IS OF BULK AT MOST 1048576: true; the input reads as it did. -/
def labelFormsUptoRow : OpenClaim := { program := "ytbdikeedilidkaa", sum := "70a3d307d6b01f64b5985a4bbd94987a24041833183d4df7c2293ad49a59c0ac", func := "campanile/campanilelaw1.LabelForms", spec := "labelForms", inPlace := ["internal/abi.NoEscape"], apart := false, narrowed := true }
def LabelFormsUptoSaid : Prop := labelFormsUptoRow.holds Try.pinned (OpenSpec.upto labelFormsSpec)

/-- 'campanilelaw1.LabelParts', WHERE WHAT IT READS IS OF BULK AT MOST 1048576: true; the input reads as it did. -/
def labelPartsUptoRow : OpenClaim := { program := "ytbdikeedilidkaa", sum := "70a3d307d6b01f64b5985a4bbd94987a24041833183d4df7c2293ad49a59c0ac", func := "campanile/campanilelaw1.LabelParts", spec := "labelParts", inPlace := ["internal/abi.NoEscape"], apart := false, narrowed := true }
def LabelPartsUptoSaid : Prop := labelPartsUptoRow.holds Try.pinned (OpenSpec.upto labelPartsSpec)

/-- 'campanilelaw1.LabelCuts', WHERE WHAT IT READS IS OF BULK AT MOST 1048576: true; the input reads as it did. -/
def labelCutsUptoRow : OpenClaim := { program := "ytbdikeedilidkaa", sum := "70a3d307d6b01f64b5985a4bbd94987a24041833183d4df7c2293ad49a59c0ac", func := "campanile/campanilelaw1.LabelCuts", spec := "labelCuts", inPlace := ["internal/abi.NoEscape"], apart := false, narrowed := true }
def LabelCutsUptoSaid : Prop := labelCutsUptoRow.holds Try.pinned (OpenSpec.upto labelCutsSpec)

end Rows
end Go.Proofs.Ytbdikeedilidkaa
