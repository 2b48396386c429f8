/-
  No cell of these rows narrows 'for every input' (looked for: loops, veiled, ifaces, maps, wideKeys, modest, calm, conditions, laid).
  DERIVED. THE GIVEN ROWS OF THIS SEAT. 5 by the template 'for every input the law returns true; each argument reads behind the call as it read before'; 0 by the template 'total and deterministic' (their statements: YtojdfcgfdaaeoaaTotals.lean).
  GIVEN WITH THE SEED: the statements are not yours to turn. If you find one false, say at which input.
  Laid BY PROGRAM, IN A SANDBOX (cutbox-rows.mjs): the forced cells as the released guide's own fill.sh prints them over the translation b10ffd5dc2badc18… (all of the seat's roots in one cut). By AI agents, Wed Nov 11 2026. No macro, syntax, notation, axiom, sorry.
-/
import Derived.Test.YtojdfcgfdaaeoaaChecked
import GoSem.Claim
import GoSem.ClaimJoined
import GoSem.ClaimMapViews
import Derived.JoinedTies
import Derived.KernelRfl
namespace Go.Proofs.Ytojdfcgfdaaeoaa
/- THE CELL 'sum', in the pinned program and in every row, IS THE sha256 OF THE DUMP (.gsa) THAT YtojdfcgfdaaeoaaProg.lean LOADS. Nothing in Lean hashes anything: it is a label: what it is worth is what the hold of that sum in a sandbox is worth. -/
noncomputable def Try.pinned : Pinned := { name := "ytojdfcgfdaaeoaa", sum := "b10ffd5dc2badc1841b5f22cd1cc804430895a21b7c126114f2744b3609531e6", checked := Try.checked }
namespace Rows
def none {H : Type} : Left H := { results := [], args := [] }

/-- 'campanilelaw20.TopoNewer': WHATEVER THE INPUT: true; the input reads as it did. -/
def topoNewerSpec : ChangeSpec := { name := "topoNewer", fn := fun _ => fun
  | [d1, d2, d3, d4, d5] => { results := [.lit (.bool true)], args := [d1, d2, d3, d4, d5] }
  | _ => none }
def topoNewerRow : OpenClaim := { program := "ytojdfcgfdaaeoaa", sum := "b10ffd5dc2badc1841b5f22cd1cc804430895a21b7c126114f2744b3609531e6", func := "campanile/campanilelaw20.TopoNewer", spec := "topoNewer", plainKeys := false, apart := false }
def TopoNewerSaid : Prop := topoNewerRow.holds Try.pinned (OpenSpec.ofChange topoNewerSpec)

/-- ITS FALSE NEIGHBOUR: 'it returns false'. Refute it at one input. -/
def topoNewerWrong : ChangeSpec := { name := "topoNewer", fn := fun _ => fun
  | [d1, d2, d3, d4, d5] => { results := [.lit (.bool false)], args := [d1, d2, d3, d4, d5] }
  | _ => none }
def TopoNewerWrongFalsely : Prop := topoNewerRow.holds Try.pinned (OpenSpec.ofChange topoNewerWrong)

/-- 'campanilelaw20.TopoLeast': WHATEVER THE INPUT: true; the input reads as it did. -/
def topoLeastSpec : ChangeSpec := { name := "topoLeast", fn := fun _ => fun
  | [d1, d2, d3, d4, d5] => { results := [.lit (.bool true)], args := [d1, d2, d3, d4, d5] }
  | _ => none }
def topoLeastRow : OpenClaim := { program := "ytojdfcgfdaaeoaa", sum := "b10ffd5dc2badc1841b5f22cd1cc804430895a21b7c126114f2744b3609531e6", func := "campanile/campanilelaw20.TopoLeast", spec := "topoLeast", plainKeys := false, apart := false }
def TopoLeastSaid : Prop := topoLeastRow.holds Try.pinned (OpenSpec.ofChange topoLeastSpec)

/-- ITS FALSE NEIGHBOUR: 'it returns false'. Refute it at one input. -/
def topoLeastWrong : ChangeSpec := { name := "topoLeast", fn := fun _ => fun
  | [d1, d2, d3, d4, d5] => { results := [.lit (.bool false)], args := [d1, d2, d3, d4, d5] }
  | _ => none }
def TopoLeastWrongFalsely : Prop := topoLeastRow.holds Try.pinned (OpenSpec.ofChange topoLeastWrong)

/-- 'campanilelaw20.TopoPlays': WHATEVER THE INPUT: true; the input reads as it did. -/
def topoPlaysSpec : ChangeSpec := { name := "topoPlays", fn := fun _ => fun
  | [d1, d2, d3] => { results := [.lit (.bool true)], args := [d1, d2, d3] }
  | _ => none }
def topoPlaysRow : OpenClaim := { program := "ytojdfcgfdaaeoaa", sum := "b10ffd5dc2badc1841b5f22cd1cc804430895a21b7c126114f2744b3609531e6", func := "campanile/campanilelaw20.TopoPlays", spec := "topoPlays", plainKeys := false, apart := false }
def TopoPlaysSaid : Prop := topoPlaysRow.holds Try.pinned (OpenSpec.ofChange topoPlaysSpec)

/-- ITS FALSE NEIGHBOUR: 'it returns false'. Refute it at one input. -/
def topoPlaysWrong : ChangeSpec := { name := "topoPlays", fn := fun _ => fun
  | [d1, d2, d3] => { results := [.lit (.bool false)], args := [d1, d2, d3] }
  | _ => none }
def TopoPlaysWrongFalsely : Prop := topoPlaysRow.holds Try.pinned (OpenSpec.ofChange topoPlaysWrong)

/-- 'campanilelaw20.TopoNil': WHATEVER THE INPUT: true; the input reads as it did. -/
def topoNilSpec : ChangeSpec := { name := "topoNil", fn := fun _ => fun
  | [d1, d2] => { results := [.lit (.bool true)], args := [d1, d2] }
  | _ => none }
def topoNilRow : OpenClaim := { program := "ytojdfcgfdaaeoaa", sum := "b10ffd5dc2badc1841b5f22cd1cc804430895a21b7c126114f2744b3609531e6", func := "campanile/campanilelaw20.TopoNil", spec := "topoNil", plainKeys := false, apart := false }
def TopoNilSaid : Prop := topoNilRow.holds Try.pinned (OpenSpec.ofChange topoNilSpec)

/-- ITS FALSE NEIGHBOUR: 'it returns false'. Refute it at one input. -/
def topoNilWrong : ChangeSpec := { name := "topoNil", fn := fun _ => fun
  | [d1, d2] => { results := [.lit (.bool false)], args := [d1, d2] }
  | _ => none }
def TopoNilWrongFalsely : Prop := topoNilRow.holds Try.pinned (OpenSpec.ofChange topoNilWrong)

/-- 'campanilelaw20.TopoBoth': WHATEVER THE INPUT: true; the input reads as it did. -/
def topoBothSpec : ChangeSpec := { name := "topoBoth", fn := fun _ => fun
  | [d1, d2, d3, d4] => { results := [.lit (.bool true)], args := [d1, d2, d3, d4] }
  | _ => none }
def topoBothRow : OpenClaim := { program := "ytojdfcgfdaaeoaa", sum := "b10ffd5dc2badc1841b5f22cd1cc804430895a21b7c126114f2744b3609531e6", func := "campanile/campanilelaw20.TopoBoth", spec := "topoBoth", plainKeys := false, apart := false }
def TopoBothSaid : Prop := topoBothRow.holds Try.pinned (OpenSpec.ofChange topoBothSpec)

/-- ITS FALSE NEIGHBOUR: 'it returns false'. Refute it at one input. -/
def topoBothWrong : ChangeSpec := { name := "topoBoth", fn := fun _ => fun
  | [d1, d2, d3, d4] => { results := [.lit (.bool false)], args := [d1, d2, d3, d4] }
  | _ => none }
def TopoBothWrongFalsely : Prop := topoBothRow.holds Try.pinned (OpenSpec.ofChange topoBothWrong)

/- THE SECOND FORM. 'bulk': how many values and letters a reading holds, each counted each time it is reached (what is shared counts as often as it is met; a slice's spare places count too). A statement '..UptoSaid' is the law's where the arguments, and the package variables that the reading takes, are together of bulk at most 1048576: NARROWER than '..Said'. Prove '..Said' where nothing that the law and all that it calls make is longer than what came in: it says more and counts as full. Else prove '..UptoSaid'. A law counts once. -/
mutual
def uptoBulk {H : Type} : DataW H → Nat
  | .lit (.string bytes) => bytes.length + 1
  | .lit _ => 1
  | .nil => 1
  | .ptr d => uptoBulk d + 1
  | .slice elems spare => uptoBulkAll elems + uptoBulkAll spare + 1
  | .agg parts => uptoBulkAll parts + 1
  | .iface _ d => uptoBulk d + 1
  | .map entries => uptoBulkEntries entries + 1
  | .held _ => 1
def uptoBulkAll {H : Type} : List (DataW H) → Nat
  | [] => 0
  | d :: r => uptoBulk d + uptoBulkAll r
def uptoBulkEntries {H : Type} : List (Lit × DataW H) → Nat
  | [] => 0
  | x :: r => uptoBulkEntry x + uptoBulkEntries r
def uptoBulkEntry {H : Type} : Lit × DataW H → Nat
  | (.string bytes, d) => bytes.length + uptoBulk d + 1
  | (_, d) => uptoBulk d + 1
 end
def uptoSmall : (H : Type) → List (DataW H) → Bool := fun _ ds => decide (uptoBulkAll ds ≤ 1048576)
def OpenSpec.upto (s : _root_.Go.ChangeSpec) : _root_.Go.OpenSpec := { _root_.Go.OpenSpec.ofChange s with cond := some uptoSmall }

/-- 'campanilelaw20.TopoNewer', WHERE WHAT IT READS IS OF BULK AT MOST 1048576: true; the input reads as it did. -/
def topoNewerUptoRow : OpenClaim := { program := "ytojdfcgfdaaeoaa", sum := "b10ffd5dc2badc1841b5f22cd1cc804430895a21b7c126114f2744b3609531e6", func := "campanile/campanilelaw20.TopoNewer", spec := "topoNewer", plainKeys := false, apart := false, narrowed := true }
def TopoNewerUptoSaid : Prop := topoNewerUptoRow.holds Try.pinned (OpenSpec.upto topoNewerSpec)

/-- 'campanilelaw20.TopoLeast', WHERE WHAT IT READS IS OF BULK AT MOST 1048576: true; the input reads as it did. -/
def topoLeastUptoRow : OpenClaim := { program := "ytojdfcgfdaaeoaa", sum := "b10ffd5dc2badc1841b5f22cd1cc804430895a21b7c126114f2744b3609531e6", func := "campanile/campanilelaw20.TopoLeast", spec := "topoLeast", plainKeys := false, apart := false, narrowed := true }
def TopoLeastUptoSaid : Prop := topoLeastUptoRow.holds Try.pinned (OpenSpec.upto topoLeastSpec)

/-- 'campanilelaw20.TopoPlays', WHERE WHAT IT READS IS OF BULK AT MOST 1048576: true; the input reads as it did. -/
def topoPlaysUptoRow : OpenClaim := { program := "ytojdfcgfdaaeoaa", sum := "b10ffd5dc2badc1841b5f22cd1cc804430895a21b7c126114f2744b3609531e6", func := "campanile/campanilelaw20.TopoPlays", spec := "topoPlays", plainKeys := false, apart := false, narrowed := true }
def TopoPlaysUptoSaid : Prop := topoPlaysUptoRow.holds Try.pinned (OpenSpec.upto topoPlaysSpec)

/-- 'campanilelaw20.TopoNil', WHERE WHAT IT READS IS OF BULK AT MOST 1048576: true; the input reads as it did. -/
def topoNilUptoRow : OpenClaim := { program := "ytojdfcgfdaaeoaa", sum := "b10ffd5dc2badc1841b5f22cd1cc804430895a21b7c126114f2744b3609531e6", func := "campanile/campanilelaw20.TopoNil", spec := "topoNil", plainKeys := false, apart := false, narrowed := true }
def TopoNilUptoSaid : Prop := topoNilUptoRow.holds Try.pinned (OpenSpec.upto topoNilSpec)

/-- 'campanilelaw20.TopoBoth', WHERE WHAT IT READS IS OF BULK AT MOST 1048576: true; the input reads as it did. -/
def topoBothUptoRow : OpenClaim := { program := "ytojdfcgfdaaeoaa", sum := "b10ffd5dc2badc1841b5f22cd1cc804430895a21b7c126114f2744b3609531e6", func := "campanile/campanilelaw20.TopoBoth", spec := "topoBoth", plainKeys := false, apart := false, narrowed := true }
def TopoBothUptoSaid : Prop := topoBothUptoRow.holds Try.pinned (OpenSpec.upto topoBothSpec)

end Rows
end Go.Proofs.Ytojdfcgfdaaeoaa
