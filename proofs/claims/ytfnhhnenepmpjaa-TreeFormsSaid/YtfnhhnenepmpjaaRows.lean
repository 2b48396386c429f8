/-
  No cell of these rows narrows 'for every input' (looked for: loops, veiled, ifaces, maps, wideKeys, modest, calm, conditions, laid).
  DERIVED. THE GIVEN ROWS OF THIS SEAT. 5 by the template 'for every input the law returns true; each argument reads behind the call as it read before'; 0 by the template 'total and deterministic' (their statements: YtfnhhnenepmpjaaTotals.lean).
  GIVEN WITH THE SEED: the statements are not yours to turn. If you find one false, say at which input.
  Laid BY PROGRAM, IN A SANDBOX (cutbox-rows.mjs): the forced cells as the released guide's own fill.sh prints them over the translation e7989967de9cb2f8… (all of the seat's roots in one cut). By AI agents, Wed Nov 11 2026. No macro, syntax, notation, axiom, sorry.
-/
import Derived.Test.YtfnhhnenepmpjaaChecked
import GoSem.Claim
import GoSem.ClaimJoined
import GoSem.ClaimMapViews
import Derived.JoinedTies
import Derived.KernelRfl
namespace Go.Proofs.Ytfnhhnenepmpjaa
/- THE CELL 'sum', in the pinned program and in every row, IS THE sha256 OF THE DUMP (.gsa) THAT YtfnhhnenepmpjaaProg.lean LOADS. Nothing in Lean hashes anything: it is a label: what it is worth is what the hold of that sum in a sandbox is worth. -/
noncomputable def Try.pinned : Pinned := { name := "ytfnhhnenepmpjaa", sum := "e7989967de9cb2f8f57eba7fc45c9f5370735f5b8722c5a1a879ab09aec8fb4d", checked := Try.checked }
namespace Rows
def none {H : Type} : Left H := { results := [], args := [] }

/-- 'campanilelaw21.TreeFalls': WHATEVER THE INPUT: true; the input reads as it did. -/
def treeFallsSpec : ChangeSpec := { name := "treeFalls", fn := fun _ => fun
  | [d1, d2, d3] => { results := [.lit (.bool true)], args := [d1, d2, d3] }
  | _ => none }
def treeFallsRow : OpenClaim := { program := "ytfnhhnenepmpjaa", sum := "e7989967de9cb2f8f57eba7fc45c9f5370735f5b8722c5a1a879ab09aec8fb4d", func := "campanile/campanilelaw21.TreeFalls", spec := "treeFalls", unfollowed := true, recurses := true, plainKeys := false, apart := false }
def TreeFallsSaid : Prop := treeFallsRow.holds Try.pinned (OpenSpec.ofChange treeFallsSpec)

/-- ITS FALSE NEIGHBOUR: 'it returns false'. Refute it at one input. -/
def treeFallsWrong : ChangeSpec := { name := "treeFalls", fn := fun _ => fun
  | [d1, d2, d3] => { results := [.lit (.bool false)], args := [d1, d2, d3] }
  | _ => none }
def TreeFallsWrongFalsely : Prop := treeFallsRow.holds Try.pinned (OpenSpec.ofChange treeFallsWrong)

/-- 'campanilelaw21.TreePaths': WHATEVER THE INPUT: true; the input reads as it did. -/
def treePathsSpec : ChangeSpec := { name := "treePaths", fn := fun _ => fun
  | [d1, d2, d3] => { results := [.lit (.bool true)], args := [d1, d2, d3] }
  | _ => none }
def treePathsRow : OpenClaim := { program := "ytfnhhnenepmpjaa", sum := "e7989967de9cb2f8f57eba7fc45c9f5370735f5b8722c5a1a879ab09aec8fb4d", func := "campanile/campanilelaw21.TreePaths", spec := "treePaths", unfollowed := true, recurses := true, plainKeys := false, apart := false }
def TreePathsSaid : Prop := treePathsRow.holds Try.pinned (OpenSpec.ofChange treePathsSpec)

/-- ITS FALSE NEIGHBOUR: 'it returns false'. Refute it at one input. -/
def treePathsWrong : ChangeSpec := { name := "treePaths", fn := fun _ => fun
  | [d1, d2, d3] => { results := [.lit (.bool false)], args := [d1, d2, d3] }
  | _ => none }
def TreePathsWrongFalsely : Prop := treePathsRow.holds Try.pinned (OpenSpec.ofChange treePathsWrong)

/-- 'campanilelaw21.TreeNil': WHATEVER THE INPUT: true; the input reads as it did. -/
def treeNilSpec : ChangeSpec := { name := "treeNil", fn := fun _ => fun
  | [d1, d2] => { results := [.lit (.bool true)], args := [d1, d2] }
  | _ => none }
def treeNilRow : OpenClaim := { program := "ytfnhhnenepmpjaa", sum := "e7989967de9cb2f8f57eba7fc45c9f5370735f5b8722c5a1a879ab09aec8fb4d", func := "campanile/campanilelaw21.TreeNil", spec := "treeNil", unfollowed := true, recurses := true, plainKeys := false, apart := false }
def TreeNilSaid : Prop := treeNilRow.holds Try.pinned (OpenSpec.ofChange treeNilSpec)

/-- ITS FALSE NEIGHBOUR: 'it returns false'. Refute it at one input. -/
def treeNilWrong : ChangeSpec := { name := "treeNil", fn := fun _ => fun
  | [d1, d2] => { results := [.lit (.bool false)], args := [d1, d2] }
  | _ => none }
def TreeNilWrongFalsely : Prop := treeNilRow.holds Try.pinned (OpenSpec.ofChange treeNilWrong)

/-- 'campanilelaw21.TreeForms': WHATEVER THE INPUT: true; the input reads as it did. -/
def treeFormsSpec : ChangeSpec := { name := "treeForms", fn := fun _ => fun
  | [d1, d2, d3] => { results := [.lit (.bool true)], args := [d1, d2, d3] }
  | _ => none }
def treeFormsRow : OpenClaim := { program := "ytfnhhnenepmpjaa", sum := "e7989967de9cb2f8f57eba7fc45c9f5370735f5b8722c5a1a879ab09aec8fb4d", func := "campanile/campanilelaw21.TreeForms", spec := "treeForms", unfollowed := true, recurses := true, plainKeys := false, apart := false }
def TreeFormsSaid : Prop := treeFormsRow.holds Try.pinned (OpenSpec.ofChange treeFormsSpec)

/-- ITS FALSE NEIGHBOUR: 'it returns false'. Refute it at one input. -/
def treeFormsWrong : ChangeSpec := { name := "treeForms", fn := fun _ => fun
  | [d1, d2, d3] => { results := [.lit (.bool false)], args := [d1, d2, d3] }
  | _ => none }
def TreeFormsWrongFalsely : Prop := treeFormsRow.holds Try.pinned (OpenSpec.ofChange treeFormsWrong)

/-- 'campanilelaw21.TreeChildren': WHATEVER THE INPUT: true; the input reads as it did. -/
def treeChildrenSpec : ChangeSpec := { name := "treeChildren", fn := fun _ => fun
  | [d1, d2, d3] => { results := [.lit (.bool true)], args := [d1, d2, d3] }
  | _ => none }
def treeChildrenRow : OpenClaim := { program := "ytfnhhnenepmpjaa", sum := "e7989967de9cb2f8f57eba7fc45c9f5370735f5b8722c5a1a879ab09aec8fb4d", func := "campanile/campanilelaw21.TreeChildren", spec := "treeChildren", unfollowed := true, recurses := true, plainKeys := false, apart := false }
def TreeChildrenSaid : Prop := treeChildrenRow.holds Try.pinned (OpenSpec.ofChange treeChildrenSpec)

/-- ITS FALSE NEIGHBOUR: 'it returns false'. Refute it at one input. -/
def treeChildrenWrong : ChangeSpec := { name := "treeChildren", fn := fun _ => fun
  | [d1, d2, d3] => { results := [.lit (.bool false)], args := [d1, d2, d3] }
  | _ => none }
def TreeChildrenWrongFalsely : Prop := treeChildrenRow.holds Try.pinned (OpenSpec.ofChange treeChildrenWrong)

/- THE SECOND FORM. 'bulk': how many values and letters a reading holds, each counted each time it is reached (what is shared counts as often as it is met; a slice's spare places count too). A statement '..UptoSaid' is the law's where the arguments, and the package variables that the reading takes, are together of bulk at most 1048576: NARROWER than '..Said'. Prove '..Said' where nothing that the law and all that it calls make is longer than what came in: it says more and counts as full. Else prove '..UptoSaid'. A law counts once. -/
mutual
def uptoBulk {H : Type} : DataW H → Nat
  | .lit (.string bytes) => bytes.length + 1
  | .lit _ => 1
  | .nil => 1
  | .ptr d => uptoBulk d + 1
  | .slice elems spare => uptoBulkAll elems + uptoBulkAll spare + 1
  | .agg parts => uptoBulkAll parts + 1
  | .iface _ d => uptoBulk d + 1
  | .map entries => uptoBulkEntries entries + 1
  | .held _ => 1
def uptoBulkAll {H : Type} : List (DataW H) → Nat
  | [] => 0
  | d :: r => uptoBulk d + uptoBulkAll r
def uptoBulkEntries {H : Type} : List (Lit × DataW H) → Nat
  | [] => 0
  | x :: r => uptoBulkEntry x + uptoBulkEntries r
def uptoBulkEntry {H : Type} : Lit × DataW H → Nat
  | (.string bytes, d) => bytes.length + uptoBulk d + 1
  | (_, d) => uptoBulk d + 1
 end
def uptoSmall : (H : Type) → List (DataW H) → Bool := fun _ ds => decide (uptoBulkAll ds ≤ 1048576)
def OpenSpec.upto (s : _root_.Go.ChangeSpec) : _root_.Go.OpenSpec := { _root_.Go.OpenSpec.ofChange s with cond := some uptoSmall }

/-- 'campanilelaw21.TreeFalls', WHERE WHAT IT READS IS OF BULK AT MOST 1048576: true; the input reads as it did. -/
def treeFallsUptoRow : OpenClaim := { program := "ytfnhhnenepmpjaa", sum := "e7989967de9cb2f8f57eba7fc45c9f5370735f5b8722c5a1a879ab09aec8fb4d", func := "campanile/campanilelaw21.TreeFalls", spec := "treeFalls", unfollowed := true, recurses := true, plainKeys := false, apart := false, narrowed := true }
def TreeFallsUptoSaid : Prop := treeFallsUptoRow.holds Try.pinned (OpenSpec.upto treeFallsSpec)

/-- 'campanilelaw21.TreePaths', WHERE WHAT IT READS IS OF BULK AT MOST 1048576: true; the input reads as it did. -/
def treePathsUptoRow : OpenClaim := { program := "ytfnhhnenepmpjaa", sum := "e7989967de9cb2f8f57eba7fc45c9f5370735f5b8722c5a1a879ab09aec8fb4d", func := "campanile/campanilelaw21.TreePaths", spec := "treePaths", unfollowed := true, recurses := true, plainKeys := false, apart := false, narrowed := true }
def TreePathsUptoSaid : Prop := treePathsUptoRow.holds Try.pinned (OpenSpec.upto treePathsSpec)

/-- 'campanilelaw21.TreeNil', WHERE WHAT IT READS IS OF BULK AT MOST 1048576: true; the input reads as it did. -/
def treeNilUptoRow : OpenClaim := { program := "ytfnhhnenepmpjaa", sum := "e7989967de9cb2f8f57eba7fc45c9f5370735f5b8722c5a1a879ab09aec8fb4d", func := "campanile/campanilelaw21.TreeNil", spec := "treeNil", unfollowed := true, recurses := true, plainKeys := false, apart := false, narrowed := true }
def TreeNilUptoSaid : Prop := treeNilUptoRow.holds Try.pinned (OpenSpec.upto treeNilSpec)

/-- 'campanilelaw21.TreeForms', WHERE WHAT IT READS IS OF BULK AT MOST 1048576: true; the input reads as it did. -/
def treeFormsUptoRow : OpenClaim := { program := "ytfnhhnenepmpjaa", sum := "e7989967de9cb2f8f57eba7fc45c9f5370735f5b8722c5a1a879ab09aec8fb4d", func := "campanile/campanilelaw21.TreeForms", spec := "treeForms", unfollowed := true, recurses := true, plainKeys := false, apart := false, narrowed := true }
def TreeFormsUptoSaid : Prop := treeFormsUptoRow.holds Try.pinned (OpenSpec.upto treeFormsSpec)

/-- 'campanilelaw21.TreeChildren', WHERE WHAT IT READS IS OF BULK AT MOST 1048576: true; the input reads as it did. -/
def treeChildrenUptoRow : OpenClaim := { program := "ytfnhhnenepmpjaa", sum := "e7989967de9cb2f8f57eba7fc45c9f5370735f5b8722c5a1a879ab09aec8fb4d", func := "campanile/campanilelaw21.TreeChildren", spec := "treeChildren", unfollowed := true, recurses := true, plainKeys := false, apart := false, narrowed := true }
def TreeChildrenUptoSaid : Prop := treeChildrenUptoRow.holds Try.pinned (OpenSpec.upto treeChildrenSpec)

end Rows
end Go.Proofs.Ytfnhhnenepmpjaa
