/-
  No cell of these rows narrows 'for every input' (looked for: loops, veiled, ifaces, maps, wideKeys, modest, calm, conditions, laid).
  DERIVED. THE GIVEN ROWS OF THIS SEAT. 5 by the template 'for every input the law returns true; each argument reads behind the call as it read before'; 0 by the template 'total and deterministic' (their statements: YtocfkllpbllfhaaTotals.lean).
  GIVEN WITH THE SEED: the statements are not yours to turn. If you find one false, say at which input.
  Laid BY PROGRAM, IN A SANDBOX (cutbox-rows.mjs): the forced cells as the released guide's own fill.sh prints them over the translation effceea7f967abd2… (all of the seat's roots in one cut). By AI agents, Wed Nov 11 2026. No macro, syntax, notation, axiom, sorry.
-/
import Derived.Test.YtocfkllpbllfhaaChecked
import GoSem.Claim
import GoSem.ClaimJoined
import GoSem.ClaimMapViews
import Derived.JoinedTies
import Derived.KernelRfl
namespace Go.Proofs.Ytocfkllpbllfhaa
/- THE CELL 'sum', in the pinned program and in every row, IS THE sha256 OF THE DUMP (.gsa) THAT YtocfkllpbllfhaaProg.lean LOADS. Nothing in Lean hashes anything: it is a label: what it is worth is what the hold of that sum in a sandbox is worth. -/
noncomputable def Try.pinned : Pinned := { name := "ytocfkllpbllfhaa", sum := "effceea7f967abd2ca73328c50b9a31224f3def424267938a91751d6a1a1e172", checked := Try.checked }
namespace Rows
def none {H : Type} : Left H := { results := [], args := [] }

/-- 'campanilelaw16.NeighApart': WHATEVER THE INPUT: true; the input reads as it did. -/
def neighApartSpec : ChangeSpec := { name := "neighApart", fn := fun _ => fun
  | [d1, d2, d3] => { results := [.lit (.bool true)], args := [d1, d2, d3] }
  | _ => none }
def neighApartRow : OpenClaim := { program := "ytocfkllpbllfhaa", sum := "effceea7f967abd2ca73328c50b9a31224f3def424267938a91751d6a1a1e172", func := "campanile/campanilelaw16.NeighApart", spec := "neighApart", unfollowed := true, recurses := true, apart := false }
def NeighApartSaid : Prop := neighApartRow.holds Try.pinned (OpenSpec.ofChange neighApartSpec)

/-- ITS FALSE NEIGHBOUR: 'it returns false'. Refute it at one input. -/
def neighApartWrong : ChangeSpec := { name := "neighApart", fn := fun _ => fun
  | [d1, d2, d3] => { results := [.lit (.bool false)], args := [d1, d2, d3] }
  | _ => none }
def NeighApartWrongFalsely : Prop := neighApartRow.holds Try.pinned (OpenSpec.ofChange neighApartWrong)

/-- 'campanilelaw16.NeighPlays': WHATEVER THE INPUT: true; the input reads as it did. -/
def neighPlaysSpec : ChangeSpec := { name := "neighPlays", fn := fun _ => fun
  | [d1, d2, d3, d4] => { results := [.lit (.bool true)], args := [d1, d2, d3, d4] }
  | _ => none }
def neighPlaysRow : OpenClaim := { program := "ytocfkllpbllfhaa", sum := "effceea7f967abd2ca73328c50b9a31224f3def424267938a91751d6a1a1e172", func := "campanile/campanilelaw16.NeighPlays", spec := "neighPlays", unfollowed := true, recurses := true, apart := false }
def NeighPlaysSaid : Prop := neighPlaysRow.holds Try.pinned (OpenSpec.ofChange neighPlaysSpec)

/-- ITS FALSE NEIGHBOUR: 'it returns false'. Refute it at one input. -/
def neighPlaysWrong : ChangeSpec := { name := "neighPlays", fn := fun _ => fun
  | [d1, d2, d3, d4] => { results := [.lit (.bool false)], args := [d1, d2, d3, d4] }
  | _ => none }
def NeighPlaysWrongFalsely : Prop := neighPlaysRow.holds Try.pinned (OpenSpec.ofChange neighPlaysWrong)

/-- 'campanilelaw16.NeighNil': WHATEVER THE INPUT: true; the input reads as it did. -/
def neighNilSpec : ChangeSpec := { name := "neighNil", fn := fun _ => fun
  | [d1, d2, d3] => { results := [.lit (.bool true)], args := [d1, d2, d3] }
  | _ => none }
def neighNilRow : OpenClaim := { program := "ytocfkllpbllfhaa", sum := "effceea7f967abd2ca73328c50b9a31224f3def424267938a91751d6a1a1e172", func := "campanile/campanilelaw16.NeighNil", spec := "neighNil", unfollowed := true, recurses := true, apart := false }
def NeighNilSaid : Prop := neighNilRow.holds Try.pinned (OpenSpec.ofChange neighNilSpec)

/-- ITS FALSE NEIGHBOUR: 'it returns false'. Refute it at one input. -/
def neighNilWrong : ChangeSpec := { name := "neighNil", fn := fun _ => fun
  | [d1, d2, d3] => { results := [.lit (.bool false)], args := [d1, d2, d3] }
  | _ => none }
def NeighNilWrongFalsely : Prop := neighNilRow.holds Try.pinned (OpenSpec.ofChange neighNilWrong)

/-- 'campanilelaw16.NeighFades': WHATEVER THE INPUT: true; the input reads as it did. -/
def neighFadesSpec : ChangeSpec := { name := "neighFades", fn := fun _ => fun
  | [d1, d2] => { results := [.lit (.bool true)], args := [d1, d2] }
  | _ => none }
def neighFadesRow : OpenClaim := { program := "ytocfkllpbllfhaa", sum := "effceea7f967abd2ca73328c50b9a31224f3def424267938a91751d6a1a1e172", func := "campanile/campanilelaw16.NeighFades", spec := "neighFades", unfollowed := true, recurses := true, apart := false }
def NeighFadesSaid : Prop := neighFadesRow.holds Try.pinned (OpenSpec.ofChange neighFadesSpec)

/-- ITS FALSE NEIGHBOUR: 'it returns false'. Refute it at one input. -/
def neighFadesWrong : ChangeSpec := { name := "neighFades", fn := fun _ => fun
  | [d1, d2] => { results := [.lit (.bool false)], args := [d1, d2] }
  | _ => none }
def NeighFadesWrongFalsely : Prop := neighFadesRow.holds Try.pinned (OpenSpec.ofChange neighFadesWrong)

/-- 'campanilelaw16.NeighReports': WHATEVER THE INPUT: true; the input reads as it did. -/
def neighReportsSpec : ChangeSpec := { name := "neighReports", fn := fun _ => fun
  | [d1, d2, d3] => { results := [.lit (.bool true)], args := [d1, d2, d3] }
  | _ => none }
def neighReportsRow : OpenClaim := { program := "ytocfkllpbllfhaa", sum := "effceea7f967abd2ca73328c50b9a31224f3def424267938a91751d6a1a1e172", func := "campanile/campanilelaw16.NeighReports", spec := "neighReports", unfollowed := true, recurses := true, apart := false }
def NeighReportsSaid : Prop := neighReportsRow.holds Try.pinned (OpenSpec.ofChange neighReportsSpec)

/-- ITS FALSE NEIGHBOUR: 'it returns false'. Refute it at one input. -/
def neighReportsWrong : ChangeSpec := { name := "neighReports", fn := fun _ => fun
  | [d1, d2, d3] => { results := [.lit (.bool false)], args := [d1, d2, d3] }
  | _ => none }
def NeighReportsWrongFalsely : Prop := neighReportsRow.holds Try.pinned (OpenSpec.ofChange neighReportsWrong)

/- THE SECOND FORM. 'bulk': how many values and letters a reading holds, each counted each time it is reached (what is shared counts as often as it is met; a slice's spare places count too). A statement '..UptoSaid' is the law's where the arguments, and the package variables that the reading takes, are together of bulk at most 1048576: NARROWER than '..Said'. Prove '..Said' where nothing that the law and all that it calls make is longer than what came in: it says more and counts as full. Else prove '..UptoSaid'. A law counts once. -/
mutual
def uptoBulk {H : Type} : DataW H → Nat
  | .lit (.string bytes) => bytes.length + 1
  | .lit _ => 1
  | .nil => 1
  | .ptr d => uptoBulk d + 1
  | .slice elems spare => uptoBulkAll elems + uptoBulkAll spare + 1
  | .agg parts => uptoBulkAll parts + 1
  | .iface _ d => uptoBulk d + 1
  | .map entries => uptoBulkEntries entries + 1
  | .held _ => 1
def uptoBulkAll {H : Type} : List (DataW H) → Nat
  | [] => 0
  | d :: r => uptoBulk d + uptoBulkAll r
def uptoBulkEntries {H : Type} : List (Lit × DataW H) → Nat
  | [] => 0
  | x :: r => uptoBulkEntry x + uptoBulkEntries r
def uptoBulkEntry {H : Type} : Lit × DataW H → Nat
  | (.string bytes, d) => bytes.length + uptoBulk d + 1
  | (_, d) => uptoBulk d + 1
 end
def uptoSmall : (H : Type) → List (DataW H) → Bool := fun _ ds => decide (uptoBulkAll ds ≤ 1048576)
def OpenSpec.upto (s : _root_.Go.ChangeSpec) : _root_.Go.OpenSpec := { _root_.Go.OpenSpec.ofChange s with cond := some uptoSmall }

/-- 'campanilelaw16.NeighApart', WHERE WHAT IT READS IS OF BULK AT MOST 1048576: true; the input reads as it did. -/
def neighApartUptoRow : OpenClaim := { program := "ytocfkllpbllfhaa", sum := "effceea7f967abd2ca73328c50b9a31224f3def424267938a91751d6a1a1e172", func := "campanile/campanilelaw16.NeighApart", spec := "neighApart", unfollowed := true, recurses := true, apart := false, narrowed := true }
def NeighApartUptoSaid : Prop := neighApartUptoRow.holds Try.pinned (OpenSpec.upto neighApartSpec)

/-- 'campanilelaw16.NeighPlays', WHERE WHAT IT READS IS OF BULK AT MOST 1048576: true; the input reads as it did. -/
def neighPlaysUptoRow : OpenClaim := { program := "ytocfkllpbllfhaa", sum := "effceea7f967abd2ca73328c50b9a31224f3def424267938a91751d6a1a1e172", func := "campanile/campanilelaw16.NeighPlays", spec := "neighPlays", unfollowed := true, recurses := true, apart := false, narrowed := true }
def NeighPlaysUptoSaid : Prop := neighPlaysUptoRow.holds Try.pinned (OpenSpec.upto neighPlaysSpec)

/-- 'campanilelaw16.NeighNil', WHERE WHAT IT READS IS OF BULK AT MOST 1048576: true; the input reads as it did. -/
def neighNilUptoRow : OpenClaim := { program := "ytocfkllpbllfhaa", sum := "effceea7f967abd2ca73328c50b9a31224f3def424267938a91751d6a1a1e172", func := "campanile/campanilelaw16.NeighNil", spec := "neighNil", unfollowed := true, recurses := true, apart := false, narrowed := true }
def NeighNilUptoSaid : Prop := neighNilUptoRow.holds Try.pinned (OpenSpec.upto neighNilSpec)

/-- 'campanilelaw16.NeighFades', WHERE WHAT IT READS IS OF BULK AT MOST 1048576: true; the input reads as it did. -/
def neighFadesUptoRow : OpenClaim := { program := "ytocfkllpbllfhaa", sum := "effceea7f967abd2ca73328c50b9a31224f3def424267938a91751d6a1a1e172", func := "campanile/campanilelaw16.NeighFades", spec := "neighFades", unfollowed := true, recurses := true, apart := false, narrowed := true }
def NeighFadesUptoSaid : Prop := neighFadesUptoRow.holds Try.pinned (OpenSpec.upto neighFadesSpec)

/-- 'campanilelaw16.NeighReports', WHERE WHAT IT READS IS OF BULK AT MOST 1048576: true; the input reads as it did. -/
def neighReportsUptoRow : OpenClaim := { program := "ytocfkllpbllfhaa", sum := "effceea7f967abd2ca73328c50b9a31224f3def424267938a91751d6a1a1e172", func := "campanile/campanilelaw16.NeighReports", spec := "neighReports", unfollowed := true, recurses := true, apart := false, narrowed := true }
def NeighReportsUptoSaid : Prop := neighReportsUptoRow.holds Try.pinned (OpenSpec.upto neighReportsSpec)

end Rows
end Go.Proofs.Ytocfkllpbllfhaa
