/-
  No cell of these rows narrows 'for every input' (looked for: loops, veiled, ifaces, maps, wideKeys, modest, calm, conditions, laid).
  DERIVED. THE GIVEN ROWS OF THIS SEAT. 4 by the template 'for every input the law returns true; each argument reads behind the call as it read before'; 0 by the template 'total and deterministic' (their statements: YtjcbeikfobfjmaaGreatTotals.lean).
  GIVEN WITH THE SEED: the statements are not yours to turn. If you find one false, say at which input.
  Laid BY PROGRAM, IN A SANDBOX (cutbox-rows.mjs): the forced cells as the released guide's own fill.sh prints them over the translation 946fc40a955903c9… (all of the seat's roots in one cut). By AI agents, Wed Nov 11 2026. No macro, syntax, notation, axiom, sorry.
-/
import Derived.Test.YtjcbeikfobfjmaaGreatChecked
import GoSem.Claim
import GoSem.ClaimJoined
import GoSem.ClaimMapViews
import Derived.JoinedTies
import Derived.KernelRfl
namespace Go.Proofs.YtjcbeikfobfjmaaGreat
/- THE CELL 'sum', in the pinned program and in every row, IS THE sha256 OF THE DUMP (.gsa) THAT YtjcbeikfobfjmaaGreatProg.lean LOADS. Nothing in Lean hashes anything: it is a label: what it is worth is what the hold of that sum in a sandbox is worth. -/
noncomputable def Tryz.pinned : Pinned := { name := "ytjcbeikfobfjmaagreat", sum := "946fc40a955903c9b90dfdbe5f8592326523d09ef46a424d442a13d4b53092c0", checked := Tryz.checked }
namespace Rows
def none {H : Type} : Left H := { results := [], args := [] }

/-- 'campanilelaw24.NodeNumbers': WHATEVER THE INPUT: true; the input reads as it did. -/
def nodeNumbersSpec : ChangeSpec := { name := "nodeNumbers", fn := fun _ => fun
  | [d1, d2] => { results := [.lit (.bool true)], args := [d1, d2] }
  | _ => none }
def nodeNumbersRow : OpenClaim := { program := "ytjcbeikfobfjmaagreat", sum := "946fc40a955903c9b90dfdbe5f8592326523d09ef46a424d442a13d4b53092c0", func := "campanile/campanilelaw24.NodeNumbers", spec := "nodeNumbers", unfollowed := true, recurses := true, apart := false }
def NodeNumbersSaid : Prop := nodeNumbersRow.holds Tryz.pinned (OpenSpec.ofChange nodeNumbersSpec)

/-- ITS FALSE NEIGHBOUR: 'it returns false'. Refute it at one input. -/
def nodeNumbersWrong : ChangeSpec := { name := "nodeNumbers", fn := fun _ => fun
  | [d1, d2] => { results := [.lit (.bool false)], args := [d1, d2] }
  | _ => none }
def NodeNumbersWrongFalsely : Prop := nodeNumbersRow.holds Tryz.pinned (OpenSpec.ofChange nodeNumbersWrong)

/-- 'campanilelaw24.NodeTries': WHATEVER THE INPUT: true; the input reads as it did. -/
def nodeTriesSpec : ChangeSpec := { name := "nodeTries", fn := fun _ => fun
  | [d1, d2] => { results := [.lit (.bool true)], args := [d1, d2] }
  | _ => none }
def nodeTriesRow : OpenClaim := { program := "ytjcbeikfobfjmaagreat", sum := "946fc40a955903c9b90dfdbe5f8592326523d09ef46a424d442a13d4b53092c0", func := "campanile/campanilelaw24.NodeTries", spec := "nodeTries", unfollowed := true, recurses := true, apart := false }
def NodeTriesSaid : Prop := nodeTriesRow.holds Tryz.pinned (OpenSpec.ofChange nodeTriesSpec)

/-- ITS FALSE NEIGHBOUR: 'it returns false'. Refute it at one input. -/
def nodeTriesWrong : ChangeSpec := { name := "nodeTries", fn := fun _ => fun
  | [d1, d2] => { results := [.lit (.bool false)], args := [d1, d2] }
  | _ => none }
def NodeTriesWrongFalsely : Prop := nodeTriesRow.holds Tryz.pinned (OpenSpec.ofChange nodeTriesWrong)

/-- 'campanilelaw24.NodeLoses': WHATEVER THE INPUT: true; the input reads as it did. -/
def nodeLosesSpec : ChangeSpec := { name := "nodeLoses", fn := fun _ => fun
  | [d1, d2, d3, d4] => { results := [.lit (.bool true)], args := [d1, d2, d3, d4] }
  | _ => none }
def nodeLosesRow : OpenClaim := { program := "ytjcbeikfobfjmaagreat", sum := "946fc40a955903c9b90dfdbe5f8592326523d09ef46a424d442a13d4b53092c0", func := "campanile/campanilelaw24.NodeLoses", spec := "nodeLoses", unfollowed := true, recurses := true, apart := false }
def NodeLosesSaid : Prop := nodeLosesRow.holds Tryz.pinned (OpenSpec.ofChange nodeLosesSpec)

/-- ITS FALSE NEIGHBOUR: 'it returns false'. Refute it at one input. -/
def nodeLosesWrong : ChangeSpec := { name := "nodeLoses", fn := fun _ => fun
  | [d1, d2, d3, d4] => { results := [.lit (.bool false)], args := [d1, d2, d3, d4] }
  | _ => none }
def NodeLosesWrongFalsely : Prop := nodeLosesRow.holds Tryz.pinned (OpenSpec.ofChange nodeLosesWrong)

/-- 'campanilelaw24.NodeRank': WHATEVER THE INPUT: true; the input reads as it did. -/
def nodeRankSpec : ChangeSpec := { name := "nodeRank", fn := fun _ => fun
  | [d1, d2, d3] => { results := [.lit (.bool true)], args := [d1, d2, d3] }
  | _ => none }
def nodeRankRow : OpenClaim := { program := "ytjcbeikfobfjmaagreat", sum := "946fc40a955903c9b90dfdbe5f8592326523d09ef46a424d442a13d4b53092c0", func := "campanile/campanilelaw24.NodeRank", spec := "nodeRank", unfollowed := true, recurses := true, apart := false }
def NodeRankSaid : Prop := nodeRankRow.holds Tryz.pinned (OpenSpec.ofChange nodeRankSpec)

/-- ITS FALSE NEIGHBOUR: 'it returns false'. Refute it at one input. -/
def nodeRankWrong : ChangeSpec := { name := "nodeRank", fn := fun _ => fun
  | [d1, d2, d3] => { results := [.lit (.bool false)], args := [d1, d2, d3] }
  | _ => none }
def NodeRankWrongFalsely : Prop := nodeRankRow.holds Tryz.pinned (OpenSpec.ofChange nodeRankWrong)

/- THE SECOND FORM. 'bulk': how many values and letters a reading holds, each counted each time it is reached (what is shared counts as often as it is met; a slice's spare places count too). A statement '..UptoSaid' is the law's where the arguments, and the package variables that the reading takes, are together of bulk at most 1048576: NARROWER than '..Said'. Prove '..Said' where nothing that the law and all that it calls make is longer than what came in: it says more and counts as full. Else prove '..UptoSaid'. A law counts once. -/
mutual
def uptoBulk {H : Type} : DataW H → Nat
  | .lit (.string bytes) => bytes.length + 1
  | .lit _ => 1
  | .nil => 1
  | .ptr d => uptoBulk d + 1
  | .slice elems spare => uptoBulkAll elems + uptoBulkAll spare + 1
  | .agg parts => uptoBulkAll parts + 1
  | .iface _ d => uptoBulk d + 1
  | .map entries => uptoBulkEntries entries + 1
  | .held _ => 1
def uptoBulkAll {H : Type} : List (DataW H) → Nat
  | [] => 0
  | d :: r => uptoBulk d + uptoBulkAll r
def uptoBulkEntries {H : Type} : List (Lit × DataW H) → Nat
  | [] => 0
  | x :: r => uptoBulkEntry x + uptoBulkEntries r
def uptoBulkEntry {H : Type} : Lit × DataW H → Nat
  | (.string bytes, d) => bytes.length + uptoBulk d + 1
  | (_, d) => uptoBulk d + 1
 end
def uptoSmall : (H : Type) → List (DataW H) → Bool := fun _ ds => decide (uptoBulkAll ds ≤ 1048576)
def OpenSpec.upto (s : _root_.Go.ChangeSpec) : _root_.Go.OpenSpec := { _root_.Go.OpenSpec.ofChange s with cond := some uptoSmall }

/-- 'campanilelaw24.NodeNumbers', WHERE WHAT IT READS IS OF BULK AT MOST 1048576: true; the input reads as it did. -/
def nodeNumbersUptoRow : OpenClaim := { program := "ytjcbeikfobfjmaagreat", sum := "946fc40a955903c9b90dfdbe5f8592326523d09ef46a424d442a13d4b53092c0", func := "campanile/campanilelaw24.NodeNumbers", spec := "nodeNumbers", unfollowed := true, recurses := true, apart := false, narrowed := true }
def NodeNumbersUptoSaid : Prop := nodeNumbersUptoRow.holds Tryz.pinned (OpenSpec.upto nodeNumbersSpec)

/-- 'campanilelaw24.NodeTries', WHERE WHAT IT READS IS OF BULK AT MOST 1048576: true; the input reads as it did. -/
def nodeTriesUptoRow : OpenClaim := { program := "ytjcbeikfobfjmaagreat", sum := "946fc40a955903c9b90dfdbe5f8592326523d09ef46a424d442a13d4b53092c0", func := "campanile/campanilelaw24.NodeTries", spec := "nodeTries", unfollowed := true, recurses := true, apart := false, narrowed := true }
def NodeTriesUptoSaid : Prop := nodeTriesUptoRow.holds Tryz.pinned (OpenSpec.upto nodeTriesSpec)

/-- 'campanilelaw24.NodeLoses', WHERE WHAT IT READS IS OF BULK AT MOST 1048576: true; the input reads as it did. -/
def nodeLosesUptoRow : OpenClaim := { program := "ytjcbeikfobfjmaagreat", sum := "946fc40a955903c9b90dfdbe5f8592326523d09ef46a424d442a13d4b53092c0", func := "campanile/campanilelaw24.NodeLoses", spec := "nodeLoses", unfollowed := true, recurses := true, apart := false, narrowed := true }
def NodeLosesUptoSaid : Prop := nodeLosesUptoRow.holds Tryz.pinned (OpenSpec.upto nodeLosesSpec)

/-- 'campanilelaw24.NodeRank', WHERE WHAT IT READS IS OF BULK AT MOST 1048576: true; the input reads as it did. -/
def nodeRankUptoRow : OpenClaim := { program := "ytjcbeikfobfjmaagreat", sum := "946fc40a955903c9b90dfdbe5f8592326523d09ef46a424d442a13d4b53092c0", func := "campanile/campanilelaw24.NodeRank", spec := "nodeRank", unfollowed := true, recurses := true, apart := false, narrowed := true }
def NodeRankUptoSaid : Prop := nodeRankUptoRow.holds Tryz.pinned (OpenSpec.upto nodeRankSpec)

end Rows
end Go.Proofs.YtjcbeikfobfjmaaGreat
