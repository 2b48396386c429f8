/-
  No cell of these rows narrows 'for every input' (looked for: loops, veiled, ifaces, maps, wideKeys, modest, calm, conditions, laid).
  DERIVED. THE GIVEN ROWS OF THIS SEAT. 4 by the template 'for every input the law returns true; each argument reads behind the call as it read before'; 0 by the template 'total and deterministic' (their statements: YtljcbkebdbenbaaTotals.lean).
  GIVEN WITH THE SEED: the statements are not yours to turn. If you find one false, say at which input.
  Laid BY PROGRAM, IN A SANDBOX (cutbox-rows.mjs): the forced cells as the released guide's own fill.sh prints them over the translation a56f9fe950b02574… (all of the seat's roots in one cut). By AI agents, Wed Nov 11 2026. No macro, syntax, notation, axiom, sorry.
-/
import Derived.Test.YtljcbkebdbenbaaChecked
import GoSem.Claim
import GoSem.ClaimJoined
import GoSem.ClaimMapViews
import Derived.JoinedTies
import Derived.KernelRfl
namespace Go.Proofs.Ytljcbkebdbenbaa
/- THE CELL 'sum', in the pinned program and in every row, IS THE sha256 OF THE DUMP (.gsa) THAT YtljcbkebdbenbaaProg.lean LOADS. Nothing in Lean hashes anything: it is a label: what it is worth is what the hold of that sum in a sandbox is worth. -/
noncomputable def Try.pinned : Pinned := { name := "ytljcbkebdbenbaa", sum := "a56f9fe950b025747e80c525b87cd2a44dfb2bd9ed25b5233d31f10caa0d7a94", checked := Try.checked }
namespace Rows
def none {H : Type} : Left H := { results := [], args := [] }

/-- 'campanilelaw23.VersionPlays': WHATEVER THE INPUT: true; the input reads as it did. -/
def versionPlaysSpec : ChangeSpec := { name := "versionPlays", fn := fun _ => fun
  | [d1, d2] => { results := [.lit (.bool true)], args := [d1, d2] }
  | _ => none }
def versionPlaysRow : OpenClaim := { program := "ytljcbkebdbenbaa", sum := "a56f9fe950b025747e80c525b87cd2a44dfb2bd9ed25b5233d31f10caa0d7a94", func := "campanile/campanilelaw23.VersionPlays", spec := "versionPlays", unfollowed := true, recurses := true, apart := false }
def VersionPlaysSaid : Prop := versionPlaysRow.holds Try.pinned (OpenSpec.ofChange versionPlaysSpec)

/-- ITS FALSE NEIGHBOUR: 'it returns false'. Refute it at one input. -/
def versionPlaysWrong : ChangeSpec := { name := "versionPlays", fn := fun _ => fun
  | [d1, d2] => { results := [.lit (.bool false)], args := [d1, d2] }
  | _ => none }
def VersionPlaysWrongFalsely : Prop := versionPlaysRow.holds Try.pinned (OpenSpec.ofChange versionPlaysWrong)

/-- 'campanilelaw23.VersionAll': WHATEVER THE INPUT: true; the input reads as it did. -/
def versionAllSpec : ChangeSpec := { name := "versionAll", fn := fun _ => fun
  | [d1, d2, d3] => { results := [.lit (.bool true)], args := [d1, d2, d3] }
  | _ => none }
def versionAllRow : OpenClaim := { program := "ytljcbkebdbenbaa", sum := "a56f9fe950b025747e80c525b87cd2a44dfb2bd9ed25b5233d31f10caa0d7a94", func := "campanile/campanilelaw23.VersionAll", spec := "versionAll", unfollowed := true, recurses := true, apart := false }
def VersionAllSaid : Prop := versionAllRow.holds Try.pinned (OpenSpec.ofChange versionAllSpec)

/-- ITS FALSE NEIGHBOUR: 'it returns false'. Refute it at one input. -/
def versionAllWrong : ChangeSpec := { name := "versionAll", fn := fun _ => fun
  | [d1, d2, d3] => { results := [.lit (.bool false)], args := [d1, d2, d3] }
  | _ => none }
def VersionAllWrongFalsely : Prop := versionAllRow.holds Try.pinned (OpenSpec.ofChange versionAllWrong)

/-- 'campanilelaw23.VersionNil': WHATEVER THE INPUT: true; the input reads as it did. -/
def versionNilSpec : ChangeSpec := { name := "versionNil", fn := fun _ => fun
  | [d1, d2] => { results := [.lit (.bool true)], args := [d1, d2] }
  | _ => none }
def versionNilRow : OpenClaim := { program := "ytljcbkebdbenbaa", sum := "a56f9fe950b025747e80c525b87cd2a44dfb2bd9ed25b5233d31f10caa0d7a94", func := "campanile/campanilelaw23.VersionNil", spec := "versionNil", unfollowed := true, recurses := true, apart := false }
def VersionNilSaid : Prop := versionNilRow.holds Try.pinned (OpenSpec.ofChange versionNilSpec)

/-- ITS FALSE NEIGHBOUR: 'it returns false'. Refute it at one input. -/
def versionNilWrong : ChangeSpec := { name := "versionNil", fn := fun _ => fun
  | [d1, d2] => { results := [.lit (.bool false)], args := [d1, d2] }
  | _ => none }
def VersionNilWrongFalsely : Prop := versionNilRow.holds Try.pinned (OpenSpec.ofChange versionNilWrong)

/-- 'campanilelaw23.VersionTwo': WHATEVER THE INPUT: true; the input reads as it did. -/
def versionTwoSpec : ChangeSpec := { name := "versionTwo", fn := fun _ => fun
  | [d1, d2] => { results := [.lit (.bool true)], args := [d1, d2] }
  | _ => none }
def versionTwoRow : OpenClaim := { program := "ytljcbkebdbenbaa", sum := "a56f9fe950b025747e80c525b87cd2a44dfb2bd9ed25b5233d31f10caa0d7a94", func := "campanile/campanilelaw23.VersionTwo", spec := "versionTwo", unfollowed := true, recurses := true, apart := false }
def VersionTwoSaid : Prop := versionTwoRow.holds Try.pinned (OpenSpec.ofChange versionTwoSpec)

/-- ITS FALSE NEIGHBOUR: 'it returns false'. Refute it at one input. -/
def versionTwoWrong : ChangeSpec := { name := "versionTwo", fn := fun _ => fun
  | [d1, d2] => { results := [.lit (.bool false)], args := [d1, d2] }
  | _ => none }
def VersionTwoWrongFalsely : Prop := versionTwoRow.holds Try.pinned (OpenSpec.ofChange versionTwoWrong)

/- THE SECOND FORM. 'bulk': how many values and letters a reading holds, each counted each time it is reached (what is shared counts as often as it is met; a slice's spare places count too). A statement '..UptoSaid' is the law's where the arguments, and the package variables that the reading takes, are together of bulk at most 1048576: NARROWER than '..Said'. Prove '..Said' where nothing that the law and all that it calls make is longer than what came in: it says more and counts as full. Else prove '..UptoSaid'. A law counts once. -/
mutual
def uptoBulk {H : Type} : DataW H → Nat
  | .lit (.string bytes) => bytes.length + 1
  | .lit _ => 1
  | .nil => 1
  | .ptr d => uptoBulk d + 1
  | .slice elems spare => uptoBulkAll elems + uptoBulkAll spare + 1
  | .agg parts => uptoBulkAll parts + 1
  | .iface _ d => uptoBulk d + 1
  | .map entries => uptoBulkEntries entries + 1
  | .held _ => 1
def uptoBulkAll {H : Type} : List (DataW H) → Nat
  | [] => 0
  | d :: r => uptoBulk d + uptoBulkAll r
def uptoBulkEntries {H : Type} : List (Lit × DataW H) → Nat
  | [] => 0
  | x :: r => uptoBulkEntry x + uptoBulkEntries r
def uptoBulkEntry {H : Type} : Lit × DataW H → Nat
  | (.string bytes, d) => bytes.length + uptoBulk d + 1
  | (_, d) => uptoBulk d + 1
 end
def uptoSmall : (H : Type) → List (DataW H) → Bool := fun _ ds => decide (uptoBulkAll ds ≤ 1048576)
def OpenSpec.upto (s : _root_.Go.ChangeSpec) : _root_.Go.OpenSpec := { _root_.Go.OpenSpec.ofChange s with cond := some uptoSmall }

/-- 'campanilelaw23.VersionPlays', WHERE WHAT IT READS IS OF BULK AT MOST 1048576: true; the input reads as it did. -/
def versionPlaysUptoRow : OpenClaim := { program := "ytljcbkebdbenbaa", sum := "a56f9fe950b025747e80c525b87cd2a44dfb2bd9ed25b5233d31f10caa0d7a94", func := "campanile/campanilelaw23.VersionPlays", spec := "versionPlays", unfollowed := true, recurses := true, apart := false, narrowed := true }
def VersionPlaysUptoSaid : Prop := versionPlaysUptoRow.holds Try.pinned (OpenSpec.upto versionPlaysSpec)

/-- 'campanilelaw23.VersionAll', WHERE WHAT IT READS IS OF BULK AT MOST 1048576: true; the input reads as it did. -/
def versionAllUptoRow : OpenClaim := { program := "ytljcbkebdbenbaa", sum := "a56f9fe950b025747e80c525b87cd2a44dfb2bd9ed25b5233d31f10caa0d7a94", func := "campanile/campanilelaw23.VersionAll", spec := "versionAll", unfollowed := true, recurses := true, apart := false, narrowed := true }
def VersionAllUptoSaid : Prop := versionAllUptoRow.holds Try.pinned (OpenSpec.upto versionAllSpec)

/-- 'campanilelaw23.VersionNil', WHERE WHAT IT READS IS OF BULK AT MOST 1048576: true; the input reads as it did. -/
def versionNilUptoRow : OpenClaim := { program := "ytljcbkebdbenbaa", sum := "a56f9fe950b025747e80c525b87cd2a44dfb2bd9ed25b5233d31f10caa0d7a94", func := "campanile/campanilelaw23.VersionNil", spec := "versionNil", unfollowed := true, recurses := true, apart := false, narrowed := true }
def VersionNilUptoSaid : Prop := versionNilUptoRow.holds Try.pinned (OpenSpec.upto versionNilSpec)

/-- 'campanilelaw23.VersionTwo', WHERE WHAT IT READS IS OF BULK AT MOST 1048576: true; the input reads as it did. -/
def versionTwoUptoRow : OpenClaim := { program := "ytljcbkebdbenbaa", sum := "a56f9fe950b025747e80c525b87cd2a44dfb2bd9ed25b5233d31f10caa0d7a94", func := "campanile/campanilelaw23.VersionTwo", spec := "versionTwo", unfollowed := true, recurses := true, apart := false, narrowed := true }
def VersionTwoUptoSaid : Prop := versionTwoUptoRow.holds Try.pinned (OpenSpec.upto versionTwoSpec)

end Rows
end Go.Proofs.Ytljcbkebdbenbaa
