/-
  No cell of these rows narrows 'for every input' (looked for: loops, veiled, ifaces, maps, wideKeys, modest, calm, conditions, laid).
  DERIVED. THE GIVEN ROWS OF THIS SEAT. 5 by the template 'for every input the law returns true; each argument reads behind the call as it read before'; 0 by the template 'total and deterministic' (their statements: YthmolhkfodhagaaTotals.lean).
  GIVEN WITH THE SEED: the statements are not yours to turn. If you find one false, say at which input.
  Laid BY PROGRAM, IN A SANDBOX (cutbox-rows.mjs): the forced cells as the released guide's own fill.sh prints them over the translation b39dc0b417b81cc3… (all of the seat's roots in one cut). By AI agents, Wed Nov 11 2026. No macro, syntax, notation, axiom, sorry.
-/
import Derived.Test.YthmolhkfodhagaaChecked
import GoSem.Claim
import GoSem.ClaimJoined
import GoSem.ClaimMapViews
import Derived.JoinedTies
import Derived.KernelRfl
namespace Go.Proofs.Ythmolhkfodhagaa
/- THE CELL 'sum', in the pinned program and in every row, IS THE sha256 OF THE DUMP (.gsa) THAT YthmolhkfodhagaaProg.lean LOADS. Nothing in Lean hashes anything: it is a label: what it is worth is what the hold of that sum in a sandbox is worth. -/
noncomputable def Try.pinned : Pinned := { name := "ythmolhkfodhagaa", sum := "b39dc0b417b81cc3898561df57e2a6038ba7b83490a88a52d806ccec707d879d", checked := Try.checked }
namespace Rows
def none {H : Type} : Left H := { results := [], args := [] }

/-- 'campanilelaw22.AllocForms': WHATEVER THE INPUT: true; the input reads as it did. -/
def allocFormsSpec : ChangeSpec := { name := "allocForms", fn := fun _ => fun
  | [d1, d2, d3, d4, d5] => { results := [.lit (.bool true)], args := [d1, d2, d3, d4, d5] }
  | _ => none }
def allocFormsRow : OpenClaim := { program := "ythmolhkfodhagaa", sum := "b39dc0b417b81cc3898561df57e2a6038ba7b83490a88a52d806ccec707d879d", func := "campanile/campanilelaw22.AllocForms", spec := "allocForms", unfollowed := true, recurses := true, plainKeys := false, apart := false }
def AllocFormsSaid : Prop := allocFormsRow.holds Try.pinned (OpenSpec.ofChange allocFormsSpec)

/-- ITS FALSE NEIGHBOUR: 'it returns false'. Refute it at one input. -/
def allocFormsWrong : ChangeSpec := { name := "allocForms", fn := fun _ => fun
  | [d1, d2, d3, d4, d5] => { results := [.lit (.bool false)], args := [d1, d2, d3, d4, d5] }
  | _ => none }
def AllocFormsWrongFalsely : Prop := allocFormsRow.holds Try.pinned (OpenSpec.ofChange allocFormsWrong)

/-- 'campanilelaw22.AllocBoth': WHATEVER THE INPUT: true; the input reads as it did. -/
def allocBothSpec : ChangeSpec := { name := "allocBoth", fn := fun _ => fun
  | [d1, d2, d3, d4] => { results := [.lit (.bool true)], args := [d1, d2, d3, d4] }
  | _ => none }
def allocBothRow : OpenClaim := { program := "ythmolhkfodhagaa", sum := "b39dc0b417b81cc3898561df57e2a6038ba7b83490a88a52d806ccec707d879d", func := "campanile/campanilelaw22.AllocBoth", spec := "allocBoth", unfollowed := true, recurses := true, plainKeys := false, apart := false }
def AllocBothSaid : Prop := allocBothRow.holds Try.pinned (OpenSpec.ofChange allocBothSpec)

/-- ITS FALSE NEIGHBOUR: 'it returns false'. Refute it at one input. -/
def allocBothWrong : ChangeSpec := { name := "allocBoth", fn := fun _ => fun
  | [d1, d2, d3, d4] => { results := [.lit (.bool false)], args := [d1, d2, d3, d4] }
  | _ => none }
def AllocBothWrongFalsely : Prop := allocBothRow.holds Try.pinned (OpenSpec.ofChange allocBothWrong)

/-- 'campanilelaw22.AllocDeals': WHATEVER THE INPUT: true; the input reads as it did. -/
def allocDealsSpec : ChangeSpec := { name := "allocDeals", fn := fun _ => fun
  | [d1, d2, d3, d4, d5, d6] => { results := [.lit (.bool true)], args := [d1, d2, d3, d4, d5, d6] }
  | _ => none }
def allocDealsRow : OpenClaim := { program := "ythmolhkfodhagaa", sum := "b39dc0b417b81cc3898561df57e2a6038ba7b83490a88a52d806ccec707d879d", func := "campanile/campanilelaw22.AllocDeals", spec := "allocDeals", unfollowed := true, recurses := true, plainKeys := false, apart := false }
def AllocDealsSaid : Prop := allocDealsRow.holds Try.pinned (OpenSpec.ofChange allocDealsSpec)

/-- ITS FALSE NEIGHBOUR: 'it returns false'. Refute it at one input. -/
def allocDealsWrong : ChangeSpec := { name := "allocDeals", fn := fun _ => fun
  | [d1, d2, d3, d4, d5, d6] => { results := [.lit (.bool false)], args := [d1, d2, d3, d4, d5, d6] }
  | _ => none }
def AllocDealsWrongFalsely : Prop := allocDealsRow.holds Try.pinned (OpenSpec.ofChange allocDealsWrong)

/-- 'campanilelaw22.AllocClean': WHATEVER THE INPUT: true; the input reads as it did. -/
def allocCleanSpec : ChangeSpec := { name := "allocClean", fn := fun _ => fun
  | [d1, d2, d3, d4, d5] => { results := [.lit (.bool true)], args := [d1, d2, d3, d4, d5] }
  | _ => none }
def allocCleanRow : OpenClaim := { program := "ythmolhkfodhagaa", sum := "b39dc0b417b81cc3898561df57e2a6038ba7b83490a88a52d806ccec707d879d", func := "campanile/campanilelaw22.AllocClean", spec := "allocClean", unfollowed := true, recurses := true, plainKeys := false, apart := false }
def AllocCleanSaid : Prop := allocCleanRow.holds Try.pinned (OpenSpec.ofChange allocCleanSpec)

/-- ITS FALSE NEIGHBOUR: 'it returns false'. Refute it at one input. -/
def allocCleanWrong : ChangeSpec := { name := "allocClean", fn := fun _ => fun
  | [d1, d2, d3, d4, d5] => { results := [.lit (.bool false)], args := [d1, d2, d3, d4, d5] }
  | _ => none }
def AllocCleanWrongFalsely : Prop := allocCleanRow.holds Try.pinned (OpenSpec.ofChange allocCleanWrong)

/-- 'campanilelaw22.AllocRoom': WHATEVER THE INPUT: true; the input reads as it did. -/
def allocRoomSpec : ChangeSpec := { name := "allocRoom", fn := fun _ => fun
  | [d1, d2, d3, d4] => { results := [.lit (.bool true)], args := [d1, d2, d3, d4] }
  | _ => none }
def allocRoomRow : OpenClaim := { program := "ythmolhkfodhagaa", sum := "b39dc0b417b81cc3898561df57e2a6038ba7b83490a88a52d806ccec707d879d", func := "campanile/campanilelaw22.AllocRoom", spec := "allocRoom", unfollowed := true, recurses := true, plainKeys := false, apart := false }
def AllocRoomSaid : Prop := allocRoomRow.holds Try.pinned (OpenSpec.ofChange allocRoomSpec)

/-- ITS FALSE NEIGHBOUR: 'it returns false'. Refute it at one input. -/
def allocRoomWrong : ChangeSpec := { name := "allocRoom", fn := fun _ => fun
  | [d1, d2, d3, d4] => { results := [.lit (.bool false)], args := [d1, d2, d3, d4] }
  | _ => none }
def AllocRoomWrongFalsely : Prop := allocRoomRow.holds Try.pinned (OpenSpec.ofChange allocRoomWrong)

/- THE SECOND FORM. 'bulk': how many values and letters a reading holds, each counted each time it is reached (what is shared counts as often as it is met; a slice's spare places count too). A statement '..UptoSaid' is the law's where the arguments, and the package variables that the reading takes, are together of bulk at most 1048576: NARROWER than '..Said'. Prove '..Said' where nothing that the law and all that it calls make is longer than what came in: it says more and counts as full. Else prove '..UptoSaid'. A law counts once. -/
mutual
def uptoBulk {H : Type} : DataW H → Nat
  | .lit (.string bytes) => bytes.length + 1
  | .lit _ => 1
  | .nil => 1
  | .ptr d => uptoBulk d + 1
  | .slice elems spare => uptoBulkAll elems + uptoBulkAll spare + 1
  | .agg parts => uptoBulkAll parts + 1
  | .iface _ d => uptoBulk d + 1
  | .map entries => uptoBulkEntries entries + 1
  | .held _ => 1
def uptoBulkAll {H : Type} : List (DataW H) → Nat
  | [] => 0
  | d :: r => uptoBulk d + uptoBulkAll r
def uptoBulkEntries {H : Type} : List (Lit × DataW H) → Nat
  | [] => 0
  | x :: r => uptoBulkEntry x + uptoBulkEntries r
def uptoBulkEntry {H : Type} : Lit × DataW H → Nat
  | (.string bytes, d) => bytes.length + uptoBulk d + 1
  | (_, d) => uptoBulk d + 1
 end
def uptoSmall : (H : Type) → List (DataW H) → Bool := fun _ ds => decide (uptoBulkAll ds ≤ 1048576)
def OpenSpec.upto (s : _root_.Go.ChangeSpec) : _root_.Go.OpenSpec := { _root_.Go.OpenSpec.ofChange s with cond := some uptoSmall }

/-- 'campanilelaw22.AllocForms', WHERE WHAT IT READS IS OF BULK AT MOST 1048576: true; the input reads as it did. -/
def allocFormsUptoRow : OpenClaim := { program := "ythmolhkfodhagaa", sum := "b39dc0b417b81cc3898561df57e2a6038ba7b83490a88a52d806ccec707d879d", func := "campanile/campanilelaw22.AllocForms", spec := "allocForms", unfollowed := true, recurses := true, plainKeys := false, apart := false, narrowed := true }
def AllocFormsUptoSaid : Prop := allocFormsUptoRow.holds Try.pinned (OpenSpec.upto allocFormsSpec)

/-- 'campanilelaw22.AllocBoth', WHERE WHAT IT READS IS OF BULK AT MOST 1048576: true; the input reads as it did. -/
def allocBothUptoRow : OpenClaim := { program := "ythmolhkfodhagaa", sum := "b39dc0b417b81cc3898561df57e2a6038ba7b83490a88a52d806ccec707d879d", func := "campanile/campanilelaw22.AllocBoth", spec := "allocBoth", unfollowed := true, recurses := true, plainKeys := false, apart := false, narrowed := true }
def AllocBothUptoSaid : Prop := allocBothUptoRow.holds Try.pinned (OpenSpec.upto allocBothSpec)

/-- 'campanilelaw22.AllocDeals', WHERE WHAT IT READS IS OF BULK AT MOST 1048576: true; the input reads as it did. -/
def allocDealsUptoRow : OpenClaim := { program := "ythmolhkfodhagaa", sum := "b39dc0b417b81cc3898561df57e2a6038ba7b83490a88a52d806ccec707d879d", func := "campanile/campanilelaw22.AllocDeals", spec := "allocDeals", unfollowed := true, recurses := true, plainKeys := false, apart := false, narrowed := true }
def AllocDealsUptoSaid : Prop := allocDealsUptoRow.holds Try.pinned (OpenSpec.upto allocDealsSpec)

/-- 'campanilelaw22.AllocClean', WHERE WHAT IT READS IS OF BULK AT MOST 1048576: true; the input reads as it did. -/
def allocCleanUptoRow : OpenClaim := { program := "ythmolhkfodhagaa", sum := "b39dc0b417b81cc3898561df57e2a6038ba7b83490a88a52d806ccec707d879d", func := "campanile/campanilelaw22.AllocClean", spec := "allocClean", unfollowed := true, recurses := true, plainKeys := false, apart := false, narrowed := true }
def AllocCleanUptoSaid : Prop := allocCleanUptoRow.holds Try.pinned (OpenSpec.upto allocCleanSpec)

/-- 'campanilelaw22.AllocRoom', WHERE WHAT IT READS IS OF BULK AT MOST 1048576: true; the input reads as it did. -/
def allocRoomUptoRow : OpenClaim := { program := "ythmolhkfodhagaa", sum := "b39dc0b417b81cc3898561df57e2a6038ba7b83490a88a52d806ccec707d879d", func := "campanile/campanilelaw22.AllocRoom", spec := "allocRoom", unfollowed := true, recurses := true, plainKeys := false, apart := false, narrowed := true }
def AllocRoomUptoSaid : Prop := allocRoomUptoRow.holds Try.pinned (OpenSpec.upto allocRoomSpec)

end Rows
end Go.Proofs.Ythmolhkfodhagaa
