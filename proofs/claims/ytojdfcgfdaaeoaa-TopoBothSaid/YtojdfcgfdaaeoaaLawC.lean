/- Who is near, as a list: what is in it. -/
import Derived.Test.YtojdfcgfdaaeoaaLawB

set_option linter.unnecessarySimpa false
set_option linter.unusedVariables false
set_option linter.unusedSimpArgs false
set_option linter.unusedSectionVars false
/-! CvTopoV -/
namespace Camp
open Go
set_option linter.unusedVariables false
set_option linter.unusedSimpArgs false
set_option maxHeartbeats 4000000
theorem u64_nn (n : Int) : 0 ≤ IntKind.wrap .u64 n := by
  simp [IntKind.wrap, IntKind.bits, IntKind.signed]
  omega
theorem u64_mod (n m : Int) (h : 0 < m) : 0 ≤ (IntKind.wrap .u64 n).tmod m ∧ (IntKind.wrap .u64 n).tmod m < m :=
  ⟨Int.tmod_nonneg _ (u64_nn n), Int.tmod_lt_of_pos _ h⟩
section
variable {k g m r : Nat} {nn : Int} {q : Int → Int → Option Int} {Q : Nat → Nat → Int} {h : Hp} {P : AV → Hp → Prop}
def nrL (nn : Int) (q : Int → Int → Option Int) (a least : Int) : List Int := if 0 ≤ a ∧ a < nn then nearL q a least nn.toNat else []
theorem nrL_len (hn : nn ≤ 16) (a least : Int) : (nrL nn q a least).length ≤ 16 := by
  unfold nrL
  split
  · have := nearL_len q a least nn.toNat; omega
  · simp
theorem nrL_mem {a least x : Int} : x ∈ nrL nn q a least ↔ (0 ≤ a ∧ a < nn) ∧ (0 ≤ x ∧ x < nn) ∧ 0 < qual q a x ∧ least ≤ qual q a x := by
  unfold nrL
  split
  · rename_i h
    unfold nearL
    simp only [List.mem_map, List.mem_filter, List.mem_range, decide_eq_true_eq]
    constructor
    · rintro ⟨b, ⟨h1, h2⟩, rfl⟩
      exact ⟨h, ⟨by omega, by omega⟩, h2⟩
    · rintro ⟨_, h1, h2⟩
      refine ⟨x.toNat, ⟨by omega, ?_⟩, by omega⟩
      rw [show ((x.toNat : Nat) : Int) = x by omega]
      exact h2
  · rename_i h
    simp [h]
theorem nrL_le {a lo hi : Int} (hh : lo ≤ hi) : (nrL nn q a hi).length ≤ (nrL nn q a lo).length := by
  unfold nrL
  split
  · unfold nearL
    rw [List.length_map, List.length_map, ← List.countP_eq_length_filter, ← List.countP_eq_length_filter]
    apply List.countP_mono_left
    intro b _ hb
    rw [decide_eq_true_iff] at hb ⊢
    exact ⟨hb.1, by omega⟩
  · simp
theorem Rl.qle (hR : Rl nn q Q) (a b : Int) : Camp.qual q a b ≤ 255 := by
  unfold Camp.qual
  cases e : q a b with
  | none => simp only [Option.getD_none]; omega
  | some v => have := hR.le a b v e; simp only [Option.getD_some]; omega
end
end Camp
