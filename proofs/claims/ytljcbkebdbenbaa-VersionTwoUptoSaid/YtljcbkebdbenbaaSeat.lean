/- Cells one before the other: Less, compare, Or, Compare, over the program's own code. The seat's program is what the machine runs. Printed by a program of mine (seatgen.py). -/
import Derived.Test.YtljcbkebdbenbaaCode
import Derived.Test.YtljcbkebdbenbaaUseB
import Derived.Test.YtljcbkebdbenbaaProg

set_option linter.unnecessarySimpa false
set_option linter.unusedVariables false
set_option linter.unusedSimpArgs false
set_option linter.unusedSectionVars false
/-! CvLess -/
namespace Camp
open Go
set_option linter.unusedVariables false
set_option linter.unusedSimpArgs false
set_option maxHeartbeats 2000000
section
variable {k : Nat} {h : Hp} {P : AV → Hp → Prop}
def cmp3 (a b : Int) : Int := if a < b then -1 else if b < a then 1 else 0
theorem nan0_ok {a : Int} (hP : P (.c (.bool false)) h) : callW N0 (k + 1) 47 [.c (.int .i64 a)] h P := by
  refine call_intro rfl (by simp only [List.length_cons, List.length_nil]; omega) ?_
  have hd : decide (a = a) = true := by simp
  simp (maxSteps := 200000) -implicitDefEqProofs only [KA, KB, KC, KD, KE, KF, eq_self, ne_eq, ↓reduceIte, Nat.reduceLT, Nat.reduceEqDiff, Nat.reduceAdd, Nat.reduceLeDiff, Nat.reduceSub, Nat.reduceMul, reduceCtorEq, hd]
  exact hP
theorem cmp0_ok {a b : Int} (hP : P (.c (.int .i64 (cmp3 a b))) h) : callW N0 (k + 2) 46 [.c (.int .i64 a), .c (.int .i64 b)] h P := by
  refine call_intro rfl (by simp only [List.length_cons, List.length_nil]; omega) ?_
  simp (maxSteps := 200000) -implicitDefEqProofs only [KA, KB, KC, KD, KE, KF, eq_self, ne_eq, ↓reduceIte, Nat.reduceLT, Nat.reduceEqDiff, Nat.reduceAdd, Nat.reduceLeDiff, Nat.reduceSub, Nat.reduceMul, reduceCtorEq]
  refine nan0_ok (k := k) ?_
  simp (maxSteps := 200000) -implicitDefEqProofs only [KA, KB, KC, KD, KE, KF, eq_self, ne_eq, ↓reduceIte, Nat.reduceLT, Nat.reduceEqDiff, Nat.reduceAdd, Nat.reduceLeDiff, Nat.reduceSub, Nat.reduceMul, reduceCtorEq]
  refine nan0_ok (k := k) ?_
  unfold cmp3 at hP
  by_cases c1 : a < b
  · rw [if_pos c1] at hP
    simp (maxSteps := 200000) -implicitDefEqProofs only [KA, KB, KC, KD, KE, KF, eq_self, ne_eq, ↓reduceIte, Nat.reduceLT, Nat.reduceEqDiff, Nat.reduceAdd, Nat.reduceLeDiff, Nat.reduceSub, Nat.reduceMul, reduceCtorEq, c1]
    exact hP
  · rw [if_neg c1] at hP
    by_cases c2 : b < a
    · rw [if_pos c2] at hP
      simp (maxSteps := 200000) -implicitDefEqProofs only [KA, KB, KC, KD, KE, KF, eq_self, ne_eq, ↓reduceIte, Nat.reduceLT, Nat.reduceEqDiff, Nat.reduceAdd, Nat.reduceLeDiff, Nat.reduceSub, Nat.reduceMul, reduceCtorEq, c1, c2]
      exact hP
    · rw [if_neg c2] at hP
      simp (maxSteps := 200000) -implicitDefEqProofs only [KA, KB, KC, KD, KE, KF, eq_self, ne_eq, ↓reduceIte, Nat.reduceLT, Nat.reduceEqDiff, Nat.reduceAdd, Nat.reduceLeDiff, Nat.reduceSub, Nat.reduceMul, reduceCtorEq, c1, c2]
      exact hP
def orL : List Int → Int
  | [] => 0
  | a :: l => if a = 0 then orL l else a
def OrI (h : Hp) (v : CV) (L : List Int) (m : Nat) (s : St) : Prop :=
  ∃ (i : Nat) (l : List (Nat × TV)) (lc : List (List CV)), s = ST 18 l lc h ∧ i ≤ L.length ∧ m = L.length - i ∧ orL L = orL (L.drop i) ∧
    lk l 3 = .v (.c (.int .i64 0)) ∧ lk l 6 = .v (.c v) ∧ lk l 7 = .v (.c (.int .i64 L.length)) ∧ lk l 8 = .v (.c (.int .i64 i))
theorem or0_ok {v : CV} {L : List Int} (hv : SL h 1 v (L.map fun x => [.int .i64 x])) (hn : L.length ≤ 100) (hP : P (.c (.int .i64 (orL L))) h) : callW N0 (k + 1) 86 [.c v] h P := by
  have hlen : ∀ h' : Hp, lenT h' .sl (.v (.c v)) = some (L.length : Int) := fun h' => by rw [hv.len h', List.length_map]
  refine call_intro rfl (by simp only [List.length_cons, List.length_nil]; omega) ?_
  simp (maxSteps := 200000) -implicitDefEqProofs only [KA, KB, KC, KD, KE, KF, eq_self, ne_eq, ↓reduceIte, Nat.reduceLT, Nat.reduceEqDiff, Nat.reduceAdd, Nat.reduceLeDiff, Nat.reduceSub, Nat.reduceMul, reduceCtorEq, hlen]
  refine loop_rd (callW_mono N0 _) (OrI h v L) (n := L.length) ⟨0, _, _, rfl, by omega, rfl, rfl, rfl, rfl, rfl, rfl⟩ ?_
  rintro m s ⟨i, l, lc, rfl, hi, hm, ho, e3, e6, e7, e8⟩
  by_cases hlt : (i : Int) < (L.length : Int)
  · have hil : i < L.length := by omega
    obtain ⟨x, hx⟩ : ∃ x, L[i]? = some x := ⟨_, List.getElem?_eq_getElem hil⟩
    have hrow : (L.map fun x => [CV.int .i64 x])[(i : Int).toNat]? = some [.int .i64 x] := by simp [hx]
    obtain ⟨p1, p2, p3, a1, a2⟩ := hv.at (by omega) hrow
    have hwi := wrap_i64 (n := (i : Int) + 1) (by omega)
    have hdr : L.drop i = x :: L.drop (i + 1) := by
      rw [List.drop_eq_getElem_cons hil]
      rw [List.getElem?_eq_getElem hil] at hx
      rw [Option.some.inj hx]
    rw [hdr, orL] at ho
    by_cases c : x = 0
    · have hc : decide (x = 0) = true := decide_eq_true c
      rw [if_pos c] at ho
      simp (maxSteps := 200000) -implicitDefEqProofs only [KA, KB, KC, KD, KE, KF, eq_self, ne_eq, ↓reduceIte, Nat.reduceLT, Nat.reduceEqDiff, Nat.reduceAdd, Nat.reduceLeDiff, Nat.reduceSub, Nat.reduceMul, reduceCtorEq, e3, e6, e7, e8, hlt, a1, a2, hc, hwi, rd_n]
      exact ⟨m - 1, by omega, i + 1, _, _, rfl, by omega, by omega, ho, rfl, rfl, rfl, rfl⟩
    · rw [if_neg c] at ho
      simp (maxSteps := 200000) -implicitDefEqProofs only [KA, KB, KC, KD, KE, KF, eq_self, ne_eq, ↓reduceIte, Nat.reduceLT, Nat.reduceEqDiff, Nat.reduceAdd, Nat.reduceLeDiff, Nat.reduceSub, Nat.reduceMul, reduceCtorEq, e3, e6, e7, e8, hlt, a1, a2, c]
      rw [ho] at hP
      exact hP
  · have : i = L.length := by omega
    subst this
    rw [List.drop_length] at ho
    simp (maxSteps := 200000) -implicitDefEqProofs only [KA, KB, KC, KD, KE, KF, eq_self, ne_eq, ↓reduceIte, Nat.reduceLT, Nat.reduceEqDiff, Nat.reduceAdd, Nat.reduceLeDiff, Nat.reduceSub, Nat.reduceMul, reduceCtorEq, e3, e6, e7, e8, hlt]
    rw [ho] at hP
    exact hP
theorem less_or (a b c d e a' b' c' d' e' : Int) : decide (orL [cmp3 a a', cmp3 b b', cmp3 c c', cmp3 d d', cmp3 e e'] < 0) = lessB a b c d e a' b' c' d' e' := by
  unfold lessB
  rw [Bool.eq_iff_iff, decide_eq_true_eq, decide_eq_true_eq]
  have key : ∀ (x y : Int) (l : List Int), orL (cmp3 x y :: l) < 0 ↔ x < y ∨ (x = y ∧ orL l < 0) := by
    intro x y l
    rw [orL]
    unfold cmp3
    by_cases c1 : x < y
    · rw [if_pos c1, if_neg (by omega)]; omega
    · rw [if_neg c1]
      by_cases c2 : y < x
      · rw [if_pos c2, if_neg (by omega)]; omega
      · rw [if_neg c2, if_pos rfl]
        have : x = y := by omega
        simp [this]
  rw [key, key, key, key, key]
  simp [orL]
theorem compare0_ok {a b c d e a' b' c' d' e' : Int} (hP : ∀ h', P (.c (.int .i64 (orL [cmp3 a a', cmp3 b b', cmp3 c c', cmp3 d d', cmp3 e e']))) h') :
    callW N0 (k + 3) 157 [.agg [.int .i64 a, .int .i64 b, .int .i64 c, .int .i64 d, .int .i64 e], .agg [.int .i64 a', .int .i64 b', .int .i64 c', .int .i64 d', .int .i64 e']] h P := by
  obtain ⟨h1, hh1⟩ : ∃ h1, h1 = h.reserve 1 := ⟨_, rfl⟩
  have d0 : h1.g h.n = some .dead := by rw [hh1]; exact dead_one h
  obtain ⟨h2, hh2⟩ : ∃ h2, h2 = h1.put h.n (.rows true 1 0 0 ([cmp3 a a', cmp3 b b', cmp3 c c', cmp3 d d', cmp3 e e'].map fun x => [.int .i64 x])) := ⟨_, rfl⟩
  have g2 : h2.g h.n = some (.rows true 1 0 0 ([cmp3 a a', cmp3 b b', cmp3 c c', cmp3 d d', cmp3 e e'].map fun x => [.int .i64 x])) := by rw [hh2, g_put_eq, d0]; rfl
  have hfold := hh1.symm
  have hfold2 : h1.put h.n (.rows true 1 0 0 [[.int .i64 (cmp3 a a')], [.int .i64 (cmp3 b b')], [.int .i64 (cmp3 c c')], [.int .i64 (cmp3 d d')], [.int .i64 (cmp3 e e')]]) = h2 := hh2.symm
  refine call_intro rfl (by simp only [List.length_cons, List.length_nil]; omega) ?_
  simp (maxSteps := 200000) -implicitDefEqProofs only [KA, KB, KC, KD, KE, KF, eq_self, ne_eq, ↓reduceIte, Nat.reduceLT, Nat.reduceEqDiff, Nat.reduceAdd, Nat.reduceLeDiff, Nat.reduceSub, Nat.reduceMul, reduceCtorEq, hfold, n_def]
  refine cmp0_ok (k := k) ?_
  simp (maxSteps := 200000) -implicitDefEqProofs only [KA, KB, KC, KD, KE, KF, eq_self, ne_eq, ↓reduceIte, Nat.reduceLT, Nat.reduceEqDiff, Nat.reduceAdd, Nat.reduceLeDiff, Nat.reduceSub, Nat.reduceMul, reduceCtorEq]
  refine cmp0_ok (k := k) ?_
  simp (maxSteps := 200000) -implicitDefEqProofs only [KA, KB, KC, KD, KE, KF, eq_self, ne_eq, ↓reduceIte, Nat.reduceLT, Nat.reduceEqDiff, Nat.reduceAdd, Nat.reduceLeDiff, Nat.reduceSub, Nat.reduceMul, reduceCtorEq]
  refine cmp0_ok (k := k) ?_
  simp (maxSteps := 200000) -implicitDefEqProofs only [KA, KB, KC, KD, KE, KF, eq_self, ne_eq, ↓reduceIte, Nat.reduceLT, Nat.reduceEqDiff, Nat.reduceAdd, Nat.reduceLeDiff, Nat.reduceSub, Nat.reduceMul, reduceCtorEq]
  refine cmp0_ok (k := k) ?_
  simp (maxSteps := 200000) -implicitDefEqProofs only [KA, KB, KC, KD, KE, KF, eq_self, ne_eq, ↓reduceIte, Nat.reduceLT, Nat.reduceEqDiff, Nat.reduceAdd, Nat.reduceLeDiff, Nat.reduceSub, Nat.reduceMul, reduceCtorEq]
  refine cmp0_ok (k := k) ?_
  simp (maxSteps := 200000) -implicitDefEqProofs only [KA, KB, KC, KD, KE, KF, eq_self, ne_eq, ↓reduceIte, Nat.reduceLT, Nat.reduceEqDiff, Nat.reduceAdd, Nat.reduceLeDiff, Nat.reduceSub, Nat.reduceMul, reduceCtorEq, d0, chunks, hfold2]
  refine or0_ok (k := k + 1) (L := [cmp3 a a', cmp3 b b', cmp3 c c', cmp3 d d', cmp3 e e']) ⟨true, 0, 0, _, g2, Nat.le_refl _, Nat.le_refl _, rfl⟩ (by simp) ?_
  simp (maxSteps := 200000) -implicitDefEqProofs only [KA, KB, KC, KD, KE, KF, eq_self, ne_eq, ↓reduceIte, Nat.reduceLT, Nat.reduceEqDiff, Nat.reduceAdd, Nat.reduceLeDiff, Nat.reduceSub, Nat.reduceMul, reduceCtorEq]
  exact hP _
theorem less0_ok (a b c d e a' b' c' d' e' : Int) : callW N0 8 156 [.agg [.int .i64 a, .int .i64 b, .int .i64 c, .int .i64 d, .int .i64 e], .agg [.int .i64 a', .int .i64 b', .int .i64 c', .int .i64 d', .int .i64 e']] ⟨[], 0⟩ fun r' _ => r' = .c (.bool (lessB a b c d e a' b' c' d' e')) := by
  refine call_intro rfl (by simp only [List.length_cons, List.length_nil]; omega) ?_
  simp (maxSteps := 200000) -implicitDefEqProofs only [KA, KB, KC, KD, KE, KF, eq_self, ne_eq, ↓reduceIte, Nat.reduceLT, Nat.reduceEqDiff, Nat.reduceAdd, Nat.reduceLeDiff, Nat.reduceSub, Nat.reduceMul, reduceCtorEq]
  refine compare0_ok (k := 4) fun h' => ?_
  simp (maxSteps := 200000) -implicitDefEqProofs only [KA, KB, KC, KD, KE, KF, eq_self, ne_eq, ↓reduceIte, Nat.reduceLT, Nat.reduceEqDiff, Nat.reduceAdd, Nat.reduceLeDiff, Nat.reduceSub, Nat.reduceMul, reduceCtorEq, less_or]
end
end Camp

/-! CsVer -/
namespace Camp.S
open Go Go.Proofs
def tbl : List Nat := [1000000, 1000000, 1000000, 1000000, 1000000, 1000000, 230, 221, 137, 131, 1000000, 215, 132, 1000000, 134, 1000000, 138, 1000000, 135, 1000000, 136, 1000000, 133, 1000000, 229, 140, 1000000, 141, 142, 143, 144, 231, 217, 232, 44, 145, 146, 120, 147, 148, 149, 121, 150, 218, 216, 233, 151, 152, 156, 122, 126, 153, 124, 154, 219, 155, 82, 157, 128, 127, 118, 158, 159, 160, 161, 162, 163, 164, 165, 96, 97, 86, 46, 129, 123, 166, 108, 109, 167, 168, 47, 125, 169, 1000000, 1000000, 1000000, 1000000, 1000000, 1000000, 1000000, 1000000, 1000000, 1000000, 1000000, 1000000, 1000000, 1000000, 1000000, 1000000]
abbrev rn : FuncId → Nat := rnOf tbl
theorem c230 : CFn Try.prog rn (DJ Try.prog rn) Try.f6 n230 := cfn_ok [8, 10, 12, 15] (by kernel_rfl) (by kernel_rfl) (by kernel_rfl) (by kernel_rfl)
theorem c221 : CFn Try.prog rn (DJ Try.prog rn) Try.f7 n221 := cfn_ok [5, 7] (by kernel_rfl) (by kernel_rfl) (by kernel_rfl) (by kernel_rfl)
theorem c137 : CFn Try.prog rn (DJ Try.prog rn) Try.f8 n137 := cfn_ok [] (by kernel_rfl) (by kernel_rfl) (by kernel_rfl) (by kernel_rfl)
theorem c131 : CFn Try.prog rn (DJ Try.prog rn) Try.f9 n131 := cfn_ok [] (by kernel_rfl) (by kernel_rfl) (by kernel_rfl) (by kernel_rfl)
theorem c215 : CFnC Try.prog rn (DJ Try.prog rn) Try.f11 n215 := cfn_cell [7, 8] [2] [4] 3 36 (some 16) (by kernel_rfl) (by kernel_rfl) (by kernel_rfl) (by decide) (by decide) (by decide) (by kernel_rfl) (by kernel_rfl)
theorem c132 : CFn Try.prog rn (DJ Try.prog rn) Try.f12 n132 := cfn_ok [] (by kernel_rfl) (by kernel_rfl) (by kernel_rfl) (by kernel_rfl)
theorem c134 : CFn Try.prog rn (DJ Try.prog rn) Try.f14 n134 := cfn_ok [] (by kernel_rfl) (by kernel_rfl) (by kernel_rfl) (by kernel_rfl)
theorem c138 : CFn Try.prog rn (DJ Try.prog rn) Try.f16 n138 := cfn_ok [] (by kernel_rfl) (by kernel_rfl) (by kernel_rfl) (by kernel_rfl)
theorem c135 : CFn Try.prog rn (DJ Try.prog rn) Try.f18 n135 := cfn_ok [] (by kernel_rfl) (by kernel_rfl) (by kernel_rfl) (by kernel_rfl)
theorem c136 : CFn Try.prog rn (DJ Try.prog rn) Try.f20 n136 := cfn_ok [] (by kernel_rfl) (by kernel_rfl) (by kernel_rfl) (by kernel_rfl)
theorem c133 : CFn Try.prog rn (DJ Try.prog rn) Try.f22 n133 := cfn_ok [30] (by kernel_rfl) (by kernel_rfl) (by kernel_rfl) (by kernel_rfl)
theorem c229 : CFn Try.prog rn (DJ Try.prog rn) Try.f24 n229 := cfn_ok [] (by kernel_rfl) (by kernel_rfl) (by kernel_rfl) (by kernel_rfl)
theorem c140 : CFn Try.prog rn (DJ Try.prog rn) Try.f25 n140 := cfn_ok [] (by kernel_rfl) (by kernel_rfl) (by kernel_rfl) (by kernel_rfl)
theorem c141 : CFn Try.prog rn (DJ Try.prog rn) Try.f27 n141 := cfn_ok [] (by kernel_rfl) (by kernel_rfl) (by kernel_rfl) (by kernel_rfl)
theorem c142 : CFn Try.prog rn (DJ Try.prog rn) Try.f28 n142 := cfn_ok [] (by kernel_rfl) (by kernel_rfl) (by kernel_rfl) (by kernel_rfl)
theorem c143 : CFn Try.prog rn (DJ Try.prog rn) Try.f29 n143 := cfn_ok [] (by kernel_rfl) (by kernel_rfl) (by kernel_rfl) (by kernel_rfl)
theorem c144 : CFn Try.prog rn (DJ Try.prog rn) Try.f30 n144 := cfn_ok [] (by kernel_rfl) (by kernel_rfl) (by kernel_rfl) (by kernel_rfl)
theorem c231 : CFn Try.prog rn (DJ Try.prog rn) Try.f31 n231 := cfn_ok [] (by kernel_rfl) (by kernel_rfl) (by kernel_rfl) (by kernel_rfl)
theorem c217 : CFn Try.prog rn (DJ Try.prog rn) Try.f32 n217 := cfn_ok [1, 6, 8, 11] (by kernel_rfl) (by kernel_rfl) (by kernel_rfl) (by kernel_rfl)
theorem c232 : CFn Try.prog rn (DJ Try.prog rn) Try.f33 n232 := cfn_ok [5] (by kernel_rfl) (by kernel_rfl) (by kernel_rfl) (by kernel_rfl)
theorem c44 : CFn Try.prog rn (DJ Try.prog rn) Try.f34 n44 := cfn_ok [] (by kernel_rfl) (by kernel_rfl) (by kernel_rfl) (by kernel_rfl)
theorem c145 : CFn Try.prog rn (DJ Try.prog rn) Try.f35 n145 := cfn_ok [] (by kernel_rfl) (by kernel_rfl) (by kernel_rfl) (by kernel_rfl)
theorem c146 : CFn Try.prog rn (DJ Try.prog rn) Try.f36 n146 := cfn_ok [] (by kernel_rfl) (by kernel_rfl) (by kernel_rfl) (by kernel_rfl)
theorem c120 : CFn Try.prog rn (DJ Try.prog rn) Try.f37 n120 := cfn_ok [7, 45] (by kernel_rfl) (by kernel_rfl) (by kernel_rfl) (by kernel_rfl)
theorem c147 : CFn Try.prog rn (DJ Try.prog rn) Try.f38 n147 := cfn_ok [] (by kernel_rfl) (by kernel_rfl) (by kernel_rfl) (by kernel_rfl)
theorem c148 : CFn Try.prog rn (DJ Try.prog rn) Try.f39 n148 := cfn_ok [] (by kernel_rfl) (by kernel_rfl) (by kernel_rfl) (by kernel_rfl)
theorem c149 : CFn Try.prog rn (DJ Try.prog rn) Try.f40 n149 := cfn_ok [1] (by kernel_rfl) (by kernel_rfl) (by kernel_rfl) (by kernel_rfl)
theorem c121 : CFn Try.prog rn (DJ Try.prog rn) Try.f41 n121 := cfn_ok [1] (by kernel_rfl) (by kernel_rfl) (by kernel_rfl) (by kernel_rfl)
theorem c150 : CFn Try.prog rn (DJ Try.prog rn) Try.f42 n150 := cfn_ok [] (by kernel_rfl) (by kernel_rfl) (by kernel_rfl) (by kernel_rfl)
theorem c218 : CFn Try.prog rn (DJ Try.prog rn) Try.f43 n218 := cfn_ok [1] (by kernel_rfl) (by kernel_rfl) (by kernel_rfl) (by kernel_rfl)
theorem c216 : CFn Try.prog rn (DJ Try.prog rn) Try.f44 n216 := cfn_ok [4, 5] (by kernel_rfl) (by kernel_rfl) (by kernel_rfl) (by kernel_rfl)
theorem c233 : CFn Try.prog rn (DJ Try.prog rn) Try.f45 n233 := cfn_ok [2, 3, 5, 6] (by kernel_rfl) (by kernel_rfl) (by kernel_rfl) (by kernel_rfl)
theorem c151 : CFn Try.prog rn (DJ Try.prog rn) Try.f46 n151 := cfn_ok [] (by kernel_rfl) (by kernel_rfl) (by kernel_rfl) (by kernel_rfl)
theorem c152 : CFn Try.prog rn (DJ Try.prog rn) Try.f47 n152 := cfn_ok [2, 3] (by kernel_rfl) (by kernel_rfl) (by kernel_rfl) (by kernel_rfl)
theorem c156 : CFn Try.prog rn (DJ Try.prog rn) Try.f48 n156 := cfn_ok [2, 3] (by kernel_rfl) (by kernel_rfl) (by kernel_rfl) (by kernel_rfl)
theorem c122 : CFn Try.prog rn (DJ Try.prog rn) Try.f49 n122 := cfn_ok [] (by kernel_rfl) (by kernel_rfl) (by kernel_rfl) (by kernel_rfl)
theorem c126 : CFn Try.prog rn (DJ Try.prog rn) Try.f50 n126 := cfn_ok [] (by kernel_rfl) (by kernel_rfl) (by kernel_rfl) (by kernel_rfl)
theorem c153 : CFn Try.prog rn (DJ Try.prog rn) Try.f51 n153 := cfn_ok [] (by kernel_rfl) (by kernel_rfl) (by kernel_rfl) (by kernel_rfl)
theorem c124 : CFn Try.prog rn (DJ Try.prog rn) Try.f52 n124 := cfn_ok [] (by kernel_rfl) (by kernel_rfl) (by kernel_rfl) (by kernel_rfl)
theorem c154 : CFn Try.prog rn (DJ Try.prog rn) Try.f53 n154 := cfn_ok [2] (by kernel_rfl) (by kernel_rfl) (by kernel_rfl) (by kernel_rfl)
theorem c219 : CFn Try.prog rn (DJ Try.prog rn) Try.f54 n219 := cfn_ok [2, 3] (by kernel_rfl) (by kernel_rfl) (by kernel_rfl) (by kernel_rfl)
theorem c155 : CFn Try.prog rn (DJ Try.prog rn) Try.f55 n155 := cfn_ok [] (by kernel_rfl) (by kernel_rfl) (by kernel_rfl) (by kernel_rfl)
theorem c82 : CFn Try.prog rn (DJ Try.prog rn) Try.f56 n82 := cfn_ok [] (by kernel_rfl) (by kernel_rfl) (by kernel_rfl) (by kernel_rfl)
theorem c157 : CFn Try.prog rn (DJ Try.prog rn) Try.f57 n157 := cfn_ok [2, 3] (by kernel_rfl) (by kernel_rfl) (by kernel_rfl) (by kernel_rfl)
theorem c128 : CFn Try.prog rn (DJ Try.prog rn) Try.f58 n128 := cfn_ok [] (by kernel_rfl) (by kernel_rfl) (by kernel_rfl) (by kernel_rfl)
theorem c127 : CFn Try.prog rn (DJ Try.prog rn) Try.f59 n127 := cfn_ok [3] (by kernel_rfl) (by kernel_rfl) (by kernel_rfl) (by kernel_rfl)
theorem c118 : CFn Try.prog rn (DJ Try.prog rn) Try.f60 n118 := cfn_ok [4, 5] (by kernel_rfl) (by kernel_rfl) (by kernel_rfl) (by kernel_rfl)
theorem c158 : CFn Try.prog rn (DJ Try.prog rn) Try.f61 n158 := cfn_ok [] (by kernel_rfl) (by kernel_rfl) (by kernel_rfl) (by kernel_rfl)
theorem c159 : CFn Try.prog rn (DJ Try.prog rn) Try.f62 n159 := cfn_ok [] (by kernel_rfl) (by kernel_rfl) (by kernel_rfl) (by kernel_rfl)
theorem c160 : CFn Try.prog rn (DJ Try.prog rn) Try.f63 n160 := cfn_ok [] (by kernel_rfl) (by kernel_rfl) (by kernel_rfl) (by kernel_rfl)
theorem c161 : CFn Try.prog rn (DJ Try.prog rn) Try.f64 n161 := cfn_ok [] (by kernel_rfl) (by kernel_rfl) (by kernel_rfl) (by kernel_rfl)
theorem c162 : CFn Try.prog rn (DJ Try.prog rn) Try.f65 n162 := cfn_ok [] (by kernel_rfl) (by kernel_rfl) (by kernel_rfl) (by kernel_rfl)
theorem c163 : CFn Try.prog rn (DJ Try.prog rn) Try.f66 n163 := cfn_ok [] (by kernel_rfl) (by kernel_rfl) (by kernel_rfl) (by kernel_rfl)
theorem c164 : CFn Try.prog rn (DJ Try.prog rn) Try.f67 n164 := cfn_ok [] (by kernel_rfl) (by kernel_rfl) (by kernel_rfl) (by kernel_rfl)
theorem c165 : CFn Try.prog rn (DJ Try.prog rn) Try.f68 n165 := cfn_ok [] (by kernel_rfl) (by kernel_rfl) (by kernel_rfl) (by kernel_rfl)
theorem c96 : CFn Try.prog rn (DJ Try.prog rn) Try.f69 n96 := cfn_ok [] (by kernel_rfl) (by kernel_rfl) (by kernel_rfl) (by kernel_rfl)
theorem c97 : CFn Try.prog rn (DJ Try.prog rn) Try.f70 n97 := cfn_ok [] (by kernel_rfl) (by kernel_rfl) (by kernel_rfl) (by kernel_rfl)
theorem c86 : CFn Try.prog rn (DJ Try.prog rn) Try.f71 n86 := cfn_ok [] (by kernel_rfl) (by kernel_rfl) (by kernel_rfl) (by kernel_rfl)
theorem c46 : CFn Try.prog rn (DJ Try.prog rn) Try.f72 n46 := cfn_ok [] (by kernel_rfl) (by kernel_rfl) (by kernel_rfl) (by kernel_rfl)
theorem c129 : CFn Try.prog rn (DJ Try.prog rn) Try.f73 n129 := cfn_ok [] (by kernel_rfl) (by kernel_rfl) (by kernel_rfl) (by kernel_rfl)
theorem c123 : CFn Try.prog rn (DJ Try.prog rn) Try.f74 n123 := cfn_ok [4, 5] (by kernel_rfl) (by kernel_rfl) (by kernel_rfl) (by kernel_rfl)
theorem c166 : CFn Try.prog rn (DJ Try.prog rn) Try.f75 n166 := cfn_ok [] (by kernel_rfl) (by kernel_rfl) (by kernel_rfl) (by kernel_rfl)
theorem c108 : CFn Try.prog rn (DJ Try.prog rn) Try.f76 n108 := cfn_ok [] (by kernel_rfl) (by kernel_rfl) (by kernel_rfl) (by kernel_rfl)
theorem c109 : CFn Try.prog rn (DJ Try.prog rn) Try.f77 n109 := cfn_ok [] (by kernel_rfl) (by kernel_rfl) (by kernel_rfl) (by kernel_rfl)
theorem c167 : CFn Try.prog rn (DJ Try.prog rn) Try.f78 n167 := cfn_ok [] (by kernel_rfl) (by kernel_rfl) (by kernel_rfl) (by kernel_rfl)
theorem c168 : CFn Try.prog rn (DJ Try.prog rn) Try.f79 n168 := cfn_ok [] (by kernel_rfl) (by kernel_rfl) (by kernel_rfl) (by kernel_rfl)
theorem c47 : CFn Try.prog rn (DJ Try.prog rn) Try.f80 n47 := cfn_ok [] (by kernel_rfl) (by kernel_rfl) (by kernel_rfl) (by kernel_rfl)
theorem c125 : CFn Try.prog rn (DJ Try.prog rn) Try.f81 n125 := cfn_ok [2] (by kernel_rfl) (by kernel_rfl) (by kernel_rfl) (by kernel_rfl)
theorem c169 : CFn Try.prog rn (DJ Try.prog rn) Try.f82 n169 := cfn_ok [] (by kernel_rfl) (by kernel_rfl) (by kernel_rfl) (by kernel_rfl)
theorem all : AllOk Try.prog rn N0 tbl 0 :=
  ⟨ok_none rfl,
   ok_none rfl,
   ok_none rfl,
   ok_none rfl,
   ok_none rfl,
   ok_none rfl,
   ok_some rfl Try.func6 c230,
   ok_some rfl Try.func7 c221,
   ok_some rfl Try.func8 c137,
   ok_some rfl Try.func9 c131,
   ok_none rfl,
   ok_cell rfl Try.func11 c215,
   ok_some rfl Try.func12 c132,
   ok_none rfl,
   ok_some rfl Try.func14 c134,
   ok_none rfl,
   ok_some rfl Try.func16 c138,
   ok_none rfl,
   ok_some rfl Try.func18 c135,
   ok_none rfl,
   ok_some rfl Try.func20 c136,
   ok_none rfl,
   ok_some rfl Try.func22 c133,
   ok_none rfl,
   ok_some rfl Try.func24 c229,
   ok_some rfl Try.func25 c140,
   ok_none rfl,
   ok_some rfl Try.func27 c141,
   ok_some rfl Try.func28 c142,
   ok_some rfl Try.func29 c143,
   ok_some rfl Try.func30 c144,
   ok_some rfl Try.func31 c231,
   ok_some rfl Try.func32 c217,
   ok_some rfl Try.func33 c232,
   ok_some rfl Try.func34 c44,
   ok_some rfl Try.func35 c145,
   ok_some rfl Try.func36 c146,
   ok_some rfl Try.func37 c120,
   ok_some rfl Try.func38 c147,
   ok_some rfl Try.func39 c148,
   ok_some rfl Try.func40 c149,
   ok_some rfl Try.func41 c121,
   ok_some rfl Try.func42 c150,
   ok_some rfl Try.func43 c218,
   ok_some rfl Try.func44 c216,
   ok_some rfl Try.func45 c233,
   ok_some rfl Try.func46 c151,
   ok_some rfl Try.func47 c152,
   ok_some rfl Try.func48 c156,
   ok_some rfl Try.func49 c122,
   ok_some rfl Try.func50 c126,
   ok_some rfl Try.func51 c153,
   ok_some rfl Try.func52 c124,
   ok_some rfl Try.func53 c154,
   ok_some rfl Try.func54 c219,
   ok_some rfl Try.func55 c155,
   ok_some rfl Try.func56 c82,
   ok_some rfl Try.func57 c157,
   ok_some rfl Try.func58 c128,
   ok_some rfl Try.func59 c127,
   ok_some rfl Try.func60 c118,
   ok_some rfl Try.func61 c158,
   ok_some rfl Try.func62 c159,
   ok_some rfl Try.func63 c160,
   ok_some rfl Try.func64 c161,
   ok_some rfl Try.func65 c162,
   ok_some rfl Try.func66 c163,
   ok_some rfl Try.func67 c164,
   ok_some rfl Try.func68 c165,
   ok_some rfl Try.func69 c96,
   ok_some rfl Try.func70 c97,
   ok_some rfl Try.func71 c86,
   ok_some rfl Try.func72 c46,
   ok_some rfl Try.func73 c129,
   ok_some rfl Try.func74 c123,
   ok_some rfl Try.func75 c166,
   ok_some rfl Try.func76 c108,
   ok_some rfl Try.func77 c109,
   ok_some rfl Try.func78 c167,
   ok_some rfl Try.func79 c168,
   ok_some rfl Try.func80 c47,
   ok_some rfl Try.func81 c125,
   ok_some rfl Try.func82 c169,
   ok_none rfl,
   ok_none rfl,
   ok_none rfl,
   ok_none rfl,
   ok_none rfl,
   ok_none rfl,
   ok_none rfl,
   ok_none rfl,
   ok_none rfl,
   ok_none rfl,
   ok_none rfl,
   ok_none rfl,
   ok_none rfl,
   ok_none rfl,
   ok_none rfl,
   ok_none rfl, trivial⟩
theorem mixed : Try.prog.follows .mixedOrders = true := by kernel_rfl
theorem hprog0 : HProg Try.prog rn (DJ Try.prog rn) N0 := hprog_of all rfl
theorem awake_true : isTrue (exCall N0 200 40 (rn 8) [] ⟨[], 0⟩) = true := by decide +kernel
theorem awake_given : PrimFn Try.prog 8 Try.f8 awakeN := closed_prim hprog0 mixed (by kernel_rfl) (by kernel_rfl) awake_true
theorem less_given : PrimFn Try.prog 48 Try.f48 lessN := less_prim hprog0 mixed (k := 8) (by kernel_rfl) (by kernel_rfl) less0_ok
theorem hprog1 : HProg Try.prog rn (DJ Try.prog rn) (withF N0 156 lessN) := hprog_with hprog0 Try.func48 less_given (by decide +kernel) (by decide)
theorem hprog : HProg Try.prog rn (DJ Try.prog rn) N := hprog_with hprog1 Try.func8 awake_given (by decide +kernel) (by decide)
end Camp.S
