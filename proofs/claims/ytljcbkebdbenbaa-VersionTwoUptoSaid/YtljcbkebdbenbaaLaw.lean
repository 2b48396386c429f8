/- Cells: May, node, alone, link, Clash. Cells: clashes, Clean. Cells: Clean. Books: New, has, Ready, Waits, Commit, Abort, Version, Cells; a book that there is not. The answer's cells: may, ends, clash; few. The answer's cells: clean. Rows of cells, as a map: few, Map. -/
import Derived.Test.YtljcbkebdbenbaaCode
import Derived.Test.YtljcbkebdbenbaaUseB

set_option linter.unnecessarySimpa false
set_option linter.unusedVariables false
set_option linter.unusedSimpArgs false
set_option linter.unusedSectionVars false
/-! CvVerA -/
namespace Camp
open Go
set_option linter.unusedVariables false
set_option linter.unusedSimpArgs false
set_option maxHeartbeats 4000000
structure Cel where
  f : Int
  s : Int
  c : Int
  o : Int
  p : Int
def encE (x : Cel) : List CV := [.int .i64 x.f, .int .i64 x.s, .int .i64 x.c, .int .i64 x.o, .int .i64 x.p]
def andI (a b : Int) : Int := IntKind.wrap .i64 (BitVec.ofInt IntKind.i64.bits a &&& BitVec.ofInt IntKind.i64.bits b).toNat
theorem andI_fold (a b : Int) : IntKind.wrap .i64 (BitVec.ofInt IntKind.i64.bits a &&& BitVec.ofInt IntKind.i64.bits b).toNat = andI a b := rfl
def mayC (x : Cel) : Prop := (0 ≤ x.f ∧ x.f ≤ 3) ∧ (0 ≤ x.s ∧ x.s ≤ 199) ∧ (0 ≤ x.c ∧ x.c ≤ 15) ∧ (1 ≤ x.o ∧ x.o ≤ 15) ∧ ¬ andI x.o 3 = 0 ∧ ¬ (¬ andI x.o 4 = 0 ∧ andI x.o 1 = 0) ∧ ((0 ≤ x.p ∧ x.p ≤ 15) ∨ x.p = 64)
instance (x : Cel) : Decidable (mayC x) := inferInstanceAs (Decidable (_ ∧ _ ∧ _ ∧ _ ∧ _ ∧ _ ∧ _))
def nodeP (n : Int) : Prop := 0 ≤ n ∧ n < 16
instance (n : Int) : Decidable (nodeP n) := inferInstanceAs (Decidable (_ ∧ _))
def endsP (a b : Cel) : Prop := (andI a.o 3 = 1 ∧ andI b.o 3 = 2) ∨ (andI a.o 3 = 2 ∧ andI b.o 3 = 1)
instance (a b : Cel) : Decidable (endsP a b) := inferInstanceAs (Decidable (_ ∨ _))
def linkP (a b : Cel) (x y : Int) : Prop := a.p = y ∧ b.p = x ∧ a.c = b.c ∧ endsP a b
instance (a b : Cel) (x y : Int) : Decidable (linkP a b x y) := inferInstanceAs (Decidable (_ ∧ _ ∧ _ ∧ _))
/-- Do a cell of x and a cell of y clash? -/
def clashP (a b : Cel) (x y : Int) : Prop :=
  ¬ (mayC a ∧ mayC b ∧ nodeP x ∧ nodeP y) ∨ ((a.f = b.f ∧ a.s = b.s) ∧ (x = y ∨ (¬ linkP a b x y ∧ (a.c = b.c ∨ x = b.p ∨ y = a.p ∨ (a.p = b.p ∧ ¬ a.p = 64)))))
instance (a b : Cel) (x y : Int) : Decidable (clashP a b x y) := inferInstanceAs (Decidable (_ ∨ _))
theorem clash_symm1 {a b : Cel} {x y : Int} (h : clashP a b x y) : clashP b a y x := by
  unfold clashP linkP endsP at *
  rcases h with h | ⟨⟨h1, h2⟩, h3⟩
  · left; intro h'; exact h ⟨h'.2.1, h'.1, h'.2.2.2, h'.2.2.1⟩
  · right
    refine ⟨⟨h1.symm, h2.symm⟩, ?_⟩
    rcases h3 with h3 | ⟨h3, h4⟩
    · exact .inl h3.symm
    · right
      exact ⟨fun h' => h3 ⟨h'.2.1, h'.1, h'.2.2.1.symm, h'.2.2.2.symm.imp (fun e => ⟨e.2, e.1⟩) (fun e => ⟨e.2, e.1⟩)⟩, by omega⟩
theorem clash_symm (a b : Cel) (x y : Int) : clashP a b x y ↔ clashP b a y x := ⟨clash_symm1, clash_symm1⟩
section
variable {k : Nat} {h : Hp} {P : AV → Hp → Prop}
theorem in_ok {n a b : Int} (hP : P (.c (.bool (decide (a ≤ n ∧ n ≤ b)))) h) : callW N (k + 1) 124 [.c (.int .i64 n), .c (.int .i64 a), .c (.int .i64 b)] h P := by
  refine call_intro rfl (by simp only [List.length_cons, List.length_nil]; omega) ?_
  by_cases h1 : a ≤ n
  · by_cases h2 : n ≤ b
    · rw [decide_eq_true ⟨h1, h2⟩] at hP
      simp (maxSteps := 200000) -implicitDefEqProofs only [KA, KB, KC, KD, KE, KF, eq_self, ne_eq, ↓reduceIte, Nat.reduceLT, Nat.reduceEqDiff, Nat.reduceAdd, Nat.reduceLeDiff, Nat.reduceSub, Nat.reduceMul, reduceCtorEq, h1, h2]
      exact hP
    · rw [decide_eq_false (by omega)] at hP
      simp (maxSteps := 200000) -implicitDefEqProofs only [KA, KB, KC, KD, KE, KF, eq_self, ne_eq, ↓reduceIte, Nat.reduceLT, Nat.reduceEqDiff, Nat.reduceAdd, Nat.reduceLeDiff, Nat.reduceSub, Nat.reduceMul, reduceCtorEq, h1, h2]
      exact hP
  · rw [decide_eq_false (by omega)] at hP
    simp (maxSteps := 200000) -implicitDefEqProofs only [KA, KB, KC, KD, KE, KF, eq_self, ne_eq, ↓reduceIte, Nat.reduceLT, Nat.reduceEqDiff, Nat.reduceAdd, Nat.reduceLeDiff, Nat.reduceSub, Nat.reduceMul, reduceCtorEq, h1]
    exact hP
theorem node_ok {n : Int} (hP : P (.c (.bool (decide (nodeP n)))) h) : callW N (k + 1) 122 [.c (.int .i64 n)] h P := by
  refine call_intro rfl (by simp only [List.length_cons, List.length_nil]; omega) ?_
  by_cases h1 : 0 ≤ n
  · by_cases h2 : n < 16
    · rw [decide_eq_true ⟨h1, h2⟩] at hP
      simp (maxSteps := 200000) -implicitDefEqProofs only [KA, KB, KC, KD, KE, KF, eq_self, ne_eq, ↓reduceIte, Nat.reduceLT, Nat.reduceEqDiff, Nat.reduceAdd, Nat.reduceLeDiff, Nat.reduceSub, Nat.reduceMul, reduceCtorEq, h1, h2]
      exact hP
    · rw [decide_eq_false (fun h => h2 h.2)] at hP
      simp (maxSteps := 200000) -implicitDefEqProofs only [KA, KB, KC, KD, KE, KF, eq_self, ne_eq, ↓reduceIte, Nat.reduceLT, Nat.reduceEqDiff, Nat.reduceAdd, Nat.reduceLeDiff, Nat.reduceSub, Nat.reduceMul, reduceCtorEq, h1, h2]
      exact hP
  · rw [decide_eq_false (fun h => h1 h.1)] at hP
    simp (maxSteps := 200000) -implicitDefEqProofs only [KA, KB, KC, KD, KE, KF, eq_self, ne_eq, ↓reduceIte, Nat.reduceLT, Nat.reduceEqDiff, Nat.reduceAdd, Nat.reduceLeDiff, Nat.reduceSub, Nat.reduceMul, reduceCtorEq, h1]
    exact hP
theorem may_ok {x : Cel} (hP : P (.c (.bool (decide (mayC x)))) h) : callW N (k + 2) 121 [.agg (encE x)] h P := by
  obtain ⟨f, s, c, o, p⟩ := x
  have no : ¬ mayC ⟨f, s, c, o, p⟩ → P (.c (.bool false)) h := fun hn => by rw [decide_eq_false hn] at hP; exact hP
  refine call_intro rfl (by simp only [List.length_cons, List.length_nil]; omega) ?_
  have share : (¬ andI o 4 = 0 ∧ decide (andI o 1 = 0) = true) ∨ (¬ andI o 4 = 0 ∧ ¬ andI o 1 = 0) ∨ decide (andI o 4 = 0) = true := by
    by_cases c4 : andI o 4 = 0
    · exact .inr (.inr (decide_eq_true c4))
    · by_cases c1 : andI o 1 = 0
      · exact .inl ⟨c4, decide_eq_true c1⟩
      · exact .inr (.inl ⟨c4, c1⟩)
  obtain ⟨sh, hsh⟩ : ∃ sh : Bool, sh = decide (¬ andI o 4 = 0 ∧ andI o 1 = 0) := ⟨_, rfl⟩
  by_cases m3 : andI o 3 = 0
  · have d3 : decide (andI o 3 = 0) = true := decide_eq_true m3
    have no' := no fun h => h.2.2.2.2.1 m3
    rcases share with ⟨c4, c1⟩ | ⟨c4, c1⟩ | c4
    all_goals first | simp (maxSteps := 200000) -implicitDefEqProofs only [KA, KB, KC, KD, KE, KF, eq_self, ne_eq, ↓reduceIte, Nat.reduceLT, Nat.reduceEqDiff, Nat.reduceAdd, Nat.reduceLeDiff, Nat.reduceSub, Nat.reduceMul, reduceCtorEq, encE, andI_fold, d3, c4, c1] | simp (maxSteps := 200000) -implicitDefEqProofs only [KA, KB, KC, KD, KE, KF, eq_self, ne_eq, ↓reduceIte, Nat.reduceLT, Nat.reduceEqDiff, Nat.reduceAdd, Nat.reduceLeDiff, Nat.reduceSub, Nat.reduceMul, reduceCtorEq, encE, andI_fold, d3, c4]
    all_goals
      refine in_ok ?_
      by_cases c1 : 0 ≤ f ∧ f ≤ 3
      · simp (maxSteps := 200000) -implicitDefEqProofs only [KA, KB, KC, KD, KE, KF, eq_self, ne_eq, ↓reduceIte, Nat.reduceLT, Nat.reduceEqDiff, Nat.reduceAdd, Nat.reduceLeDiff, Nat.reduceSub, Nat.reduceMul, reduceCtorEq, c1]
        refine in_ok ?_
        by_cases c2 : 0 ≤ s ∧ s ≤ 199
        · simp (maxSteps := 200000) -implicitDefEqProofs only [KA, KB, KC, KD, KE, KF, eq_self, ne_eq, ↓reduceIte, Nat.reduceLT, Nat.reduceEqDiff, Nat.reduceAdd, Nat.reduceLeDiff, Nat.reduceSub, Nat.reduceMul, reduceCtorEq, c2]
          refine in_ok ?_
          by_cases c3 : 0 ≤ c ∧ c ≤ 15
          · simp (maxSteps := 200000) -implicitDefEqProofs only [KA, KB, KC, KD, KE, KF, eq_self, ne_eq, ↓reduceIte, Nat.reduceLT, Nat.reduceEqDiff, Nat.reduceAdd, Nat.reduceLeDiff, Nat.reduceSub, Nat.reduceMul, reduceCtorEq, c3]
            refine in_ok ?_
            by_cases c4 : 1 ≤ o ∧ o ≤ 15
            · simp (maxSteps := 200000) -implicitDefEqProofs only [KA, KB, KC, KD, KE, KF, eq_self, ne_eq, ↓reduceIte, Nat.reduceLT, Nat.reduceEqDiff, Nat.reduceAdd, Nat.reduceLeDiff, Nat.reduceSub, Nat.reduceMul, reduceCtorEq, c4]
              exact no'
            · simp (maxSteps := 200000) -implicitDefEqProofs only [KA, KB, KC, KD, KE, KF, eq_self, ne_eq, ↓reduceIte, Nat.reduceLT, Nat.reduceEqDiff, Nat.reduceAdd, Nat.reduceLeDiff, Nat.reduceSub, Nat.reduceMul, reduceCtorEq, c4]
              exact no'
          · simp (maxSteps := 200000) -implicitDefEqProofs only [KA, KB, KC, KD, KE, KF, eq_self, ne_eq, ↓reduceIte, Nat.reduceLT, Nat.reduceEqDiff, Nat.reduceAdd, Nat.reduceLeDiff, Nat.reduceSub, Nat.reduceMul, reduceCtorEq, c3]
            exact no'
        · simp (maxSteps := 200000) -implicitDefEqProofs only [KA, KB, KC, KD, KE, KF, eq_self, ne_eq, ↓reduceIte, Nat.reduceLT, Nat.reduceEqDiff, Nat.reduceAdd, Nat.reduceLeDiff, Nat.reduceSub, Nat.reduceMul, reduceCtorEq, c2]
          exact no'
      · simp (maxSteps := 200000) -implicitDefEqProofs only [KA, KB, KC, KD, KE, KF, eq_self, ne_eq, ↓reduceIte, Nat.reduceLT, Nat.reduceEqDiff, Nat.reduceAdd, Nat.reduceLeDiff, Nat.reduceSub, Nat.reduceMul, reduceCtorEq, c1]
        exact no'
  · rcases share with ⟨c4, c1⟩ | ⟨c4, c1⟩ | c4
    case' inl =>
      have no' := no fun h => h.2.2.2.2.2.1 ⟨c4, of_decide_eq_true c1⟩
      simp (maxSteps := 200000) -implicitDefEqProofs only [KA, KB, KC, KD, KE, KF, eq_self, ne_eq, ↓reduceIte, Nat.reduceLT, Nat.reduceEqDiff, Nat.reduceAdd, Nat.reduceLeDiff, Nat.reduceSub, Nat.reduceMul, reduceCtorEq, encE, andI_fold, m3, c4, c1]
      refine in_ok ?_
      by_cases c1 : 0 ≤ f ∧ f ≤ 3
      · simp (maxSteps := 200000) -implicitDefEqProofs only [KA, KB, KC, KD, KE, KF, eq_self, ne_eq, ↓reduceIte, Nat.reduceLT, Nat.reduceEqDiff, Nat.reduceAdd, Nat.reduceLeDiff, Nat.reduceSub, Nat.reduceMul, reduceCtorEq, c1]
        refine in_ok ?_
        by_cases c2 : 0 ≤ s ∧ s ≤ 199
        · simp (maxSteps := 200000) -implicitDefEqProofs only [KA, KB, KC, KD, KE, KF, eq_self, ne_eq, ↓reduceIte, Nat.reduceLT, Nat.reduceEqDiff, Nat.reduceAdd, Nat.reduceLeDiff, Nat.reduceSub, Nat.reduceMul, reduceCtorEq, c2]
          refine in_ok ?_
          by_cases c3 : 0 ≤ c ∧ c ≤ 15
          · simp (maxSteps := 200000) -implicitDefEqProofs only [KA, KB, KC, KD, KE, KF, eq_self, ne_eq, ↓reduceIte, Nat.reduceLT, Nat.reduceEqDiff, Nat.reduceAdd, Nat.reduceLeDiff, Nat.reduceSub, Nat.reduceMul, reduceCtorEq, c3]
            refine in_ok ?_
            by_cases c4 : 1 ≤ o ∧ o ≤ 15
            · simp (maxSteps := 200000) -implicitDefEqProofs only [KA, KB, KC, KD, KE, KF, eq_self, ne_eq, ↓reduceIte, Nat.reduceLT, Nat.reduceEqDiff, Nat.reduceAdd, Nat.reduceLeDiff, Nat.reduceSub, Nat.reduceMul, reduceCtorEq, c4]
              exact no'
            · simp (maxSteps := 200000) -implicitDefEqProofs only [KA, KB, KC, KD, KE, KF, eq_self, ne_eq, ↓reduceIte, Nat.reduceLT, Nat.reduceEqDiff, Nat.reduceAdd, Nat.reduceLeDiff, Nat.reduceSub, Nat.reduceMul, reduceCtorEq, c4]
              exact no'
          · simp (maxSteps := 200000) -implicitDefEqProofs only [KA, KB, KC, KD, KE, KF, eq_self, ne_eq, ↓reduceIte, Nat.reduceLT, Nat.reduceEqDiff, Nat.reduceAdd, Nat.reduceLeDiff, Nat.reduceSub, Nat.reduceMul, reduceCtorEq, c3]
            exact no'
        · simp (maxSteps := 200000) -implicitDefEqProofs only [KA, KB, KC, KD, KE, KF, eq_self, ne_eq, ↓reduceIte, Nat.reduceLT, Nat.reduceEqDiff, Nat.reduceAdd, Nat.reduceLeDiff, Nat.reduceSub, Nat.reduceMul, reduceCtorEq, c2]
          exact no'
      · simp (maxSteps := 200000) -implicitDefEqProofs only [KA, KB, KC, KD, KE, KF, eq_self, ne_eq, ↓reduceIte, Nat.reduceLT, Nat.reduceEqDiff, Nat.reduceAdd, Nat.reduceLeDiff, Nat.reduceSub, Nat.reduceMul, reduceCtorEq, c1]
        exact no'
    case' inr.inl => have ns : ¬ (¬ andI o 4 = 0 ∧ andI o 1 = 0) := fun h => c1 h.2
    case' inr.inr => have ns : ¬ (¬ andI o 4 = 0 ∧ andI o 1 = 0) := fun h => h.1 (of_decide_eq_true c4)
    all_goals first | simp (maxSteps := 200000) -implicitDefEqProofs only [KA, KB, KC, KD, KE, KF, eq_self, ne_eq, ↓reduceIte, Nat.reduceLT, Nat.reduceEqDiff, Nat.reduceAdd, Nat.reduceLeDiff, Nat.reduceSub, Nat.reduceMul, reduceCtorEq, encE, andI_fold, m3, c4, c1] | simp (maxSteps := 200000) -implicitDefEqProofs only [KA, KB, KC, KD, KE, KF, eq_self, ne_eq, ↓reduceIte, Nat.reduceLT, Nat.reduceEqDiff, Nat.reduceAdd, Nat.reduceLeDiff, Nat.reduceSub, Nat.reduceMul, reduceCtorEq, encE, andI_fold, m3, c4]
    all_goals
      refine in_ok ?_
      by_cases c1 : 0 ≤ f ∧ f ≤ 3
      · simp (maxSteps := 200000) -implicitDefEqProofs only [KA, KB, KC, KD, KE, KF, eq_self, ne_eq, ↓reduceIte, Nat.reduceLT, Nat.reduceEqDiff, Nat.reduceAdd, Nat.reduceLeDiff, Nat.reduceSub, Nat.reduceMul, reduceCtorEq, c1]
        refine in_ok ?_
        by_cases c2 : 0 ≤ s ∧ s ≤ 199
        · simp (maxSteps := 200000) -implicitDefEqProofs only [KA, KB, KC, KD, KE, KF, eq_self, ne_eq, ↓reduceIte, Nat.reduceLT, Nat.reduceEqDiff, Nat.reduceAdd, Nat.reduceLeDiff, Nat.reduceSub, Nat.reduceMul, reduceCtorEq, c2]
          refine in_ok ?_
          by_cases c3 : 0 ≤ c ∧ c ≤ 15
          · simp (maxSteps := 200000) -implicitDefEqProofs only [KA, KB, KC, KD, KE, KF, eq_self, ne_eq, ↓reduceIte, Nat.reduceLT, Nat.reduceEqDiff, Nat.reduceAdd, Nat.reduceLeDiff, Nat.reduceSub, Nat.reduceMul, reduceCtorEq, c3]
            refine in_ok ?_
            by_cases c4 : 1 ≤ o ∧ o ≤ 15
            · simp (maxSteps := 200000) -implicitDefEqProofs only [KA, KB, KC, KD, KE, KF, eq_self, ne_eq, ↓reduceIte, Nat.reduceLT, Nat.reduceEqDiff, Nat.reduceAdd, Nat.reduceLeDiff, Nat.reduceSub, Nat.reduceMul, reduceCtorEq, c4]
              refine in_ok ?_
              by_cases c5 : 0 ≤ p ∧ p ≤ 15
              · rw [decide_eq_true (show mayC ⟨f, s, c, o, p⟩ from ⟨c1, c2, c3, c4, m3, ns, .inl c5⟩)] at hP
                simp (maxSteps := 200000) -implicitDefEqProofs only [KA, KB, KC, KD, KE, KF, eq_self, ne_eq, ↓reduceIte, Nat.reduceLT, Nat.reduceEqDiff, Nat.reduceAdd, Nat.reduceLeDiff, Nat.reduceSub, Nat.reduceMul, reduceCtorEq, c5]
                exact hP
              · by_cases c6 : p = 64
                · have d6 : decide (p = 64) = true := decide_eq_true c6
                  rw [decide_eq_true (show mayC ⟨f, s, c, o, p⟩ from ⟨c1, c2, c3, c4, m3, ns, .inr c6⟩)] at hP
                  simp (maxSteps := 200000) -implicitDefEqProofs only [KA, KB, KC, KD, KE, KF, eq_self, ne_eq, ↓reduceIte, Nat.reduceLT, Nat.reduceEqDiff, Nat.reduceAdd, Nat.reduceLeDiff, Nat.reduceSub, Nat.reduceMul, reduceCtorEq, c5, d6]
                  exact hP
                · simp (maxSteps := 200000) -implicitDefEqProofs only [KA, KB, KC, KD, KE, KF, eq_self, ne_eq, ↓reduceIte, Nat.reduceLT, Nat.reduceEqDiff, Nat.reduceAdd, Nat.reduceLeDiff, Nat.reduceSub, Nat.reduceMul, reduceCtorEq, c5, c6]
                  exact no fun h => h.2.2.2.2.2.2.elim c5 c6
            · simp (maxSteps := 200000) -implicitDefEqProofs only [KA, KB, KC, KD, KE, KF, eq_self, ne_eq, ↓reduceIte, Nat.reduceLT, Nat.reduceEqDiff, Nat.reduceAdd, Nat.reduceLeDiff, Nat.reduceSub, Nat.reduceMul, reduceCtorEq, c4]
              exact no fun h => c4 h.2.2.2.1
          · simp (maxSteps := 200000) -implicitDefEqProofs only [KA, KB, KC, KD, KE, KF, eq_self, ne_eq, ↓reduceIte, Nat.reduceLT, Nat.reduceEqDiff, Nat.reduceAdd, Nat.reduceLeDiff, Nat.reduceSub, Nat.reduceMul, reduceCtorEq, c3]
            exact no fun h => c3 h.2.2.1
        · simp (maxSteps := 200000) -implicitDefEqProofs only [KA, KB, KC, KD, KE, KF, eq_self, ne_eq, ↓reduceIte, Nat.reduceLT, Nat.reduceEqDiff, Nat.reduceAdd, Nat.reduceLeDiff, Nat.reduceSub, Nat.reduceMul, reduceCtorEq, c2]
          exact no fun h => c2 h.2.1
      · simp (maxSteps := 200000) -implicitDefEqProofs only [KA, KB, KC, KD, KE, KF, eq_self, ne_eq, ↓reduceIte, Nat.reduceLT, Nat.reduceEqDiff, Nat.reduceAdd, Nat.reduceLeDiff, Nat.reduceSub, Nat.reduceMul, reduceCtorEq, c1]
        exact no fun h => c1 h.1
theorem alone_ok {x : Cel} {q : Int} (hP : P (.c (.bool (decide (andI x.o 3 = q)))) h) : callW N (k + 1) 125 [.agg (encE x), .c (.int .i64 q)] h P := by
  refine call_intro rfl (by simp only [List.length_cons, List.length_nil]; omega) ?_
  simp (maxSteps := 200000) -implicitDefEqProofs only [KA, KB, KC, KD, KE, KF, eq_self, ne_eq, ↓reduceIte, Nat.reduceLT, Nat.reduceEqDiff, Nat.reduceAdd, Nat.reduceLeDiff, Nat.reduceSub, Nat.reduceMul, reduceCtorEq, encE, andI_fold]
  exact hP
theorem link_ok {a b : Cel} {x y : Int} (hP : P (.c (.bool (decide (linkP a b x y)))) h) : callW N (k + 2) 123 [.agg (encE a), .agg (encE b), .c (.int .i64 x), .c (.int .i64 y)] h P := by
  have he : ∀ x : Cel, encE x = [.int .i64 x.f, .int .i64 x.s, .int .i64 x.c, .int .i64 x.o, .int .i64 x.p] := fun _ => rfl
  have no : ¬ linkP a b x y → P (.c (.bool false)) h := fun hn => by rw [decide_eq_false hn] at hP; exact hP
  have ways : (endsP a b ∧ decide (andI a.o 3 = 1) = true ∧ decide (andI b.o 3 = 2) = true) ∨ (¬ endsP a b ∧ decide (andI a.o 3 = 1) = true ∧ ¬ andI b.o 3 = 2 ∧ ¬ andI a.o 3 = 2) ∨ (endsP a b ∧ ¬ andI a.o 3 = 1 ∧ decide (andI a.o 3 = 2) = true ∧ decide (andI b.o 3 = 1) = true) ∨
      (¬ endsP a b ∧ ¬ andI a.o 3 = 1 ∧ decide (andI a.o 3 = 2) = true ∧ ¬ andI b.o 3 = 1) ∨ (¬ endsP a b ∧ ¬ andI a.o 3 = 1 ∧ ¬ andI a.o 3 = 2) := by
    unfold endsP
    simp only [decide_eq_true_eq]
    omega
  refine call_intro rfl (by simp only [List.length_cons, List.length_nil]; omega) ?_
  simp (maxSteps := 200000) -implicitDefEqProofs only [KA, KB, KC, KD, KE, KF, eq_self, ne_eq, ↓reduceIte, Nat.reduceLT, Nat.reduceEqDiff, Nat.reduceAdd, Nat.reduceLeDiff, Nat.reduceSub, Nat.reduceMul, reduceCtorEq, he]
  refine alone_ok (x := a) ?_
  rcases ways with ⟨en, w1, w2⟩ | ⟨en, w1, w2, w3⟩ | ⟨en, w1, w2, w3⟩ | ⟨en, w1, w2, w3⟩ | ⟨en, w1, w2⟩
  case' inl =>
    simp (maxSteps := 200000) -implicitDefEqProofs only [KA, KB, KC, KD, KE, KF, eq_self, ne_eq, ↓reduceIte, Nat.reduceLT, Nat.reduceEqDiff, Nat.reduceAdd, Nat.reduceLeDiff, Nat.reduceSub, Nat.reduceMul, reduceCtorEq, w1]
    refine alone_ok (x := b) ?_
    simp (maxSteps := 200000) -implicitDefEqProofs only [KA, KB, KC, KD, KE, KF, eq_self, ne_eq, ↓reduceIte, Nat.reduceLT, Nat.reduceEqDiff, Nat.reduceAdd, Nat.reduceLeDiff, Nat.reduceSub, Nat.reduceMul, reduceCtorEq, w2]
  case' inr.inl =>
    simp (maxSteps := 200000) -implicitDefEqProofs only [KA, KB, KC, KD, KE, KF, eq_self, ne_eq, ↓reduceIte, Nat.reduceLT, Nat.reduceEqDiff, Nat.reduceAdd, Nat.reduceLeDiff, Nat.reduceSub, Nat.reduceMul, reduceCtorEq, w1]
    refine alone_ok (x := b) ?_
    simp (maxSteps := 200000) -implicitDefEqProofs only [KA, KB, KC, KD, KE, KF, eq_self, ne_eq, ↓reduceIte, Nat.reduceLT, Nat.reduceEqDiff, Nat.reduceAdd, Nat.reduceLeDiff, Nat.reduceSub, Nat.reduceMul, reduceCtorEq, w2]
    refine alone_ok (x := a) ?_
    simp (maxSteps := 200000) -implicitDefEqProofs only [KA, KB, KC, KD, KE, KF, eq_self, ne_eq, ↓reduceIte, Nat.reduceLT, Nat.reduceEqDiff, Nat.reduceAdd, Nat.reduceLeDiff, Nat.reduceSub, Nat.reduceMul, reduceCtorEq, w3]
  case' inr.inr.inl =>
    simp (maxSteps := 200000) -implicitDefEqProofs only [KA, KB, KC, KD, KE, KF, eq_self, ne_eq, ↓reduceIte, Nat.reduceLT, Nat.reduceEqDiff, Nat.reduceAdd, Nat.reduceLeDiff, Nat.reduceSub, Nat.reduceMul, reduceCtorEq, w1]
    refine alone_ok (x := a) ?_
    simp (maxSteps := 200000) -implicitDefEqProofs only [KA, KB, KC, KD, KE, KF, eq_self, ne_eq, ↓reduceIte, Nat.reduceLT, Nat.reduceEqDiff, Nat.reduceAdd, Nat.reduceLeDiff, Nat.reduceSub, Nat.reduceMul, reduceCtorEq, w2]
    refine alone_ok (x := b) ?_
    simp (maxSteps := 200000) -implicitDefEqProofs only [KA, KB, KC, KD, KE, KF, eq_self, ne_eq, ↓reduceIte, Nat.reduceLT, Nat.reduceEqDiff, Nat.reduceAdd, Nat.reduceLeDiff, Nat.reduceSub, Nat.reduceMul, reduceCtorEq, w3]
  case' inr.inr.inr.inl =>
    simp (maxSteps := 200000) -implicitDefEqProofs only [KA, KB, KC, KD, KE, KF, eq_self, ne_eq, ↓reduceIte, Nat.reduceLT, Nat.reduceEqDiff, Nat.reduceAdd, Nat.reduceLeDiff, Nat.reduceSub, Nat.reduceMul, reduceCtorEq, w1]
    refine alone_ok (x := a) ?_
    simp (maxSteps := 200000) -implicitDefEqProofs only [KA, KB, KC, KD, KE, KF, eq_self, ne_eq, ↓reduceIte, Nat.reduceLT, Nat.reduceEqDiff, Nat.reduceAdd, Nat.reduceLeDiff, Nat.reduceSub, Nat.reduceMul, reduceCtorEq, w2]
    refine alone_ok (x := b) ?_
    simp (maxSteps := 200000) -implicitDefEqProofs only [KA, KB, KC, KD, KE, KF, eq_self, ne_eq, ↓reduceIte, Nat.reduceLT, Nat.reduceEqDiff, Nat.reduceAdd, Nat.reduceLeDiff, Nat.reduceSub, Nat.reduceMul, reduceCtorEq, w3]
  case' inr.inr.inr.inr =>
    simp (maxSteps := 200000) -implicitDefEqProofs only [KA, KB, KC, KD, KE, KF, eq_self, ne_eq, ↓reduceIte, Nat.reduceLT, Nat.reduceEqDiff, Nat.reduceAdd, Nat.reduceLeDiff, Nat.reduceSub, Nat.reduceMul, reduceCtorEq, w1]
    refine alone_ok (x := a) ?_
    simp (maxSteps := 200000) -implicitDefEqProofs only [KA, KB, KC, KD, KE, KF, eq_self, ne_eq, ↓reduceIte, Nat.reduceLT, Nat.reduceEqDiff, Nat.reduceAdd, Nat.reduceLeDiff, Nat.reduceSub, Nat.reduceMul, reduceCtorEq, w2]
  all_goals
    by_cases p1 : a.p = y
    · have d1 : decide (a.p = y) = true := decide_eq_true p1
      by_cases p2 : b.p = x
      · have d2 : decide (b.p = x) = true := decide_eq_true p2
        by_cases p3 : a.c = b.c
        · have d3 : decide (a.c = b.c) = true := decide_eq_true p3
          simp (maxSteps := 200000) -implicitDefEqProofs only [KA, KB, KC, KD, KE, KF, eq_self, ne_eq, ↓reduceIte, Nat.reduceLT, Nat.reduceEqDiff, Nat.reduceAdd, Nat.reduceLeDiff, Nat.reduceSub, Nat.reduceMul, reduceCtorEq, d1, d2, d3]
          first
            | exact no (fun h => en h.2.2.2)
            | (rw [decide_eq_true (show linkP a b x y from ⟨p1, p2, p3, en⟩)] at hP
               exact hP)
        · simp (maxSteps := 200000) -implicitDefEqProofs only [KA, KB, KC, KD, KE, KF, eq_self, ne_eq, ↓reduceIte, Nat.reduceLT, Nat.reduceEqDiff, Nat.reduceAdd, Nat.reduceLeDiff, Nat.reduceSub, Nat.reduceMul, reduceCtorEq, d1, d2, p3]
          exact no (fun h => p3 h.2.2.1)
      · simp (maxSteps := 200000) -implicitDefEqProofs only [KA, KB, KC, KD, KE, KF, eq_self, ne_eq, ↓reduceIte, Nat.reduceLT, Nat.reduceEqDiff, Nat.reduceAdd, Nat.reduceLeDiff, Nat.reduceSub, Nat.reduceMul, reduceCtorEq, d1, p2]
        exact no (fun h => p2 h.2.1)
    · simp (maxSteps := 200000) -implicitDefEqProofs only [KA, KB, KC, KD, KE, KF, eq_self, ne_eq, ↓reduceIte, Nat.reduceLT, Nat.reduceEqDiff, Nat.reduceAdd, Nat.reduceLeDiff, Nat.reduceSub, Nat.reduceMul, reduceCtorEq, p1]
      exact no (fun h => p1 h.1)
theorem clash_ok {a b : Cel} {x y : Int} (hP : P (.c (.bool (decide (clashP a b x y)))) h) : callW N (k + 3) 118 [.agg (encE a), .agg (encE b), .c (.int .i64 x), .c (.int .i64 y)] h P := by
  have he : ∀ x : Cel, encE x = [.int .i64 x.f, .int .i64 x.s, .int .i64 x.c, .int .i64 x.o, .int .i64 x.p] := fun _ => rfl
  have no : ¬ clashP a b x y → P (.c (.bool false)) h := fun hn => by rw [decide_eq_false hn] at hP; exact hP
  have yes : clashP a b x y → P (.c (.bool true)) h := fun hn => by rw [decide_eq_true hn] at hP; exact hP
  refine call_intro rfl (by simp only [List.length_cons, List.length_nil]; omega) ?_
  simp (maxSteps := 200000) -implicitDefEqProofs only [KA, KB, KC, KD, KE, KF, eq_self, ne_eq, ↓reduceIte, Nat.reduceLT, Nat.reduceEqDiff, Nat.reduceAdd, Nat.reduceLeDiff, Nat.reduceSub, Nat.reduceMul, reduceCtorEq, he]
  refine may_ok (k := k) (x := a) ?_
  by_cases m1 : mayC a
  · simp (maxSteps := 200000) -implicitDefEqProofs only [KA, KB, KC, KD, KE, KF, eq_self, ne_eq, ↓reduceIte, Nat.reduceLT, Nat.reduceEqDiff, Nat.reduceAdd, Nat.reduceLeDiff, Nat.reduceSub, Nat.reduceMul, reduceCtorEq, m1]
    refine may_ok (k := k) (x := b) ?_
    by_cases m2 : mayC b
    · simp (maxSteps := 200000) -implicitDefEqProofs only [KA, KB, KC, KD, KE, KF, eq_self, ne_eq, ↓reduceIte, Nat.reduceLT, Nat.reduceEqDiff, Nat.reduceAdd, Nat.reduceLeDiff, Nat.reduceSub, Nat.reduceMul, reduceCtorEq, m2]
      refine node_ok ?_
      by_cases m3 : nodeP x
      · simp (maxSteps := 200000) -implicitDefEqProofs only [KA, KB, KC, KD, KE, KF, eq_self, ne_eq, ↓reduceIte, Nat.reduceLT, Nat.reduceEqDiff, Nat.reduceAdd, Nat.reduceLeDiff, Nat.reduceSub, Nat.reduceMul, reduceCtorEq, m3]
        refine node_ok ?_
        by_cases m4 : nodeP y
        · have all : mayC a ∧ mayC b ∧ nodeP x ∧ nodeP y := ⟨m1, m2, m3, m4⟩
          by_cases c1 : a.f = b.f
          · have d1 : decide (a.f = b.f) = true := decide_eq_true c1
            by_cases c2 : a.s = b.s
            · have d2 : decide (a.s = b.s) = true := decide_eq_true c2
              by_cases c3 : x = y
              · have d3 : decide (x = y) = true := decide_eq_true c3
                simp (maxSteps := 200000) -implicitDefEqProofs only [KA, KB, KC, KD, KE, KF, eq_self, ne_eq, ↓reduceIte, Nat.reduceLT, Nat.reduceEqDiff, Nat.reduceAdd, Nat.reduceLeDiff, Nat.reduceSub, Nat.reduceMul, reduceCtorEq, m4, d1, d2, d3]
                exact yes (.inr ⟨⟨c1, c2⟩, .inl c3⟩)
              · simp (maxSteps := 200000) -implicitDefEqProofs only [KA, KB, KC, KD, KE, KF, eq_self, ne_eq, ↓reduceIte, Nat.reduceLT, Nat.reduceEqDiff, Nat.reduceAdd, Nat.reduceLeDiff, Nat.reduceSub, Nat.reduceMul, reduceCtorEq, m4, d1, d2, c3]
                refine link_ok (k := k) (a := a) (b := b) ?_
                by_cases c4 : linkP a b x y
                · simp (maxSteps := 200000) -implicitDefEqProofs only [KA, KB, KC, KD, KE, KF, eq_self, ne_eq, ↓reduceIte, Nat.reduceLT, Nat.reduceEqDiff, Nat.reduceAdd, Nat.reduceLeDiff, Nat.reduceSub, Nat.reduceMul, reduceCtorEq, c4]
                  exact no (fun h => h.elim (fun h => h all) (fun h => h.2.elim c3 (fun h => h.1 c4)))
                · by_cases c5 : a.c = b.c
                  · have d5 : decide (a.c = b.c) = true := decide_eq_true c5
                    simp (maxSteps := 200000) -implicitDefEqProofs only [KA, KB, KC, KD, KE, KF, eq_self, ne_eq, ↓reduceIte, Nat.reduceLT, Nat.reduceEqDiff, Nat.reduceAdd, Nat.reduceLeDiff, Nat.reduceSub, Nat.reduceMul, reduceCtorEq, c4, d5]
                    exact yes (.inr ⟨⟨c1, c2⟩, .inr ⟨c4, .inl c5⟩⟩)
                  · by_cases c6 : x = b.p
                    · have d6 : decide (x = b.p) = true := decide_eq_true c6
                      simp (maxSteps := 200000) -implicitDefEqProofs only [KA, KB, KC, KD, KE, KF, eq_self, ne_eq, ↓reduceIte, Nat.reduceLT, Nat.reduceEqDiff, Nat.reduceAdd, Nat.reduceLeDiff, Nat.reduceSub, Nat.reduceMul, reduceCtorEq, c4, c5, d6]
                      exact yes (.inr ⟨⟨c1, c2⟩, .inr ⟨c4, .inr (.inl c6)⟩⟩)
                    · by_cases c7 : y = a.p
                      · have d7 : decide (y = a.p) = true := decide_eq_true c7
                        simp (maxSteps := 200000) -implicitDefEqProofs only [KA, KB, KC, KD, KE, KF, eq_self, ne_eq, ↓reduceIte, Nat.reduceLT, Nat.reduceEqDiff, Nat.reduceAdd, Nat.reduceLeDiff, Nat.reduceSub, Nat.reduceMul, reduceCtorEq, c4, c5, c6, d7]
                        exact yes (.inr ⟨⟨c1, c2⟩, .inr ⟨c4, .inr (.inr (.inl c7))⟩⟩)
                      · by_cases c8 : a.p = b.p
                        · have d8 : decide (a.p = b.p) = true := decide_eq_true c8
                          by_cases c9 : a.p = 64
                          · have d9 : decide (a.p = 64) = true := decide_eq_true c9
                            simp (maxSteps := 200000) -implicitDefEqProofs only [KA, KB, KC, KD, KE, KF, eq_self, ne_eq, ↓reduceIte, Nat.reduceLT, Nat.reduceEqDiff, Nat.reduceAdd, Nat.reduceLeDiff, Nat.reduceSub, Nat.reduceMul, reduceCtorEq, c4, c5, c6, c7, d8, d9]
                            exact no (fun h => h.elim (fun h => h all) (fun h => h.2.elim c3 (fun h => h.2.elim c5 (fun h => h.elim c6 (fun h => h.elim c7 (fun h => h.2 c9))))))
                          · simp (maxSteps := 200000) -implicitDefEqProofs only [KA, KB, KC, KD, KE, KF, eq_self, ne_eq, ↓reduceIte, Nat.reduceLT, Nat.reduceEqDiff, Nat.reduceAdd, Nat.reduceLeDiff, Nat.reduceSub, Nat.reduceMul, reduceCtorEq, c4, c5, c6, c7, d8, c9]
                            exact yes (.inr ⟨⟨c1, c2⟩, .inr ⟨c4, .inr (.inr (.inr ⟨c8, c9⟩))⟩⟩)
                        · simp (maxSteps := 200000) -implicitDefEqProofs only [KA, KB, KC, KD, KE, KF, eq_self, ne_eq, ↓reduceIte, Nat.reduceLT, Nat.reduceEqDiff, Nat.reduceAdd, Nat.reduceLeDiff, Nat.reduceSub, Nat.reduceMul, reduceCtorEq, c4, c5, c6, c7, c8]
                          exact no (fun h => h.elim (fun h => h all) (fun h => h.2.elim c3 (fun h => h.2.elim c5 (fun h => h.elim c6 (fun h => h.elim c7 (fun h => c8 h.1))))))
            · simp (maxSteps := 200000) -implicitDefEqProofs only [KA, KB, KC, KD, KE, KF, eq_self, ne_eq, ↓reduceIte, Nat.reduceLT, Nat.reduceEqDiff, Nat.reduceAdd, Nat.reduceLeDiff, Nat.reduceSub, Nat.reduceMul, reduceCtorEq, m4, d1, c2]
              exact no (fun h => h.elim (fun h => h all) (fun h => c2 h.1.2))
          · simp (maxSteps := 200000) -implicitDefEqProofs only [KA, KB, KC, KD, KE, KF, eq_self, ne_eq, ↓reduceIte, Nat.reduceLT, Nat.reduceEqDiff, Nat.reduceAdd, Nat.reduceLeDiff, Nat.reduceSub, Nat.reduceMul, reduceCtorEq, m4, c1]
            exact no (fun h => h.elim (fun h => h all) (fun h => c1 h.1.1))
        · simp (maxSteps := 200000) -implicitDefEqProofs only [KA, KB, KC, KD, KE, KF, eq_self, ne_eq, ↓reduceIte, Nat.reduceLT, Nat.reduceEqDiff, Nat.reduceAdd, Nat.reduceLeDiff, Nat.reduceSub, Nat.reduceMul, reduceCtorEq, m4]
          exact yes (.inl fun h => m4 h.2.2.2)
      · simp (maxSteps := 200000) -implicitDefEqProofs only [KA, KB, KC, KD, KE, KF, eq_self, ne_eq, ↓reduceIte, Nat.reduceLT, Nat.reduceEqDiff, Nat.reduceAdd, Nat.reduceLeDiff, Nat.reduceSub, Nat.reduceMul, reduceCtorEq, m3]
        exact yes (.inl fun h => m3 h.2.2.1)
    · simp (maxSteps := 200000) -implicitDefEqProofs only [KA, KB, KC, KD, KE, KF, eq_self, ne_eq, ↓reduceIte, Nat.reduceLT, Nat.reduceEqDiff, Nat.reduceAdd, Nat.reduceLeDiff, Nat.reduceSub, Nat.reduceMul, reduceCtorEq, m2]
      exact yes (.inl fun h => m2 h.2.1)
  · simp (maxSteps := 200000) -implicitDefEqProofs only [KA, KB, KC, KD, KE, KF, eq_self, ne_eq, ↓reduceIte, Nat.reduceLT, Nat.reduceEqDiff, Nat.reduceAdd, Nat.reduceLeDiff, Nat.reduceSub, Nat.reduceMul, reduceCtorEq, m1]
    exact yes (.inl fun h => m1 h.1)
end
end Camp

/-! CvVerB -/
namespace Camp
open Go
set_option linter.unusedVariables false
set_option linter.unusedSimpArgs false
set_option maxHeartbeats 4000000
/-- A cell of a node. -/
structure Hd where
  n : Int
  c : Cel
def encH (x : Hd) : List CV := .int .i64 x.n :: encE x.c
def hitP (L : List Hd) (n : Int) (c : Cel) : Prop := ∃ y ∈ L, clashP y.c c y.n n
open Classical in
noncomputable instance (L : List Hd) (n : Int) (c : Cel) : Decidable (hitP L n c) := propDecidable _
def goodH (x : Hd) : Prop := nodeP x.n ∧ mayC x.c ∧ andI x.c.o 4 = 0
def cleanP (L : List Hd) : Prop := (∀ x ∈ L, goodH x) ∧ L.Pairwise fun a b => ¬ clashP a.c b.c a.n b.n
theorem cleanP_perm {L M : List Hd} (h : L.Perm M) : cleanP L ↔ cleanP M := by
  unfold cleanP
  have h1 : (∀ x ∈ L, goodH x) ↔ ∀ x ∈ M, goodH x := ⟨fun k x hx => k x (h.mem_iff.mpr hx), fun k x hx => k x (h.mem_iff.mp hx)⟩
  have h2 : L.Pairwise (fun a b => ¬ clashP a.c b.c a.n b.n) ↔ M.Pairwise fun a b => ¬ clashP a.c b.c a.n b.n :=
    h.pairwise_iff (fun {a b} k k' => k (clash_symm1 k'))
  rw [h1, h2]
theorem cleanP_left {L M : List Hd} (h : cleanP (L ++ M)) : cleanP L := ⟨fun x hx => h.1 x (by simp [hx]), (List.pairwise_append.mp h.2).1⟩
theorem cleanP_snoc {L : List Hd} {x : Hd} : cleanP (L ++ [x]) ↔ cleanP L ∧ goodH x ∧ ¬ hitP L x.n x.c := by
  unfold cleanP hitP
  rw [List.pairwise_append]
  constructor
  · rintro ⟨h1, h2, h3, h4⟩
    exact ⟨⟨fun y hy => h1 y (by simp [hy]), h2⟩, h1 x (by simp), fun ⟨y, hy, hc⟩ => h4 y hy x (by simp) hc⟩
  · rintro ⟨⟨h1, h2⟩, h3, h4⟩
    refine ⟨fun y hy => ?_, h2, List.pairwise_singleton _ _, fun a ha b hb => ?_⟩
    · rcases List.mem_append.mp hy with hy | hy
      · exact h1 y hy
      · simp at hy; subst hy; exact h3
    · simp at hb; subst hb
      exact fun hc => h4 ⟨a, ha, hc⟩
section
variable {k : Nat} {h : Hp} {P : AV → Hp → Prop}
theorem closure_ok {y : Hd} {c : Cel} {n : Int} {b1 b2 : Nat} (h1 : h.g b1 = some (.rows true 5 0 0 [encE c])) (h2 : h.g b2 = some (.rows true 1 0 0 [[.int .i64 n]])) (hP : P (.c (.bool (decide (clashP y.c c y.n n)))) h) :
    callW N (k + 4) 127 [.agg (encH y), .c (.ptr b1 0 0 0), .c (.ptr b2 0 0 0)] h P := by
  have he : ∀ x : Cel, encE x = [.int .i64 x.f, .int .i64 x.s, .int .i64 x.c, .int .i64 x.o, .int .i64 x.p] := fun _ => rfl
  have hh : encH y = [.int .i64 y.n, .int .i64 y.c.f, .int .i64 y.c.s, .int .i64 y.c.c, .int .i64 y.c.o, .int .i64 y.c.p] := rfl
  rw [he] at h1
  refine call_intro rfl (by simp only [List.length_cons, List.length_nil]; omega) ?_
  simp (maxSteps := 200000) -implicitDefEqProofs only [KA, KB, KC, KD, KE, KF, eq_self, ne_eq, ↓reduceIte, Nat.reduceLT, Nat.reduceEqDiff, Nat.reduceAdd, Nat.reduceLeDiff, Nat.reduceSub, Nat.reduceMul, reduceCtorEq, hh, h1, h2]
  refine clash_ok (k := k) (a := y.c) (b := c) ?_
  simp (maxSteps := 200000) -implicitDefEqProofs only [KA, KB, KC, KD, KE, KF, eq_self, ne_eq, ↓reduceIte, Nat.reduceLT, Nat.reduceEqDiff, Nat.reduceAdd, Nat.reduceLeDiff, Nat.reduceSub, Nat.reduceMul, reduceCtorEq]
  exact hP
theorem clashes_ok {v : CV} {L : List Hd} {n : Int} {c : Cel} (hl : SL h 6 v (L.map encH)) (hn : L.length ≤ 1000000000) (hP : ∀ h', Fn h h' → P (.c (.bool (decide (hitP L n c)))) h') :
    callW N (k + 7) 126 [.c v, .c (.int .i64 n), .agg (encE c)] h P := by
  have he : encE c = [.int .i64 c.f, .int .i64 c.s, .int .i64 c.c, .int .i64 c.o, .int .i64 c.p] := rfl
  obtain ⟨h2, hh2⟩ : ∃ h2, h2 = (h.push (.rows true 1 0 0 [[.int .i64 n]])).push (.rows true 5 0 0 [[.int .i64 c.f, .int .i64 c.s, .int .i64 c.c, .int .i64 c.o, .int .i64 c.p]]) := ⟨_, rfl⟩
  have hb1 : h2.g h.n = some (.rows true 1 0 0 [[.int .i64 n]]) := by rw [hh2, g_push_ne _ _ (by rw [n_push]; omega), g_push_eq]
  have hb2 : h2.g (h.n + 1) = some (.rows true 5 0 0 [encE c]) := by rw [hh2, ← n_push h (.rows true 1 0 0 [[.int .i64 n]]), g_push_eq]; rfl
  have hf2 : Fn h h2 := by rw [hh2]; exact (Fm.push _ _ _).trans (Fm.push _ _ _)
  have hfold := hh2.symm
  refine call_intro rfl (by simp only [List.length_cons, List.length_nil]; omega) ?_
  simp (maxSteps := 200000) -implicitDefEqProofs only [KA, KB, KC, KD, KE, KF, eq_self, ne_eq, ↓reduceIte, Nat.reduceLT, Nat.reduceEqDiff, Nat.reduceAdd, Nat.reduceLeDiff, Nat.reduceSub, Nat.reduceMul, reduceCtorEq, he, hfold]
  refine call_intro (nt := 9) rfl (by simp only [List.length_cons, List.length_nil]; omega) ?_
  simp (maxSteps := 200000) -implicitDefEqProofs only [KA, KB, KC, KD, KE, KF, eq_self, ne_eq, ↓reduceIte, Nat.reduceLT, Nat.reduceEqDiff, Nat.reduceAdd, Nat.reduceLeDiff, Nat.reduceSub, Nat.reduceMul, reduceCtorEq]
  refine indexF_ok (k := k + 4) (f := 129) (sz := 6) (enc := encH) (p := fun y => decide (clashP y.c c y.n n)) rfl (fun x => rfl)
    (fun x h' Q hf hq => closure_ok (k := k) (hf.some hb2 (fun e => e)) (hf.some hb1 (fun e => e)) (hq _ (Fm.refl _ _))) (hl.new hf2) hn (fun h3 hf3 hno => ?_) fun h3 i y hf3 hy hpy hno => ?_
  · have z : ¬ ((0 : Int) ≤ -1) := by omega
    have hnh : ¬ hitP L n c := fun ⟨y, hy, hc⟩ => by have := hno y hy; simp [hc] at this
    have := hP h3 (hf2.trans hf3)
    rw [decide_eq_false hnh] at this
    simp (maxSteps := 200000) -implicitDefEqProofs only [KA, KB, KC, KD, KE, KF, eq_self, ne_eq, ↓reduceIte, Nat.reduceLT, Nat.reduceEqDiff, Nat.reduceAdd, Nat.reduceLeDiff, Nat.reduceSub, Nat.reduceMul, reduceCtorEq, z]
    exact this
  · have z : (0 : Int) ≤ (i : Int) := by omega
    have hh : hitP L n c := ⟨y, List.mem_of_getElem? hy, by simpa using hpy⟩
    have := hP h3 (hf2.trans hf3)
    rw [decide_eq_true hh] at this
    simp (maxSteps := 200000) -implicitDefEqProofs only [KA, KB, KC, KD, KE, KF, eq_self, ne_eq, ↓reduceIte, Nat.reduceLT, Nat.reduceEqDiff, Nat.reduceAdd, Nat.reduceLeDiff, Nat.reduceSub, Nat.reduceMul, reduceCtorEq, z]
    exact this
end
end Camp

/-! CvVerC -/
namespace Camp
open Go
set_option linter.unusedVariables false
set_option linter.unusedSimpArgs false
set_option maxHeartbeats 4000000
theorem born_mem {es : List ME} (hnd : (es.map (·.born)).Nodup) {a b : ME} (ha : a ∈ es) (hb : b ∈ es) (h : a.born = b.born) : a = b := by
  induction es with
  | nil => cases ha
  | cons y es ih =>
    rw [List.map_cons, List.nodup_cons] at hnd
    rcases List.mem_cons.mp ha with h1 | h1
    · rcases List.mem_cons.mp hb with h2 | h2
      · rw [h1, h2]
      · exact absurd (by rw [← h1, h]; exact List.mem_map_of_mem h2) hnd.1
    · rcases List.mem_cons.mp hb with h2 | h2
      · exact absurd (by rw [← h2, ← h]; exact List.mem_map_of_mem h1) hnd.1
      · exact ih hnd.2 h1 h2
theorem sub_perm {es : List ME} : ∀ {V : List ME}, (V.map (·.born)).Nodup → (∀ e ∈ V, e ∈ es) → ∃ R, es.Perm (V ++ R)
  | [], _, _ => ⟨es, List.Perm.refl _⟩
  | v :: V, hn, hs => by
    rw [List.map_cons, List.nodup_cons] at hn
    obtain ⟨R, hR⟩ := sub_perm hn.2 (fun e he => hs e (by simp [he]))
    have hv := hR.mem_iff.mp (hs v (by simp))
    rcases List.mem_append.mp hv with hv | hv
    · exact absurd (List.mem_map_of_mem hv) hn.1
    · obtain ⟨A, B, rfl⟩ := List.append_of_mem hv
      refine ⟨A ++ B, hR.trans ?_⟩
      have : (V ++ (A ++ v :: B)).Perm (v :: (V ++ (A ++ B))) := by
        rw [← List.append_assoc, ← List.append_assoc]
        exact List.perm_middle
      exact this
section
variable {k : Nat} {h : Hp} {P : AV → Hp → Prop} {F : ME → Int × List Cel}
def flatE (F : ME → Int × List Cel) (e : ME) : List Hd := (F e).2.map fun c => ⟨(F e).1, c⟩
def flatM (F : ME → Int × List Cel) (es : List ME) : List Hd := es.flatMap (flatE F)
theorem flat_snoc (V : List ME) (e : ME) : flatM F (V ++ [e]) = flatM F V ++ flatE F e := by simp [flatM]
theorem clean_sub {es V : List ME} (hn : (V.map (·.born)).Nodup) (hs : ∀ e ∈ V, e ∈ es) (h : cleanP (flatM F es)) : cleanP (flatM F V) := by
  obtain ⟨R, hR⟩ := sub_perm hn hs
  have hp : (flatM F es).Perm (flatM F V ++ flatM F R) := by
    have := hR.flatMap_right (flatE F)
    rw [List.flatMap_append] at this
    exact this
  exact cleanP_left ((cleanP_perm hp).mp h)
theorem clean_all {es V : List ME} (hnes : (es.map (·.born)).Nodup) (hn : (V.map (·.born)).Nodup) (hs : ∀ e ∈ V, e ∈ es) (ha : ∀ e ∈ es, e.born ∈ V.map (·.born)) : cleanP (flatM F es) ↔ cleanP (flatM F V) := by
  obtain ⟨R, hR⟩ := sub_perm hn hs
  have hRn : R = [] := by
    cases R with
    | nil => rfl
    | cons r R =>
      have hr : r ∈ es := hR.mem_iff.mpr (by simp)
      have h1 := ha r hr
      have h2 := (hR.map (·.born)).nodup_iff.mp hnes
      rw [List.map_append, List.nodup_append] at h2
      exact absurd rfl (h2.2.2 r.born h1 r.born (by simp))
  subst hRn
  rw [List.append_nil] at hR
  exact cleanP_perm (hR.flatMap_right (flatE F))
open Classical in
noncomputable instance (L : List Hd) : Decidable (cleanP L) := propDecidable _
open Classical in
noncomputable instance (x : Hd) : Decidable (goodH x) := propDecidable _
def ClnI (F : ME → Int × List Cel) (h : Hp) (m clock : Nat) (es : List ME) (n : Nat) (st : St) : Prop :=
  ∃ (V : List ME) (w : CV) (h' : Hp) (l : List (Nat × TV)) (lc : List (List CV)), st = ST 48 l lc h' ∧ (∀ e ∈ V, e ∈ es) ∧ (V.map (·.born)).Nodup ∧ n = es.length - V.length ∧ Ow h' 6 w ((flatM F V).map encH) ∧ cleanP (flatM F V) ∧
    h'.g h.n = some (.miter (some m) clock (V.map (·.born)) clock) ∧ Fn h h' ∧ (∀ j, ownId w j → h.n + 1 ≤ j) ∧ h.n + 1 ≤ h'.n ∧ lk l 3 = .v (.c w) ∧ lk l 9 = .v (.c (.it h.n))
def ClnJ (F : ME → Int × List Cel) (h : Hp) (m clock : Nat) (V : List ME) (e : ME) (v : CV) (n : Nat) (st : St) : Prop :=
  ∃ (j : Nat) (w : CV) (h' : Hp) (l : List (Nat × TV)) (lc : List (List CV)), st = ST 48 l lc h' ∧ j ≤ (F e).2.length ∧ n = (F e).2.length - j ∧ Ow h' 6 w ((flatM F V ++ (flatE F e).take j).map encH) ∧ cleanP (flatM F V ++ (flatE F e).take j) ∧
    h'.g h.n = some (.miter (some m) clock (V.map (·.born) ++ [e.born]) clock) ∧ Fn h h' ∧ (∀ j, ownId w j → h.n + 1 ≤ j) ∧ h.n + 1 ≤ h'.n ∧ lk l 3 = .v (.c w) ∧ lk l 4 = .v (.c (.int .i64 (F e).1)) ∧ lk l 9 = .v (.c (.it h.n)) ∧ lk l 15 = .v (.c v) ∧ lk l 16 = .v (.c (.int .i64 (F e).2.length)) ∧ lk l 17 = .v (.c (.int .i64 j))
theorem clean_ok {m clock : Nat} {wr : Bool} {es : List ME} (hm : h.g m = some (.map wr es clock)) (hb : ∀ e ∈ es, e.born < clock) (hnd : (es.map (·.born)).Nodup)
    (hF : ∀ e ∈ es, e.key = .c (.int .i64 (F e).1) ∧ ∃ v, e.val = .c v ∧ SL h 5 v ((F e).2.map encE)) (hsz : (flatM F es).length ≤ 1000000000)
    (hP : ∀ h', Fn h h' → P (.c (.bool (decide (cleanP (flatM F es))))) h') : callW N (k + 8) 120 [.c (.map m)] h P := by
  have hmn := lt_of_g hm
  have hrg := rgn_map hm
  refine call_intro rfl (by simp only [List.length_cons, List.length_nil]; omega) ?_
  simp (maxSteps := 200000) -implicitDefEqProofs only [KA, KB, KC, KD, KE, KF, eq_self, ne_eq, ↓reduceIte, Nat.reduceLT, Nat.reduceEqDiff, Nat.reduceAdd, Nat.reduceLeDiff, Nat.reduceSub, Nat.reduceMul, reduceCtorEq, hrg]
  refine loop_rd (callW_mono N _) (ClnI F h m clock es) (n := es.length) ⟨[], .nils, _, _, _, rfl, by simp, by simp, by simp, rfl, ⟨by simp [flatM], by simp [flatM]⟩, by rw [g_push_eq]; rfl, Fm.push _ _ _, fun _ e => e.elim, by rw [n_push]; exact Nat.le_refl _, rfl, rfl⟩ ?_
  rintro n st ⟨V, w, h2, l, lc, rfl, hV, hVn, hn, how, hcl, hit, hf2, hid, hn2, e3, e9⟩
  have hm2 := hf2.some hm (fun e => e)
  simp (maxSteps := 200000) -implicitDefEqProofs only [KA, KB, KC, KD, KE, KF, eq_self, ne_eq, ↓reduceIte, Nat.reduceLT, Nat.reduceEqDiff, Nat.reduceAdd, Nat.reduceLeDiff, Nat.reduceSub, Nat.reduceMul, reduceCtorEq, e3, e9]
  refine nx_map (id := h.n) (m := m) (clock := clock) (seen := V.map (·.born)) (by simp only [evN_t, lk_cons, lk_nil]; rfl) hit hm2 hb (fun e he hnb => ?_) fun hall => ?_
  · obtain ⟨hk, v, hv, hsl⟩ := hF e he
    have heV : ∀ x ∈ V ++ [e], x ∈ es := by
      intro x hx
      rcases List.mem_append.mp hx with hx | hx
      · exact hV x hx
      · simp at hx; subst hx; exact he
    have hVe : ((V ++ [e]).map (·.born)).Nodup := by
      rw [List.map_append, List.nodup_append]
      refine ⟨hVn, by simp, ?_⟩
      intro a ha b hb2
      simp at hb2
      subst hb2
      rintro rfl
      exact hnb ha
    obtain ⟨h3, hh3⟩ : ∃ h3, h3 = h2.put h.n (.miter (some m) clock (V.map (·.born) ++ [e.born]) clock) := ⟨_, rfl⟩
    have hf3 : Fm (fun j => j = h.n) h2 h3 := by rw [hh3]; exact Fm.put _ _ rfl
    have hit3 : h3.g h.n = some (.miter (some m) clock (V.map (·.born) ++ [e.born]) clock) := by rw [hh3, g_put_eq, hit]; rfl
    have hm3 := hf3.some hm2 (fun e => by omega)
    have hen := entry_at hit3 hm3 he hnd
    rw [hk, hv] at hen
    have hf03 : Fn h h3 := ⟨Nat.le_trans hf2.n hf3.n, fun j hj hS => by rw [hf3.g j (by have := hf2.n; omega) (by omega)]; exact hf2.g j hj hS⟩
    have hlen : ∀ h' : Hp, lenT h' .sl (.v (.c v)) = some ((F e).2.length : Int) := fun h' => by rw [hsl.len h', List.length_map]
    have hfold3 := hh3.symm
    have hsub := clean_sub (F := F) hVe heV
    have hlenV : (V ++ [e]).length ≤ es.length := by
      obtain ⟨R, hR⟩ := sub_perm hVe heV
      have := hR.length_eq
      rw [List.length_append] at this
      omega
    have hszV : (flatM F (V ++ [e])).length ≤ 1000000000 := by
      obtain ⟨R, hR⟩ := sub_perm hVe heV
      have hp := (hR.flatMap_right (flatE F)).length_eq
      rw [List.flatMap_append, List.length_append] at hp
      unfold flatM at hsz ⊢
      omega
    simp (maxSteps := 200000) -implicitDefEqProofs only [KA, KB, KC, KD, KE, KF, eq_self, ne_eq, ↓reduceIte, Nat.reduceLT, Nat.reduceEqDiff, Nat.reduceAdd, Nat.reduceLeDiff, Nat.reduceSub, Nat.reduceMul, reduceCtorEq, hfold3, hen, hlen]
    refine loop_rd (callW_mono N _) (ClnJ F h m clock V e v) (n := (F e).2.length) ⟨0, w, h3, _, _, rfl, by omega, by omega, by rw [List.take_zero, List.append_nil]; exact how.mono hf3 (fun j hj e => by have := hid j hj; omega), by rw [List.take_zero, List.append_nil]; exact hcl, hit3, hf03, hid, by have := hf3.n; omega, rfl, rfl, rfl, rfl, rfl, rfl⟩ ?_
    clear e3 e9
    rintro n2 st ⟨j, u, h4, l, lc, rfl, hj, hn4, hou, hcl4, hit4, hf4, hid4, hnn4, e3, e4, e9, e15, e16, e17⟩
    by_cases hlt : (j : Int) < (F e).2.length
    · have hjl : j < (F e).2.length := by omega
      obtain ⟨c, hc⟩ : ∃ c, (F e).2[j]? = some c := ⟨_, List.getElem?_eq_getElem hjl⟩
      have hrow : ((F e).2.map encE)[(j : Int).toNat]? = some (encE c) := by simp [hc]
      obtain ⟨p1, p2, p3, a1, a2⟩ := (hsl.new hf4).at (by omega) hrow
      rw [show encE c = [.int .i64 c.f, .int .i64 c.s, .int .i64 c.c, .int .i64 c.o, .int .i64 c.p] from rfl] at a2
      have hw := wrap_i64 (n := (j : Int) + 1) (by
        have : (F e).2.length ≤ (flatM F (V ++ [e])).length := by rw [flat_snoc, List.length_append]; unfold flatE; rw [List.length_map]; omega
        omega)
      have htk : (flatE F e).take (j + 1) = (flatE F e).take j ++ [⟨(F e).1, c⟩] := take_snoc (by unfold flatE; rw [List.getElem?_map, hc]; rfl)
      have hlenF : (flatM F V ++ (flatE F e).take j).length ≤ 1000000000 := by
        rw [flat_snoc, List.length_append] at hszV
        rw [List.length_append, List.length_take]
        omega
      have bad : ¬ (goodH ⟨(F e).1, c⟩ ∧ ¬ hitP (flatM F V ++ (flatE F e).take j) (F e).1 c) → ∀ h', Fn h h' → P (.c (.bool false)) h' := by
        intro hbad h' hf'
        have hnc : ¬ cleanP (flatM F es) := by
          intro hes
          have h1 := hsub hes
          rw [flat_snoc, ← List.take_append_drop (j + 1) (flatE F e), ← List.append_assoc] at h1
          have h2 := cleanP_left h1
          rw [htk, ← List.append_assoc] at h2
          exact hbad (cleanP_snoc.mp h2).2
        have := hP h' hf'
        rw [decide_eq_false hnc] at this
        exact this
      simp (maxSteps := 200000) -implicitDefEqProofs only [KA, KB, KC, KD, KE, KF, eq_self, ne_eq, ↓reduceIte, Nat.reduceLT, Nat.reduceEqDiff, Nat.reduceAdd, Nat.reduceLeDiff, Nat.reduceSub, Nat.reduceMul, reduceCtorEq, e3, e4, e9, e15, e16, e17, hlt, a1, a2]
      refine node_ok ?_
      by_cases g1 : nodeP (F e).1
      · simp (maxSteps := 200000) -implicitDefEqProofs only [KA, KB, KC, KD, KE, KF, eq_self, ne_eq, ↓reduceIte, Nat.reduceLT, Nat.reduceEqDiff, Nat.reduceAdd, Nat.reduceLeDiff, Nat.reduceSub, Nat.reduceMul, reduceCtorEq, g1]
        refine may_ok (k := k + 5) (x := c) ?_
        by_cases g2 : mayC c
        · by_cases g3 : andI c.o 4 = 0
          · have d3 : decide (andI c.o 4 = 0) = true := decide_eq_true g3
            simp (maxSteps := 200000) -implicitDefEqProofs only [KA, KB, KC, KD, KE, KF, eq_self, ne_eq, ↓reduceIte, Nat.reduceLT, Nat.reduceEqDiff, Nat.reduceAdd, Nat.reduceLeDiff, Nat.reduceSub, Nat.reduceMul, reduceCtorEq, g2, andI_fold, d3]
            refine clashes_ok (k := k) (c := c) hou.sl hlenF fun h5 hf5 => ?_
            by_cases g4 : hitP (flatM F V ++ (flatE F e).take j) (F e).1 c
            · simp (maxSteps := 200000) -implicitDefEqProofs only [KA, KB, KC, KD, KE, KF, eq_self, ne_eq, ↓reduceIte, Nat.reduceLT, Nat.reduceEqDiff, Nat.reduceAdd, Nat.reduceLeDiff, Nat.reduceSub, Nat.reduceMul, reduceCtorEq, g4]
              exact bad (fun h => h.2 g4) _ (hf4.trans hf5)
            · obtain ⟨u', h6, f1, f2, f3, f4⟩ := (hou.new hf5).app (lc := [[.int .i64 c.f, .int .i64 c.s, .int .i64 c.c, .int .i64 c.o, .int .i64 c.p], [.int .i64 (F e).1, .int .i64 c.f, .int .i64 c.s, .int .i64 c.c, .int .i64 c.o, .int .i64 c.p]]) (x := .lsl 1 1) (xs := [[.int .i64 (F e).1, .int .i64 c.f, .int .i64 c.s, .int .i64 c.c, .int .i64 c.o, .int .i64 c.p]]) rfl (by simp) (bytes := 48) (by rw [List.length_map]; simp only [room, List.length_singleton]; omega)
              simp (maxSteps := 200000) -implicitDefEqProofs only [KA, KB, KC, KD, KE, KF, eq_self, ne_eq, ↓reduceIte, Nat.reduceLT, Nat.reduceEqDiff, Nat.reduceAdd, Nat.reduceLeDiff, Nat.reduceSub, Nat.reduceMul, reduceCtorEq, g4, f1, hw, rd_n]
              refine ⟨n2 - 1, by omega, j + 1, u', h6, _, _, rfl, by omega, by omega, ?_, ?_, f3.some (hf5.some hit4 (fun e => e)) (fun e => by have := hid4 _ e; omega), (hf4.trans hf5).comp f3 (fun i hi e => by have := hid4 _ e; omega), (fun i hi => (f4 i hi).elim (hid4 i) (fun e => by have := hf5.n; omega)), (by have := hf5.n; have := f3.n; omega), rfl, rfl, rfl, rfl, rfl, rfl⟩
              · rw [htk, ← List.append_assoc, List.map_append]
                exact f2
              · rw [htk, ← List.append_assoc]
                exact cleanP_snoc.mpr ⟨hcl4, ⟨g1, g2, g3⟩, g4⟩
          · simp (maxSteps := 200000) -implicitDefEqProofs only [KA, KB, KC, KD, KE, KF, eq_self, ne_eq, ↓reduceIte, Nat.reduceLT, Nat.reduceEqDiff, Nat.reduceAdd, Nat.reduceLeDiff, Nat.reduceSub, Nat.reduceMul, reduceCtorEq, g2, andI_fold, g3]
            exact bad (fun h => g3 h.1.2.2) _ hf4
        · simp (maxSteps := 200000) -implicitDefEqProofs only [KA, KB, KC, KD, KE, KF, eq_self, ne_eq, ↓reduceIte, Nat.reduceLT, Nat.reduceEqDiff, Nat.reduceAdd, Nat.reduceLeDiff, Nat.reduceSub, Nat.reduceMul, reduceCtorEq, g2]
          exact bad (fun h => g2 h.1.2.1) _ hf4
      · simp (maxSteps := 200000) -implicitDefEqProofs only [KA, KB, KC, KD, KE, KF, eq_self, ne_eq, ↓reduceIte, Nat.reduceLT, Nat.reduceEqDiff, Nat.reduceAdd, Nat.reduceLeDiff, Nat.reduceSub, Nat.reduceMul, reduceCtorEq, g1]
        exact bad (fun h => g1 h.1.1) _ hf4
    · simp (maxSteps := 200000) -implicitDefEqProofs only [KA, KB, KC, KD, KE, KF, eq_self, ne_eq, ↓reduceIte, Nat.reduceLT, Nat.reduceEqDiff, Nat.reduceAdd, Nat.reduceLeDiff, Nat.reduceSub, Nat.reduceMul, reduceCtorEq, e3, e4, e9, e15, e16, e17, hlt, rd_n]
      have htl : (flatE F e).take j = flatE F e := List.take_of_length_le (by unfold flatE; rw [List.length_map]; omega)
      rw [htl, ← flat_snoc] at hou hcl4
      refine ⟨n - 1, ?_, V ++ [e], u, h4, _, _, rfl, heV, hVe, ?_, hou, hcl4, by rw [List.map_append]; exact hit4, hf4, hid4, hnn4, rfl, rfl⟩
      · rw [List.length_append, List.length_singleton] at hlenV; omega
      · rw [List.length_append, List.length_singleton] at hlenV ⊢; omega
  · simp (maxSteps := 200000) -implicitDefEqProofs only [KA, KB, KC, KD, KE, KF, eq_self, ne_eq, ↓reduceIte, Nat.reduceLT, Nat.reduceEqDiff, Nat.reduceAdd, Nat.reduceLeDiff, Nat.reduceSub, Nat.reduceMul, reduceCtorEq]
    have := hP h2 hf2
    rw [decide_eq_true ((clean_all hnd hVn hV hall).mpr hcl)] at this
    exact this
end
end Camp

/-! CvVerD -/
namespace Camp
open Go
set_option linter.unusedVariables false
set_option linter.unusedSimpArgs false
set_option maxHeartbeats 4000000
theorem b_mn1 (id : Nat) : binC .eql .map (.map id) .nilm = some (.bool false) := rfl
theorem b_mn2 (id : Nat) : binC .neq .map (.map id) .nilm = some (.bool true) := rfl
theorem b_mn3 : binC .eql .map .nilm .nilm = some (.bool true) := rfl
theorem b_mn4 : binC .neq .map .nilm .nilm = some (.bool false) := rfl
def Bk (h : Hp) (b : Nat) (n v l : Int) (c x r : CV) : Prop := h.g b = some (.rows true 6 0 0 [[.int .i64 n, .int .i64 v, .int .i64 l, c, x, r]])
/-- Who is ready, as a map. -/
def flM (F : Nat → Bool) : AV → Option AV
  | .c (.int .i64 i) => if 0 ≤ i ∧ F i.toNat = true then some (.c (.int .i64 1)) else none
  | _ => none
def left (F : Nat → Bool) (n : Nat) : Nat := ((List.range n).filter fun i => !F i).length
theorem left_succ (F : Nat → Bool) (n : Nat) : left F (n + 1) = left F n + (if F n then 0 else 1) := by
  unfold left
  rw [List.range_succ, List.filter_append, List.length_append]
  cases h : F n <;> simp [h]
theorem left_le (F : Nat → Bool) (n : Nat) : left F n ≤ n := by
  unfold left
  have := List.length_filter_le (fun i => !F i) (List.range n)
  rw [List.length_range] at this
  exact this
section
variable {k : Nat} {h : Hp} {P : AV → Hp → Prop}
theorem bnew_ok {n : Int} (hn : 1 ≤ n ∧ n ≤ 16) (hP : ∀ h', h' = h.push (.rows true 6 0 0 [[.int .i64 n, .int .i64 0, .int .i64 0, .nilm, .nilm, .nilm]]) → P (.c (.ptr h.n 0 0 0)) h') : callW N (k + 1) 131 [.c (.int .i64 n)] h P := by
  have z : max 1 (min n 16) = n := by omega
  refine call_intro rfl (by simp only [List.length_cons, List.length_nil]; omega) ?_
  simp (maxSteps := 200000) -implicitDefEqProofs only [KA, KB, KC, KD, KE, KF, eq_self, ne_eq, ↓reduceIte, Nat.reduceLT, Nat.reduceEqDiff, Nat.reduceAdd, Nat.reduceLeDiff, Nat.reduceSub, Nat.reduceMul, reduceCtorEq, z]
  exact hP _ rfl
theorem bhas_ok {b : Nat} {n v l i : Int} {c x r : CV} (hb : Bk h b n v l c x r) (hP : P (.c (.bool (decide (0 ≤ i ∧ i < n)))) h) : callW N (k + 1) 145 [.c (.ptr b 0 0 0), .c (.int .i64 i)] h P := by
  unfold Bk at hb
  refine call_intro rfl (by simp only [List.length_cons, List.length_nil]; omega) ?_
  by_cases c1 : 0 ≤ i
  · by_cases c2 : i < n
    · simp (maxSteps := 200000) -implicitDefEqProofs only [KA, KB, KC, KD, KE, KF, eq_self, ne_eq, ↓reduceIte, Nat.reduceLT, Nat.reduceEqDiff, Nat.reduceAdd, Nat.reduceLeDiff, Nat.reduceSub, Nat.reduceMul, reduceCtorEq, hb, c1, c2]
      simpa [c1, c2] using hP
    · simp (maxSteps := 200000) -implicitDefEqProofs only [KA, KB, KC, KD, KE, KF, eq_self, ne_eq, ↓reduceIte, Nat.reduceLT, Nat.reduceEqDiff, Nat.reduceAdd, Nat.reduceLeDiff, Nat.reduceSub, Nat.reduceMul, reduceCtorEq, hb, c1, c2]
      simpa [c1, c2] using hP
  · simp (maxSteps := 200000) -implicitDefEqProofs only [KA, KB, KC, KD, KE, KF, eq_self, ne_eq, ↓reduceIte, Nat.reduceLT, Nat.reduceEqDiff, Nat.reduceAdd, Nat.reduceLeDiff, Nat.reduceSub, Nat.reduceMul, reduceCtorEq, hb, c1]
    simpa [c1] using hP
theorem ready_state {b : Nat} {n v l i w : Int} {c r : CV} {x : Nat} (hb : Bk h b n v l c (.map x) r) (hw : ¬ w = l) (hP : P (.c (.int .i64 7)) h) : callW N (k + 2) 134 [.c (.ptr b 0 0 0), .c (.int .i64 i), .c (.int .i64 w)] h P := by
  unfold Bk at hb
  refine call_intro rfl (by simp only [List.length_cons, List.length_nil]; omega) ?_
  simp (maxSteps := 200000) -implicitDefEqProofs only [KA, KB, KC, KD, KE, KF, eq_self, ne_eq, ↓reduceIte, Nat.reduceLT, Nat.reduceEqDiff, Nat.reduceAdd, Nat.reduceLeDiff, Nat.reduceSub, Nat.reduceMul, reduceCtorEq, hb, b_mn1, hw]
  exact hP
theorem ready_old {b : Nat} {n v l : Int} {i : Nat} {c : CV} {x r clock : Nat} {es : List ME} {F : Nat → Bool} (hb : Bk h b n v l c (.map x) (.map r)) (hm : h.g r = some (.map true es clock)) (hM : IsMap (.int .i64) es (flM F)) (hi : (i : Int) < n) (hF : F i = true)
    (hP : P (.c (.int .i64 8)) h) : callW N (k + 2) 134 [.c (.ptr b 0 0 0), .c (.int .i64 i), .c (.int .i64 l)] h P := by
  have hb' := hb
  unfold Bk at hb'
  have hl := look_ok (k := .c (.int .i64 i)) hm hM rfl
  have hv : flM F (.c (.int .i64 i)) = some (.c (.int .i64 1)) := by
    have h0 : (0 : Int) ≤ (i : Int) := by omega
    show (if 0 ≤ (i : Int) ∧ F (i : Int).toNat = true then some (AV.c (.int .i64 1)) else none) = _
    rw [Int.toNat_natCast, if_pos ⟨h0, hF⟩]
  rw [hv] at hl
  have d : decide (0 ≤ (i : Int) ∧ (i : Int) < n) = true := decide_eq_true ⟨by omega, hi⟩
  have z : (0 : Int) < 1 := by omega
  have dl : decide (l = l) = true := by simp
  refine call_intro rfl (by simp only [List.length_cons, List.length_nil]; omega) ?_
  simp (maxSteps := 200000) -implicitDefEqProofs only [KA, KB, KC, KD, KE, KF, eq_self, ne_eq, ↓reduceIte, Nat.reduceLT, Nat.reduceEqDiff, Nat.reduceAdd, Nat.reduceLeDiff, Nat.reduceSub, Nat.reduceMul, reduceCtorEq, hb', b_mn1]
  refine bhas_ok (k := k) hb ?_
  rw [d]
  simp (maxSteps := 200000) -implicitDefEqProofs only [KA, KB, KC, KD, KE, KF, eq_self, ne_eq, ↓reduceIte, Nat.reduceLT, Nat.reduceEqDiff, Nat.reduceAdd, Nat.reduceLeDiff, Nat.reduceSub, Nat.reduceMul, reduceCtorEq, hb', hl, z, Option.getD_some]
  exact hP
theorem ready_new {b : Nat} {n v l : Int} {i : Nat} {c : CV} {x r clock : Nat} {es : List ME} {F F' : Nat → Bool} (hb : Bk h b n v l c (.map x) (.map r)) (hm : h.g r = some (.map true es clock)) (hM : IsMap (.int .i64) es (flM F)) (hi : (i : Int) < n) (hF : F i = false)
    (hF' : F' i = true) (hne : ∀ j, j ≠ i → F' j = F j)
    (hP : ∀ es' clock', IsMap (.int .i64) es' (flM F') → P (.c (.int .i64 0)) (h.put r (.map true es' clock'))) : callW N (k + 2) 134 [.c (.ptr b 0 0 0), .c (.int .i64 i), .c (.int .i64 l)] h P := by
  have hb' := hb
  unfold Bk at hb'
  have hl := look_ok (k := .c (.int .i64 i)) hm hM rfl
  have h0 : (0 : Int) ≤ (i : Int) := by omega
  have hv : flM F (.c (.int .i64 i)) = none := by
    show (if 0 ≤ (i : Int) ∧ F (i : Int).toNat = true then some (AV.c (.int .i64 1)) else none) = _
    rw [Int.toNat_natCast, hF, if_neg (by simp)]
  rw [hv] at hl
  have d : decide (0 ≤ (i : Int) ∧ (i : Int) < n) = true := decide_eq_true ⟨by omega, hi⟩
  have z : ¬ ((0 : Int) < 0) := by omega
  obtain ⟨es', clock', u1, u2⟩ := mupd_ok (M' := flM F') (x := .c (.int .i64 1)) (k := .c (.int .i64 i)) hm hM rfl (by
    show (if 0 ≤ (i : Int) ∧ F' (i : Int).toNat = true then some (AV.c (.int .i64 1)) else none) = _
    rw [Int.toNat_natCast, hF', if_pos ⟨h0, rfl⟩]) (by
    intro k' hk'
    cases k' with
    | c y => cases y with
      | int kk j =>
        cases kk <;> try rfl
        show (if 0 ≤ j ∧ F' j.toNat = true then some (AV.c (.int .i64 1)) else none) = (if 0 ≤ j ∧ F j.toNat = true then some (AV.c (.int .i64 1)) else none)
        by_cases hj : 0 ≤ j
        · rw [hne j.toNat (by intro e; apply hk'; rw [← e, Int.toNat_of_nonneg hj])]
        · rw [if_neg (fun h => hj h.1), if_neg (fun h => hj h.1)]
      | _ => rfl
    | _ => rfl)
  refine call_intro rfl (by simp only [List.length_cons, List.length_nil]; omega) ?_
  simp (maxSteps := 200000) -implicitDefEqProofs only [KA, KB, KC, KD, KE, KF, eq_self, ne_eq, ↓reduceIte, Nat.reduceLT, Nat.reduceEqDiff, Nat.reduceAdd, Nat.reduceLeDiff, Nat.reduceSub, Nat.reduceMul, reduceCtorEq, hb', b_mn1]
  refine bhas_ok (k := k) hb ?_
  rw [d]
  simp (maxSteps := 200000) -implicitDefEqProofs only [KA, KB, KC, KD, KE, KF, eq_self, ne_eq, ↓reduceIte, Nat.reduceLT, Nat.reduceEqDiff, Nat.reduceAdd, Nat.reduceLeDiff, Nat.reduceSub, Nat.reduceMul, reduceCtorEq, hb', hl, z, u1, Option.getD_none]
  exact hP _ _ u2
def cntI (F : Nat → Bool) (h : Hp) (b : Nat) (n : Nat) (m : Nat) (st : St) : Prop :=
  ∃ (j : Nat) (w : CV) (xs : List Int) (h' : Hp) (l : List (Nat × TV)) (lc : List (List CV)), st = ST 34 l lc h' ∧ j ≤ n ∧ m = n - j ∧ Ow h' 1 w (xs.map encI) ∧ xs.length = left F j ∧ Fn h h' ∧ (∀ i, ownId w i → h.n ≤ i) ∧
    lk l 0 = .v (.c (.ptr b 0 0 0)) ∧ lk l 3 = .v (.c w) ∧ lk l 17 = .v (.c (.int .i64 n)) ∧ lk l 18 = .v (.c (.int .i64 j))
theorem waits_none {b : Nat} {n v l : Int} {c r : CV} (hb : Bk h b n v l c .nilm r) (hP : P (.c .nils) h) : callW N (k + 1) 133 [.c (.ptr b 0 0 0)] h P := by
  unfold Bk at hb
  refine call_intro rfl (by simp only [List.length_cons, List.length_nil]; omega) ?_
  simp (maxSteps := 200000) -implicitDefEqProofs only [KA, KB, KC, KD, KE, KF, eq_self, ne_eq, ↓reduceIte, Nat.reduceLT, Nat.reduceEqDiff, Nat.reduceAdd, Nat.reduceLeDiff, Nat.reduceSub, Nat.reduceMul, reduceCtorEq, hb, b_mn3]
  exact hP
theorem waits_ok {b : Nat} {n : Nat} {v l : Int} {c : CV} {x r clock : Nat} {es : List ME} {F : Nat → Bool} (hn : n ≤ 16) (hb : Bk h b n v l c (.map x) (.map r)) (hm : h.g r = some (.map true es clock)) (hM : IsMap (.int .i64) es (flM F))
    (hP : ∀ h' w, (∀ h', lenT h' .sl (.v (.c w)) = some (left F n : Int)) → Fn h h' → P (.c w) h') : callW N (k + 1) 133 [.c (.ptr b 0 0 0)] h P := by
  have hb' := hb
  unfold Bk at hb'
  refine call_intro rfl (by simp only [List.length_cons, List.length_nil]; omega) ?_
  simp (maxSteps := 200000) -implicitDefEqProofs only [KA, KB, KC, KD, KE, KF, eq_self, ne_eq, ↓reduceIte, Nat.reduceLT, Nat.reduceEqDiff, Nat.reduceAdd, Nat.reduceLeDiff, Nat.reduceSub, Nat.reduceMul, reduceCtorEq, hb', b_mn1]
  refine loop_rd (callW_mono N _) (cntI F h b n) (n := n) ⟨0, .nils, [], h, _, _, rfl, Nat.zero_le _, rfl, rfl, rfl, Fm.refl _ _, fun _ e => e.elim, rfl, rfl, rfl, rfl⟩ ?_
  rintro m st ⟨j, w, xs, h2, lt, lc, rfl, hj, hmn, how, hlen, hf, hid, e0, e3, e17, e18⟩
  have hb2 := hf.some hb' (fun e => e)
  have hm2 := hf.some hm (fun e => e)
  have hln : ∀ h' : Hp, lenT h' .sl (.v (.c w)) = some (left F j : Int) := fun h' => by rw [how.sl.len h', List.length_map, hlen]
  by_cases hlt : (j : Int) < n
  · have hl := look_ok (k := .c (.int .i64 j)) hm2 hM rfl
    have hw := wrap_i64 (n := (j : Int) + 1) (by omega)
    have h0 : (0 : Int) ≤ (j : Int) := by omega
    have hs := left_succ F j
    have hle := left_le F j
    cases hF : F j with
    | true =>
      rw [hF, if_pos rfl] at hs
      have hv : flM F (.c (.int .i64 j)) = some (.c (.int .i64 1)) := by
        show (if 0 ≤ (j : Int) ∧ F (j : Int).toNat = true then some (AV.c (.int .i64 1)) else none) = _
        rw [Int.toNat_natCast, if_pos ⟨h0, hF⟩]
      rw [hv] at hl
      have z : ¬ ((1 : Int) = 0) := by omega
      simp (maxSteps := 200000) -implicitDefEqProofs only [KA, KB, KC, KD, KE, KF, eq_self, ne_eq, ↓reduceIte, Nat.reduceLT, Nat.reduceEqDiff, Nat.reduceAdd, Nat.reduceLeDiff, Nat.reduceSub, Nat.reduceMul, reduceCtorEq, e0, e3, e17, e18, hlt, hb2, hl, Option.getD_some, z, hw, rd_n]
      exact ⟨m - 1, by omega, j + 1, w, xs, h2, _, _, rfl, by omega, by omega, how, by omega, hf, hid, rfl, rfl, rfl, rfl⟩
    | false =>
      rw [hF, if_neg (by simp)] at hs
      have hv : flM F (.c (.int .i64 j)) = none := by
        show (if 0 ≤ (j : Int) ∧ F (j : Int).toNat = true then some (AV.c (.int .i64 1)) else none) = _
        rw [Int.toNat_natCast, hF, if_neg (by simp)]
      rw [hv] at hl
      have z : decide ((0 : Int) = 0) = true := rfl
      obtain ⟨w', h3, f1, f2, f3, f4⟩ := how.app (lc := [[.int .i64 j]]) (x := .lsl 0 1) (xs := [[.int .i64 j]]) rfl (by simp) (bytes := 8) (by rw [List.length_map, hlen]; simp only [room, List.length_singleton]; omega)
      simp (maxSteps := 200000) -implicitDefEqProofs only [KA, KB, KC, KD, KE, KF, eq_self, ne_eq, ↓reduceIte, Nat.reduceLT, Nat.reduceEqDiff, Nat.reduceAdd, Nat.reduceLeDiff, Nat.reduceSub, Nat.reduceMul, reduceCtorEq, e0, e3, e17, e18, hlt, hb2, hl, Option.getD_none, z, f1, hw, rd_n]
      refine ⟨m - 1, by omega, j + 1, w', xs ++ [(j : Int)], h3, _, _, rfl, by omega, by omega, by rw [List.map_append]; exact f2, by rw [List.length_append, List.length_singleton]; omega, hf.comp f3 (fun i hi e => by have := hid _ e; omega), fun i hi => (f4 i hi).elim (hid i) (fun e => by have := hf.n; omega), rfl, rfl, rfl, rfl⟩
  · have hjn : j = n := by omega
    subst hjn
    simp (maxSteps := 200000) -implicitDefEqProofs only [KA, KB, KC, KD, KE, KF, eq_self, ne_eq, ↓reduceIte, Nat.reduceLT, Nat.reduceEqDiff, Nat.reduceAdd, Nat.reduceLeDiff, Nat.reduceSub, Nat.reduceMul, reduceCtorEq, e0, e3, e17, e18, hlt, rd_e]
    exact hP _ _ hln hf
theorem commit_state {b : Nat} {n v l : Int} {c r : CV} (hb : Bk h b n v l c .nilm r) (hP : P (.c (.int .i64 7)) h) : callW N (k + 2) 138 [.c (.ptr b 0 0 0)] h P := by
  unfold Bk at hb
  refine call_intro rfl (by simp only [List.length_cons, List.length_nil]; omega) ?_
  simp (maxSteps := 200000) -implicitDefEqProofs only [KA, KB, KC, KD, KE, KF, eq_self, ne_eq, ↓reduceIte, Nat.reduceLT, Nat.reduceEqDiff, Nat.reduceAdd, Nat.reduceLeDiff, Nat.reduceSub, Nat.reduceMul, reduceCtorEq, hb, b_mn3]
  exact hP
theorem commit_ok {b : Nat} {n : Nat} {v l : Int} {c : CV} {x r clock : Nat} {es : List ME} {F : Nat → Bool} (hn : n ≤ 16) (hb : Bk h b n v l c (.map x) (.map r)) (hm : h.g r = some (.map true es clock)) (hM : IsMap (.int .i64) es (flM F))
    (h1 : left F n = 0 → ∀ h', Bk h' b n l l (.map x) .nilm (.map r) → Fm (fun j => j = b) h h' → P (.c (.int .i64 0)) h')
    (h0 : ¬ left F n = 0 → ∀ h', Fn h h' → P (.c (.int .i64 7)) h') : callW N (k + 2) 138 [.c (.ptr b 0 0 0)] h P := by
  have hb' := hb
  unfold Bk at hb'
  refine call_intro rfl (by simp only [List.length_cons, List.length_nil]; omega) ?_
  simp (maxSteps := 200000) -implicitDefEqProofs only [KA, KB, KC, KD, KE, KF, eq_self, ne_eq, ↓reduceIte, Nat.reduceLT, Nat.reduceEqDiff, Nat.reduceAdd, Nat.reduceLeDiff, Nat.reduceSub, Nat.reduceMul, reduceCtorEq, hb', b_mn1]
  refine waits_ok (k := k) hn hb hm hM fun h2 w hw hf => ?_
  have hb2 := hf.some hb' (fun e => e)
  by_cases hz : left F n = 0
  · have z : ¬ ((0 : Int) < (left F n : Int)) := by omega
    simp (maxSteps := 200000) -implicitDefEqProofs only [KA, KB, KC, KD, KE, KF, eq_self, ne_eq, ↓reduceIte, Nat.reduceLT, Nat.reduceEqDiff, Nat.reduceAdd, Nat.reduceLeDiff, Nat.reduceSub, Nat.reduceMul, reduceCtorEq, hw, z, hb2]
    refine h1 hz _ ?_ ?_
    · unfold Bk
      first | rw [g_put_eq] | skip
      simp (maxSteps := 200000) -implicitDefEqProofs only [KA, KB, KC, KD, KE, KF, eq_self, ne_eq, ↓reduceIte, Nat.reduceLT, Nat.reduceEqDiff, Nat.reduceAdd, Nat.reduceLeDiff, Nat.reduceSub, Nat.reduceMul, reduceCtorEq, hb2]
    · exact (hf.mono (fun _ _ h => h.elim)).trans (((Fm.put (S := fun j => j = b) _ _ rfl).trans (Fm.put _ _ rfl)).trans (Fm.put _ _ rfl))
  · have z : ((0 : Int) < (left F n : Int)) := by omega
    simp (maxSteps := 200000) -implicitDefEqProofs only [KA, KB, KC, KD, KE, KF, eq_self, ne_eq, ↓reduceIte, Nat.reduceLT, Nat.reduceEqDiff, Nat.reduceAdd, Nat.reduceLeDiff, Nat.reduceSub, Nat.reduceMul, reduceCtorEq, hw, z]
    exact h0 hz _ hf
theorem abort_ok {b : Nat} {n v l : Int} {c r : CV} {x : Nat} (hb : Bk h b n v l c (.map x) r) (hP : ∀ h', Bk h' b n v l c .nilm r → Fm (fun j => j = b) h h' → P (.c (.int .i64 0)) h') : callW N (k + 1) 135 [.c (.ptr b 0 0 0)] h P := by
  unfold Bk at hb
  refine call_intro rfl (by simp only [List.length_cons, List.length_nil]; omega) ?_
  simp (maxSteps := 200000) -implicitDefEqProofs only [KA, KB, KC, KD, KE, KF, eq_self, ne_eq, ↓reduceIte, Nat.reduceLT, Nat.reduceEqDiff, Nat.reduceAdd, Nat.reduceLeDiff, Nat.reduceSub, Nat.reduceMul, reduceCtorEq, hb, b_mn1]
  refine hP _ ?_ (Fm.put _ _ rfl)
  unfold Bk
  rw [g_put_eq, hb]
  rfl
theorem version_ok {b : Nat} {n v l : Int} {c x r : CV} (hb : Bk h b n v l c x r) (hP : P (.c (.int .i64 v)) h) : callW N (k + 1) 136 [.c (.ptr b 0 0 0)] h P := by
  unfold Bk at hb
  refine call_intro rfl (by simp only [List.length_cons, List.length_nil]; omega) ?_
  simp (maxSteps := 200000) -implicitDefEqProofs only [KA, KB, KC, KD, KE, KF, eq_self, ne_eq, ↓reduceIte, Nat.reduceLT, Nat.reduceEqDiff, Nat.reduceAdd, Nat.reduceLeDiff, Nat.reduceSub, Nat.reduceMul, reduceCtorEq, hb]
  exact hP
end
end Camp

/-! CvVp1 -/
namespace Camp
open Go
set_option linter.unusedVariables false
set_option linter.unusedSimpArgs false
set_option maxHeartbeats 4000000
section
variable {k : Nat} {h : Hp} {P : AV → Hp → Prop}
theorem node44_ok {n : Int} (hP : P (.c (.bool (decide (nodeP n)))) h) : callW N (k + 1) 44 [.c (.int .i64 n)] h P := by
  refine call_intro rfl (by simp only [List.length_cons, List.length_nil]; omega) ?_
  by_cases h1 : 0 ≤ n
  · by_cases h2 : n < 16
    · rw [decide_eq_true ⟨h1, h2⟩] at hP
      simp (maxSteps := 200000) -implicitDefEqProofs only [KA, KB, KC, KD, KE, KF, eq_self, ne_eq, ↓reduceIte, Nat.reduceLT, Nat.reduceEqDiff, Nat.reduceAdd, Nat.reduceLeDiff, Nat.reduceSub, Nat.reduceMul, reduceCtorEq, h1, h2]
      exact hP
    · rw [decide_eq_false (fun h => h2 h.2)] at hP
      simp (maxSteps := 200000) -implicitDefEqProofs only [KA, KB, KC, KD, KE, KF, eq_self, ne_eq, ↓reduceIte, Nat.reduceLT, Nat.reduceEqDiff, Nat.reduceAdd, Nat.reduceLeDiff, Nat.reduceSub, Nat.reduceMul, reduceCtorEq, h1, h2]
      exact hP
  · rw [decide_eq_false (fun h => h1 h.1)] at hP
    simp (maxSteps := 200000) -implicitDefEqProofs only [KA, KB, KC, KD, KE, KF, eq_self, ne_eq, ↓reduceIte, Nat.reduceLT, Nat.reduceEqDiff, Nat.reduceAdd, Nat.reduceLeDiff, Nat.reduceSub, Nat.reduceMul, reduceCtorEq, h1]
    exact hP
theorem rmayc_ok {x : Cel} (hP : P (.c (.bool (decide (mayC x)))) h) : callW N (k + 2) 218 [.agg (encE x)] h P := by
  obtain ⟨f, s, c, o, p⟩ := x
  have no : ¬ mayC ⟨f, s, c, o, p⟩ → P (.c (.bool false)) h := fun hn => by rw [decide_eq_false hn] at hP; exact hP
  refine call_intro rfl (by simp only [List.length_cons, List.length_nil]; omega) ?_
  by_cases q0 : 0 ≤ f
  rotate_left
  · simp (maxSteps := 200000) -implicitDefEqProofs only [KA, KB, KC, KD, KE, KF, eq_self, ne_eq, ↓reduceIte, Nat.reduceLT, Nat.reduceEqDiff, Nat.reduceAdd, Nat.reduceLeDiff, Nat.reduceSub, Nat.reduceMul, reduceCtorEq, encE, q0]
    exact no (fun e => q0 (by simp only [mayC] at e; omega))
  by_cases q1 : f < 4
  rotate_left
  · simp (maxSteps := 200000) -implicitDefEqProofs only [KA, KB, KC, KD, KE, KF, eq_self, ne_eq, ↓reduceIte, Nat.reduceLT, Nat.reduceEqDiff, Nat.reduceAdd, Nat.reduceLeDiff, Nat.reduceSub, Nat.reduceMul, reduceCtorEq, encE, q0, q1]
    exact no (fun e => q1 (by simp only [mayC] at e; omega))
  by_cases q2 : 0 ≤ s
  rotate_left
  · simp (maxSteps := 200000) -implicitDefEqProofs only [KA, KB, KC, KD, KE, KF, eq_self, ne_eq, ↓reduceIte, Nat.reduceLT, Nat.reduceEqDiff, Nat.reduceAdd, Nat.reduceLeDiff, Nat.reduceSub, Nat.reduceMul, reduceCtorEq, encE, q0, q1, q2]
    exact no (fun e => q2 (by simp only [mayC] at e; omega))
  by_cases q3 : s < 200
  rotate_left
  · simp (maxSteps := 200000) -implicitDefEqProofs only [KA, KB, KC, KD, KE, KF, eq_self, ne_eq, ↓reduceIte, Nat.reduceLT, Nat.reduceEqDiff, Nat.reduceAdd, Nat.reduceLeDiff, Nat.reduceSub, Nat.reduceMul, reduceCtorEq, encE, q0, q1, q2, q3]
    exact no (fun e => q3 (by simp only [mayC] at e; omega))
  by_cases q4 : 0 ≤ c
  rotate_left
  · simp (maxSteps := 200000) -implicitDefEqProofs only [KA, KB, KC, KD, KE, KF, eq_self, ne_eq, ↓reduceIte, Nat.reduceLT, Nat.reduceEqDiff, Nat.reduceAdd, Nat.reduceLeDiff, Nat.reduceSub, Nat.reduceMul, reduceCtorEq, encE, q0, q1, q2, q3, q4]
    exact no (fun e => q4 (by simp only [mayC] at e; omega))
  by_cases q5 : c ≤ 15
  rotate_left
  · simp (maxSteps := 200000) -implicitDefEqProofs only [KA, KB, KC, KD, KE, KF, eq_self, ne_eq, ↓reduceIte, Nat.reduceLT, Nat.reduceEqDiff, Nat.reduceAdd, Nat.reduceLeDiff, Nat.reduceSub, Nat.reduceMul, reduceCtorEq, encE, q0, q1, q2, q3, q4, q5]
    exact no (fun e => q5 (by simp only [mayC] at e; omega))
  by_cases q6 : 1 ≤ o
  rotate_left
  · simp (maxSteps := 200000) -implicitDefEqProofs only [KA, KB, KC, KD, KE, KF, eq_self, ne_eq, ↓reduceIte, Nat.reduceLT, Nat.reduceEqDiff, Nat.reduceAdd, Nat.reduceLeDiff, Nat.reduceSub, Nat.reduceMul, reduceCtorEq, encE, q0, q1, q2, q3, q4, q5, q6]
    exact no (fun e => q6 (by simp only [mayC] at e; omega))
  by_cases q7 : o ≤ 15
  rotate_left
  · simp (maxSteps := 200000) -implicitDefEqProofs only [KA, KB, KC, KD, KE, KF, eq_self, ne_eq, ↓reduceIte, Nat.reduceLT, Nat.reduceEqDiff, Nat.reduceAdd, Nat.reduceLeDiff, Nat.reduceSub, Nat.reduceMul, reduceCtorEq, encE, q0, q1, q2, q3, q4, q5, q6, q7]
    exact no (fun e => q7 (by simp only [mayC] at e; omega))
  by_cases g1 : andI o 3 = 0
  · have g1' : decide (andI o 3 = 0) = true := decide_eq_true g1
    simp (maxSteps := 200000) -implicitDefEqProofs only [KA, KB, KC, KD, KE, KF, eq_self, ne_eq, ↓reduceIte, Nat.reduceLT, Nat.reduceEqDiff, Nat.reduceAdd, Nat.reduceLeDiff, Nat.reduceSub, Nat.reduceMul, reduceCtorEq, encE, q0, q1, q2, q3, q4, q5, q6, q7, andI_fold, g1']
    exact no (fun e => e.2.2.2.2.1 g1)
  by_cases g2 : andI o 4 = 0
  case' pos =>
    have ns : ¬ (¬ andI o 4 = 0 ∧ andI o 1 = 0) := fun e => e.1 g2
    have g2' : decide (andI o 4 = 0) = true := decide_eq_true g2
    simp (maxSteps := 200000) -implicitDefEqProofs only [KA, KB, KC, KD, KE, KF, eq_self, ne_eq, ↓reduceIte, Nat.reduceLT, Nat.reduceEqDiff, Nat.reduceAdd, Nat.reduceLeDiff, Nat.reduceSub, Nat.reduceMul, reduceCtorEq, encE, q0, q1, q2, q3, q4, q5, q6, q7, andI_fold, g1, g2']
  case' neg =>
    by_cases g3 : andI o 1 = 0
    · have g3' : decide (andI o 1 = 0) = true := decide_eq_true g3
      simp (maxSteps := 200000) -implicitDefEqProofs only [KA, KB, KC, KD, KE, KF, eq_self, ne_eq, ↓reduceIte, Nat.reduceLT, Nat.reduceEqDiff, Nat.reduceAdd, Nat.reduceLeDiff, Nat.reduceSub, Nat.reduceMul, reduceCtorEq, encE, q0, q1, q2, q3, q4, q5, q6, q7, andI_fold, g1, g2, g3']
      exact no (fun e => e.2.2.2.2.2.1 ⟨g2, g3⟩)
    have ns : ¬ (¬ andI o 4 = 0 ∧ andI o 1 = 0) := fun e => g3 e.2
    simp (maxSteps := 200000) -implicitDefEqProofs only [KA, KB, KC, KD, KE, KF, eq_self, ne_eq, ↓reduceIte, Nat.reduceLT, Nat.reduceEqDiff, Nat.reduceAdd, Nat.reduceLeDiff, Nat.reduceSub, Nat.reduceMul, reduceCtorEq, encE, q0, q1, q2, q3, q4, q5, q6, q7, andI_fold, g1, g2, g3]
  all_goals
    refine node44_ok ?_
    by_cases n1 : nodeP p
    · rw [decide_eq_true (show mayC ⟨f, s, c, o, p⟩ from ⟨by constructor <;> (simp only; omega), by constructor <;> (simp only; omega), by constructor <;> (simp only; omega), by constructor <;> (simp only; omega), g1, ns, .inl (by unfold nodeP at n1; constructor <;> (simp only; omega))⟩)] at hP
      simp (maxSteps := 200000) -implicitDefEqProofs only [KA, KB, KC, KD, KE, KF, eq_self, ne_eq, ↓reduceIte, Nat.reduceLT, Nat.reduceEqDiff, Nat.reduceAdd, Nat.reduceLeDiff, Nat.reduceSub, Nat.reduceMul, reduceCtorEq, n1]
      exact hP
    · by_cases n2 : p = 64
      · have n2' : decide (p = 64) = true := decide_eq_true n2
        rw [decide_eq_true (show mayC ⟨f, s, c, o, p⟩ from ⟨by constructor <;> (simp only; omega), by constructor <;> (simp only; omega), by constructor <;> (simp only; omega), by constructor <;> (simp only; omega), g1, ns, .inr n2⟩)] at hP
        simp (maxSteps := 200000) -implicitDefEqProofs only [KA, KB, KC, KD, KE, KF, eq_self, ne_eq, ↓reduceIte, Nat.reduceLT, Nat.reduceEqDiff, Nat.reduceAdd, Nat.reduceLeDiff, Nat.reduceSub, Nat.reduceMul, reduceCtorEq, n1, n2']
        exact hP
      · simp (maxSteps := 200000) -implicitDefEqProofs only [KA, KB, KC, KD, KE, KF, eq_self, ne_eq, ↓reduceIte, Nat.reduceLT, Nat.reduceEqDiff, Nat.reduceAdd, Nat.reduceLeDiff, Nat.reduceSub, Nat.reduceMul, reduceCtorEq, n1, n2]
        exact no (fun e => e.2.2.2.2.2.2.elim (fun e => n1 (by unfold nodeP; simp only at e; omega)) n2)
theorem andI3 (x : Int) : 0 ≤ andI x 3 ∧ andI x 3 ≤ 3 := by
  have h : (BitVec.ofInt IntKind.i64.bits x &&& BitVec.ofInt IntKind.i64.bits 3).toNat ≤ 3 := by
    rw [BitVec.toNat_and]
    exact Nat.le_trans Nat.and_le_right (by decide)
  unfold andI
  rw [wrap_i64 (by omega)]
  omega
theorem rends_ok {a b : Cel} (hP : ∀ r : Bool, (r = true ↔ endsP a b) → P (.c (.bool r)) h) : callW N (k + 1) 219 [.agg (encE a), .agg (encE b)] h P := by
  have he : ∀ x : Cel, encE x = [.int .i64 x.f, .int .i64 x.s, .int .i64 x.c, .int .i64 x.o, .int .i64 x.p] := fun _ => rfl
  unfold endsP at hP
  have bX := andI3 a.o
  have bY := andI3 b.o
  generalize hX : andI a.o 3 = X at *
  generalize hY : andI b.o 3 = Y at *
  have w := wrap_i64 (n := X + Y) (by omega)
  refine call_intro rfl (by simp only [List.length_cons, List.length_nil]; omega) ?_
  by_cases c1 : X + Y = 3
  · have c1' : decide (X + Y = 3) = true := decide_eq_true c1
    have c2 : ¬ X = Y := by omega
    by_cases c3 : X = 1
    · have c3' : decide (X = 1) = true := decide_eq_true c3
      simp (maxSteps := 200000) -implicitDefEqProofs only [KA, KB, KC, KD, KE, KF, eq_self, ne_eq, ↓reduceIte, Nat.reduceLT, Nat.reduceEqDiff, Nat.reduceAdd, Nat.reduceLeDiff, Nat.reduceSub, Nat.reduceMul, reduceCtorEq, he, andI_fold, hX, hY, w, c1', c2, c3']
      exact hP _ (by simp; omega)
    · by_cases c4 : X = 2
      · have c4' : decide (X = 2) = true := decide_eq_true c4
        simp (maxSteps := 200000) -implicitDefEqProofs only [KA, KB, KC, KD, KE, KF, eq_self, ne_eq, ↓reduceIte, Nat.reduceLT, Nat.reduceEqDiff, Nat.reduceAdd, Nat.reduceLeDiff, Nat.reduceSub, Nat.reduceMul, reduceCtorEq, he, andI_fold, hX, hY, w, c1', c2, c3, c4']
        exact hP _ (by simp; omega)
      · simp (maxSteps := 200000) -implicitDefEqProofs only [KA, KB, KC, KD, KE, KF, eq_self, ne_eq, ↓reduceIte, Nat.reduceLT, Nat.reduceEqDiff, Nat.reduceAdd, Nat.reduceLeDiff, Nat.reduceSub, Nat.reduceMul, reduceCtorEq, he, andI_fold, hX, hY, w, c1', c2, c3, c4]
        exact hP _ (by simp; omega)
  · simp (maxSteps := 200000) -implicitDefEqProofs only [KA, KB, KC, KD, KE, KF, eq_self, ne_eq, ↓reduceIte, Nat.reduceLT, Nat.reduceEqDiff, Nat.reduceAdd, Nat.reduceLeDiff, Nat.reduceSub, Nat.reduceMul, reduceCtorEq, he, andI_fold, hX, hY, w, c1]
    exact hP _ (by simp; omega)
theorem rclash_ok {a b : Cel} {x y : Int} (hP : P (.c (.bool (decide (clashP a b x y)))) h) : callW N (k + 3) 216 [.agg (encE a), .agg (encE b), .c (.int .i64 x), .c (.int .i64 y)] h P := by
  have he : ∀ x : Cel, encE x = [.int .i64 x.f, .int .i64 x.s, .int .i64 x.c, .int .i64 x.o, .int .i64 x.p] := fun _ => rfl
  have yes : clashP a b x y → P (.c (.bool true)) h := fun hc => by rwa [decide_eq_true hc] at hP
  have no : ¬ clashP a b x y → P (.c (.bool false)) h := fun hc => by rwa [decide_eq_false hc] at hP
  refine call_intro rfl (by simp only [List.length_cons, List.length_nil]; omega) ?_
  simp (maxSteps := 200000) -implicitDefEqProofs only [KA, KB, KC, KD, KE, KF, eq_self, ne_eq, ↓reduceIte, Nat.reduceLT, Nat.reduceEqDiff, Nat.reduceAdd, Nat.reduceLeDiff, Nat.reduceSub, Nat.reduceMul, reduceCtorEq, he]
  refine rmayc_ok (k := k) (x := a) ?_
  by_cases m1 : mayC a
  rotate_left
  · simp (maxSteps := 200000) -implicitDefEqProofs only [KA, KB, KC, KD, KE, KF, eq_self, ne_eq, ↓reduceIte, Nat.reduceLT, Nat.reduceEqDiff, Nat.reduceAdd, Nat.reduceLeDiff, Nat.reduceSub, Nat.reduceMul, reduceCtorEq, m1]
    exact yes (.inl fun e => m1 e.1)
  simp (maxSteps := 200000) -implicitDefEqProofs only [KA, KB, KC, KD, KE, KF, eq_self, ne_eq, ↓reduceIte, Nat.reduceLT, Nat.reduceEqDiff, Nat.reduceAdd, Nat.reduceLeDiff, Nat.reduceSub, Nat.reduceMul, reduceCtorEq, m1]
  refine rmayc_ok (k := k) (x := b) ?_
  by_cases m2 : mayC b
  rotate_left
  · simp (maxSteps := 200000) -implicitDefEqProofs only [KA, KB, KC, KD, KE, KF, eq_self, ne_eq, ↓reduceIte, Nat.reduceLT, Nat.reduceEqDiff, Nat.reduceAdd, Nat.reduceLeDiff, Nat.reduceSub, Nat.reduceMul, reduceCtorEq, m2]
    exact yes (.inl fun e => m2 e.2.1)
  simp (maxSteps := 200000) -implicitDefEqProofs only [KA, KB, KC, KD, KE, KF, eq_self, ne_eq, ↓reduceIte, Nat.reduceLT, Nat.reduceEqDiff, Nat.reduceAdd, Nat.reduceLeDiff, Nat.reduceSub, Nat.reduceMul, reduceCtorEq, m2]
  refine node44_ok ?_
  by_cases m3 : nodeP x
  rotate_left
  · simp (maxSteps := 200000) -implicitDefEqProofs only [KA, KB, KC, KD, KE, KF, eq_self, ne_eq, ↓reduceIte, Nat.reduceLT, Nat.reduceEqDiff, Nat.reduceAdd, Nat.reduceLeDiff, Nat.reduceSub, Nat.reduceMul, reduceCtorEq, m3]
    exact yes (.inl fun e => m3 e.2.2.1)
  simp (maxSteps := 200000) -implicitDefEqProofs only [KA, KB, KC, KD, KE, KF, eq_self, ne_eq, ↓reduceIte, Nat.reduceLT, Nat.reduceEqDiff, Nat.reduceAdd, Nat.reduceLeDiff, Nat.reduceSub, Nat.reduceMul, reduceCtorEq, m3]
  refine node44_ok ?_
  by_cases m4 : nodeP y
  rotate_left
  · simp (maxSteps := 200000) -implicitDefEqProofs only [KA, KB, KC, KD, KE, KF, eq_self, ne_eq, ↓reduceIte, Nat.reduceLT, Nat.reduceEqDiff, Nat.reduceAdd, Nat.reduceLeDiff, Nat.reduceSub, Nat.reduceMul, reduceCtorEq, m4]
    exact yes (.inl fun e => m4 e.2.2.2)
  have mm : ¬ ¬ (mayC a ∧ mayC b ∧ nodeP x ∧ nodeP y) := fun e => e ⟨m1, m2, m3, m4⟩
  by_cases t1 : a.f = b.f
  rotate_left
  · simp (maxSteps := 200000) -implicitDefEqProofs only [KA, KB, KC, KD, KE, KF, eq_self, ne_eq, ↓reduceIte, Nat.reduceLT, Nat.reduceEqDiff, Nat.reduceAdd, Nat.reduceLeDiff, Nat.reduceSub, Nat.reduceMul, reduceCtorEq, m4, t1]
    exact no (fun e => e.elim mm fun e => t1 e.1.1)
  have t1' : decide (a.f = b.f) = true := decide_eq_true t1
  by_cases t2 : a.s = b.s
  rotate_left
  · simp (maxSteps := 200000) -implicitDefEqProofs only [KA, KB, KC, KD, KE, KF, eq_self, ne_eq, ↓reduceIte, Nat.reduceLT, Nat.reduceEqDiff, Nat.reduceAdd, Nat.reduceLeDiff, Nat.reduceSub, Nat.reduceMul, reduceCtorEq, m4, t1', t2]
    exact no (fun e => e.elim mm fun e => t2 e.1.2)
  have t2' : decide (a.s = b.s) = true := decide_eq_true t2
  by_cases e1 : x = y
  · have e1' : decide (x = y) = true := decide_eq_true e1
    simp (maxSteps := 200000) -implicitDefEqProofs only [KA, KB, KC, KD, KE, KF, eq_self, ne_eq, ↓reduceIte, Nat.reduceLT, Nat.reduceEqDiff, Nat.reduceAdd, Nat.reduceLeDiff, Nat.reduceSub, Nat.reduceMul, reduceCtorEq, m4, t1', t2', e1']
    exact yes (.inr ⟨⟨t1, t2⟩, .inl e1⟩)
  have cl : ¬ linkP a b x y → (a.c = b.c ∨ x = b.p ∨ y = a.p ∨ (a.p = b.p ∧ ¬ a.p = 64)) → clashP a b x y := fun h1 h2 => .inr ⟨⟨t1, t2⟩, .inr ⟨h1, h2⟩⟩
  by_cases e3 : a.p = y
  · have e3' : decide (a.p = y) = true := decide_eq_true e3
    by_cases e4 : b.p = x
    · have e4' : decide (b.p = x) = true := decide_eq_true e4
      by_cases e2 : a.c = b.c
      · have e2' : decide (a.c = b.c) = true := decide_eq_true e2
        simp (maxSteps := 200000) -implicitDefEqProofs only [KA, KB, KC, KD, KE, KF, eq_self, ne_eq, ↓reduceIte, Nat.reduceLT, Nat.reduceEqDiff, Nat.reduceAdd, Nat.reduceLeDiff, Nat.reduceSub, Nat.reduceMul, reduceCtorEq, m4, t1', t2', e1, e3', e4', e2']
        refine rends_ok (k := k + 1) (a := a) (b := b) fun r hr => ?_
        cases r with
        | true =>
          simp (maxSteps := 200000) -implicitDefEqProofs only [KA, KB, KC, KD, KE, KF, eq_self, ne_eq, ↓reduceIte, Nat.reduceLT, Nat.reduceEqDiff, Nat.reduceAdd, Nat.reduceLeDiff, Nat.reduceSub, Nat.reduceMul, reduceCtorEq]
          exact no (fun e => e.elim mm fun e => e.2.elim e1 fun e => e.1 ⟨e3, e4, e2, hr.mp rfl⟩)
        | false =>
          simp (maxSteps := 200000) -implicitDefEqProofs only [KA, KB, KC, KD, KE, KF, eq_self, ne_eq, ↓reduceIte, Nat.reduceLT, Nat.reduceEqDiff, Nat.reduceAdd, Nat.reduceLeDiff, Nat.reduceSub, Nat.reduceMul, reduceCtorEq, e1, e2']
          exact yes (cl (fun e => by have := hr.mpr e.2.2.2; cases this) (.inl e2))
      · simp (maxSteps := 200000) -implicitDefEqProofs only [KA, KB, KC, KD, KE, KF, eq_self, ne_eq, ↓reduceIte, Nat.reduceLT, Nat.reduceEqDiff, Nat.reduceAdd, Nat.reduceLeDiff, Nat.reduceSub, Nat.reduceMul, reduceCtorEq, m4, t1', t2', e1, e3', e4', e2]
        exact yes (cl (fun e => e2 e.2.2.1) (.inr (.inr (.inl e3.symm))))
    · by_cases e2 : a.c = b.c
      · have e2' : decide (a.c = b.c) = true := decide_eq_true e2
        simp (maxSteps := 200000) -implicitDefEqProofs only [KA, KB, KC, KD, KE, KF, eq_self, ne_eq, ↓reduceIte, Nat.reduceLT, Nat.reduceEqDiff, Nat.reduceAdd, Nat.reduceLeDiff, Nat.reduceSub, Nat.reduceMul, reduceCtorEq, m4, t1', t2', e1, e3', e4, e2']
        exact yes (cl (fun e => e4 e.2.1) (.inl e2))
      · simp (maxSteps := 200000) -implicitDefEqProofs only [KA, KB, KC, KD, KE, KF, eq_self, ne_eq, ↓reduceIte, Nat.reduceLT, Nat.reduceEqDiff, Nat.reduceAdd, Nat.reduceLeDiff, Nat.reduceSub, Nat.reduceMul, reduceCtorEq, m4, t1', t2', e1, e3', e4, e2]
        exact yes (cl (fun e => e4 e.2.1) (.inr (.inr (.inl e3.symm))))
  · have nl : ¬ linkP a b x y := fun e => e3 e.1
    by_cases e2 : a.c = b.c
    · have e2' : decide (a.c = b.c) = true := decide_eq_true e2
      simp (maxSteps := 200000) -implicitDefEqProofs only [KA, KB, KC, KD, KE, KF, eq_self, ne_eq, ↓reduceIte, Nat.reduceLT, Nat.reduceEqDiff, Nat.reduceAdd, Nat.reduceLeDiff, Nat.reduceSub, Nat.reduceMul, reduceCtorEq, m4, t1', t2', e1, e3, e2']
      exact yes (cl nl (.inl e2))
    · by_cases e4 : b.p = x
      · have e4' : decide (b.p = x) = true := decide_eq_true e4
        simp (maxSteps := 200000) -implicitDefEqProofs only [KA, KB, KC, KD, KE, KF, eq_self, ne_eq, ↓reduceIte, Nat.reduceLT, Nat.reduceEqDiff, Nat.reduceAdd, Nat.reduceLeDiff, Nat.reduceSub, Nat.reduceMul, reduceCtorEq, m4, t1', t2', e1, e3, e2, e4']
        exact yes (cl nl (.inr (.inl e4.symm)))
      · by_cases e5 : a.p = b.p
        · have e5' : decide (a.p = b.p) = true := decide_eq_true e5
          by_cases e6 : a.p = 64
          · have e6' : decide (a.p = 64) = true := decide_eq_true e6
            simp (maxSteps := 200000) -implicitDefEqProofs only [KA, KB, KC, KD, KE, KF, eq_self, ne_eq, ↓reduceIte, Nat.reduceLT, Nat.reduceEqDiff, Nat.reduceAdd, Nat.reduceLeDiff, Nat.reduceSub, Nat.reduceMul, reduceCtorEq, m4, t1', t2', e1, e3, e2, e4, e5', e6']
            exact no (fun e => e.elim mm fun e => e.2.elim e1 fun e => e.2.elim e2 fun e => e.elim (fun e => e4 e.symm) fun e => e.elim (fun e => e3 e.symm) fun e => e.2 e6)
          · simp (maxSteps := 200000) -implicitDefEqProofs only [KA, KB, KC, KD, KE, KF, eq_self, ne_eq, ↓reduceIte, Nat.reduceLT, Nat.reduceEqDiff, Nat.reduceAdd, Nat.reduceLeDiff, Nat.reduceSub, Nat.reduceMul, reduceCtorEq, m4, t1', t2', e1, e3, e2, e4, e5', e6]
            exact yes (cl nl (.inr (.inr (.inr ⟨e5, e6⟩))))
        · simp (maxSteps := 200000) -implicitDefEqProofs only [KA, KB, KC, KD, KE, KF, eq_self, ne_eq, ↓reduceIte, Nat.reduceLT, Nat.reduceEqDiff, Nat.reduceAdd, Nat.reduceLeDiff, Nat.reduceSub, Nat.reduceMul, reduceCtorEq, m4, t1', t2', e1, e3, e2, e4, e5]
          exact no (fun e => e.elim mm fun e => e.2.elim e1 fun e => e.2.elim e2 fun e => e.elim (fun e => e4 e.symm) fun e => e.elim (fun e => e3 e.symm) fun e => e5 e.1)
end
end Camp

/-! CvVp2 -/
namespace Camp
open Go
set_option linter.unusedVariables false
set_option linter.unusedSimpArgs false
set_option maxHeartbeats 4000000
def rfl1 (x : Nat) (L : List Cel) : List Hd := L.map fun c => ⟨x, c⟩
/-- All cells, by node. -/
def rf (n : Nat) (DL : Nat → List Cel) : List Hd := (List.range n).flatMap fun x => rfl1 x (DL x)
theorem rf_succ (n : Nat) (DL : Nat → List Cel) : rf (n + 1) DL = rf n DL ++ rfl1 n (DL n) := by simp [rf, List.range_succ]
theorem rf_pre {DL : Nat → List Cel} {m : Nat} : ∀ {n : Nat}, m ≤ n → ∃ R, rf n DL = rf m DL ++ R := by
  intro n hn
  induction n with
  | zero => exact ⟨[], by rw [show m = 0 by omega]; simp⟩
  | succ n ih =>
    by_cases e : m = n + 1
    · exact ⟨[], by rw [e]; simp⟩
    · obtain ⟨R, hR⟩ := ih (by omega)
      exact ⟨R ++ rfl1 n (DL n), by rw [rf_succ, hR, List.append_assoc]⟩
theorem mem_rf {n : Nat} {DL : Nat → List Cel} {y : Hd} : y ∈ rf n DL ↔ ∃ x, x < n ∧ y.n = x ∧ y.c ∈ DL x := by
  unfold rf rfl1
  rw [List.mem_flatMap]
  constructor
  · rintro ⟨x, hx, hy⟩
    rw [List.mem_map] at hy
    obtain ⟨c, hc, rfl⟩ := hy
    exact ⟨x, List.mem_range.mp hx, rfl, hc⟩
  · rintro ⟨x, hx, h1, h2⟩
    refine ⟨x, List.mem_range.mpr hx, List.mem_map.mpr ⟨y.c, h2, ?_⟩⟩
    rw [← h1]
section
variable {k : Nat} {h : Hp} {P : AV → Hp → Prop}
/-- Cells by node, as an array of slices. -/
def DArr (h : Hp) (D : List CV) (DL : Nat → List Cel) : Prop := D.length = 16 ∧ ∀ x, x < 16 → ∃ v, D[x]? = some v ∧ SL h 5 v ((DL x).map encE) ∧ CapL v
def RcA (D : List CV) (DL : Nat → List Cel) (h : Hp) (m : Nat) (s : St) : Prop :=
  ∃ (x : Nat) (l : List (Nat × TV)), s = ST 70 l [D] h ∧ x ≤ 16 ∧ m = 16 - x ∧ cleanP (rf x DL) ∧ lk l 1 = .lp 0 0 ∧ lk l 13 = .v (.agg D) ∧ lk l 14 = .v (.c (.int .i64 x))
def RcB (D : List CV) (DL : Nat → List Cel) (h : Hp) (x : Nat) (v : CV) (m : Nat) (s : St) : Prop :=
  ∃ (i : Nat) (l : List (Nat × TV)), s = ST 70 l [D] h ∧ i ≤ (DL x).length ∧ m = (DL x).length - i ∧ cleanP (rf x DL ++ rfl1 x ((DL x).take i)) ∧ lk l 1 = .lp 0 0 ∧ lk l 3 = .v (.c (.int .i64 x)) ∧ lk l 4 = .v (.c v) ∧ lk l 13 = .v (.agg D) ∧ lk l 14 = .v (.c (.int .i64 x)) ∧
    lk l 18 = .v (.c v) ∧ lk l 19 = .v (.c (.int .i64 (DL x).length)) ∧ lk l 20 = .v (.c (.int .i64 i))
def RcC (D : List CV) (DL : Nat → List Cel) (h : Hp) (x : Nat) (v : CV) (i : Nat) (a : Cel) (w : CV) (m : Nat) (s : St) : Prop :=
  ∃ (j : Nat) (l : List (Nat × TV)), s = ST 70 l [D, encE a] h ∧ j ≤ i ∧ m = i - j ∧ (∀ c ∈ (DL x).take j, ¬ clashP a c x x) ∧ lk l 1 = .lp 0 0 ∧ lk l 3 = .v (.c (.int .i64 x)) ∧ lk l 4 = .v (.c v) ∧ lk l 6 = .lp 1 0 ∧ lk l 13 = .v (.agg D) ∧ lk l 14 = .v (.c (.int .i64 x)) ∧
    lk l 18 = .v (.c v) ∧ lk l 19 = .v (.c (.int .i64 (DL x).length)) ∧ lk l 20 = .v (.c (.int .i64 i)) ∧ lk l 36 = .v (.c w) ∧ lk l 37 = .v (.c (.int .i64 i)) ∧ lk l 38 = .v (.c (.int .i64 j))
def RcD (D : List CV) (DL : Nat → List Cel) (h : Hp) (x : Nat) (v : CV) (i : Nat) (a : Cel) (m : Nat) (s : St) : Prop :=
  ∃ (y : Nat) (l : List (Nat × TV)), s = ST 70 l [D, encE a] h ∧ y ≤ x ∧ m = x - y ∧ (∀ z, z < y → ∀ c ∈ DL z, ¬ clashP a c x z) ∧ lk l 1 = .lp 0 0 ∧ lk l 3 = .v (.c (.int .i64 x)) ∧ lk l 4 = .v (.c v) ∧ lk l 6 = .lp 1 0 ∧ lk l 13 = .v (.agg D) ∧ lk l 14 = .v (.c (.int .i64 x)) ∧
    lk l 18 = .v (.c v) ∧ lk l 19 = .v (.c (.int .i64 (DL x).length)) ∧ lk l 20 = .v (.c (.int .i64 i)) ∧ lk l 48 = .v (.c (.int .i64 x)) ∧ lk l 49 = .v (.c (.int .i64 y))
def RcE (D : List CV) (DL : Nat → List Cel) (h : Hp) (x : Nat) (v : CV) (i : Nat) (a : Cel) (y : Nat) (w : CV) (m : Nat) (s : St) : Prop :=
  ∃ (j : Nat) (l : List (Nat × TV)), s = ST 70 l [D, encE a] h ∧ j ≤ (DL y).length ∧ m = (DL y).length - j ∧ (∀ c ∈ (DL y).take j, ¬ clashP a c x y) ∧ lk l 1 = .lp 0 0 ∧ lk l 3 = .v (.c (.int .i64 x)) ∧ lk l 4 = .v (.c v) ∧ lk l 6 = .lp 1 0 ∧ lk l 9 = .v (.c (.int .i64 y)) ∧ lk l 13 = .v (.agg D) ∧ lk l 14 = .v (.c (.int .i64 x)) ∧
    lk l 18 = .v (.c v) ∧ lk l 19 = .v (.c (.int .i64 (DL x).length)) ∧ lk l 20 = .v (.c (.int .i64 i)) ∧ lk l 48 = .v (.c (.int .i64 x)) ∧ lk l 49 = .v (.c (.int .i64 y)) ∧ lk l 55 = .v (.c w) ∧ lk l 56 = .v (.c (.int .i64 (DL y).length)) ∧ lk l 57 = .v (.c (.int .i64 j))
theorem take_cons16 {D : List CV} (h : D.length = 16) : D.take 16 = D := List.take_of_length_le (by omega)
theorem rclean_ok {D : List CV} {DL : Nat → List Cel} (hD : DArr h D DL) (hn : ∀ x, x < 16 → (DL x).length ≤ 1000000000) (hP : P (.c (.bool (decide (cleanP (rf 16 DL))))) h) :
    callW N (k + 5) 217 [.agg D] h P := by
  obtain ⟨hDl, hDs⟩ := hD
  have he : ∀ x : Cel, encE x = [.int .i64 x.f, .int .i64 x.s, .int .i64 x.c, .int .i64 x.o, .int .i64 x.p] := fun _ => rfl
  have htk := take_cons16 hDl
  have le16 : 0 + 16 ≤ 16 := by decide
  refine call_intro rfl (by simp only [List.length_cons, List.length_nil]; omega) ?_
  simp (maxSteps := 200000) -implicitDefEqProofs only [KA, KB, KC, KD, KE, KF, eq_self, ne_eq, ↓reduceIte, Nat.reduceLT, Nat.reduceEqDiff, Nat.reduceAdd, Nat.reduceLeDiff, Nat.reduceSub, Nat.reduceMul, reduceCtorEq, hDl, htk]
  refine loop_rd (callW_mono N _) (RcA D DL h) (n := 16) ⟨0, _, rfl, by omega, by omega, ⟨by simp [rf], by simp [rf]⟩, rfl, rfl, rfl⟩ ?_
  rintro m s ⟨x, l, rfl, hx, hm, hcl, e1, e13, e14⟩
  by_cases hlt : (x : Int) < 16
  rotate_left
  · have hx16 : x = 16 := by omega
    subst hx16
    rw [decide_eq_true hcl] at hP
    simp (maxSteps := 200000) -implicitDefEqProofs only [KA, KB, KC, KD, KE, KF, eq_self, ne_eq, ↓reduceIte, Nat.reduceLT, Nat.reduceEqDiff, Nat.reduceAdd, Nat.reduceLeDiff, Nat.reduceSub, Nat.reduceMul, reduceCtorEq, e1, e13, e14, hlt]
    exact hP
  have hx16 : x < 16 := by omega
  obtain ⟨v, hv, hsl, hcap⟩ := hDs x hx16
  have ix : (x : Int) < ((16 : Nat) : Int) := by omega
  have ix0 : 0 ≤ (x : Int) := by omega
  have hv' : D[(x : Int).toNat * 1]? = some v := by simpa using hv
  have hlen : lenT h .sl (.v (.c v)) = some ((DL x).length : Int) := by rw [hsl.len h, List.length_map]
  have wx := wrap_i64 (n := (x : Int) + 1) (by omega)
  simp (maxSteps := 200000) -implicitDefEqProofs only [KA, KB, KC, KD, KE, KF, eq_self, ne_eq, ↓reduceIte, Nat.reduceLT, Nat.reduceEqDiff, Nat.reduceAdd, Nat.reduceLeDiff, Nat.reduceSub, Nat.reduceMul, reduceCtorEq, e1, e13, e14, hlt, ix, ix0, hv', hlen]
  refine loop_rd (callW_mono N _) (RcB D DL h x v) (n := (DL x).length) ⟨0, _, rfl, by omega, by omega, by simpa [rfl1] using hcl, rfl, rfl, rfl, rfl, rfl, rfl, rfl, rfl⟩ ?_
  clear e1 e13 e14
  rintro m2 s ⟨i, l, rfl, hi, hm2, hcl2, e1, e3, e4, e13, e14, e18, e19, e20⟩
  by_cases hlt2 : (i : Int) < (DL x).length
  rotate_left
  · simp (maxSteps := 200000) -implicitDefEqProofs only [KA, KB, KC, KD, KE, KF, eq_self, ne_eq, ↓reduceIte, Nat.reduceLT, Nat.reduceEqDiff, Nat.reduceAdd, Nat.reduceLeDiff, Nat.reduceSub, Nat.reduceMul, reduceCtorEq, e1, e3, e4, e13, e14, e18, e19, e20, hlt2, wx, rd_n]
    refine ⟨15 - x, by omega, x + 1, _, rfl, by omega, by omega, ?_, rfl, rfl, rfl⟩
    rw [rf_succ]
    rw [List.take_of_length_le (by omega)] at hcl2
    exact hcl2
  have hil : i < (DL x).length := by omega
  obtain ⟨a, ha⟩ : ∃ a, (DL x)[i]? = some a := ⟨_, List.getElem?_eq_getElem hil⟩
  have hrow : ((DL x).map encE)[(i : Int).toNat]? = some (encE a) := by simp [ha]
  obtain ⟨p1, p2, p3, a1, a2⟩ := hsl.at (by omega) hrow
  have hnx := hn x hx16
  have wi := wrap_i64 (n := (i : Int) + 1) (by omega)
  have hel : (encE a).length = 5 := rfl
  have hpre : rf x DL ++ rfl1 x ((DL x).take (i + 1)) = rf x DL ++ rfl1 x ((DL x).take i) ++ [⟨x, a⟩] := by
    rw [take_snoc ha]
    simp [rfl1]
  have bad : ¬ (goodH ⟨x, a⟩ ∧ ¬ hitP (rf x DL ++ rfl1 x ((DL x).take i)) x a) → P (.c (.bool false)) h := by
    intro hb
    rw [decide_eq_false] at hP
    · exact hP
    intro hcl3
    obtain ⟨R, hR⟩ := rf_pre (DL := DL) (show x + 1 ≤ 16 by omega)
    rw [hR, rf_succ, ← List.take_append_drop (i + 1) (DL x)] at hcl3
    have : rfl1 x ((DL x).take (i + 1) ++ (DL x).drop (i + 1)) = rfl1 x ((DL x).take (i + 1)) ++ rfl1 x ((DL x).drop (i + 1)) := by simp [rfl1]
    rw [this, ← List.append_assoc, List.append_assoc (rf x DL ++ _), hpre] at hcl3
    exact hb (cleanP_snoc.mp (cleanP_left hcl3)).2
  rw [he] at a2
  simp (maxSteps := 200000) -implicitDefEqProofs only [KA, KB, KC, KD, KE, KF, eq_self, ne_eq, ↓reduceIte, Nat.reduceLT, Nat.reduceEqDiff, Nat.reduceAdd, Nat.reduceLeDiff, Nat.reduceSub, Nat.reduceMul, reduceCtorEq, e1, e3, e4, e13, e14, e18, e19, e20, hlt2, a1, a2]
  refine rmayc_ok (k := k + 2) (x := a) ?_
  by_cases g1 : mayC a
  rotate_left
  · simp (maxSteps := 200000) -implicitDefEqProofs only [KA, KB, KC, KD, KE, KF, eq_self, ne_eq, ↓reduceIte, Nat.reduceLT, Nat.reduceEqDiff, Nat.reduceAdd, Nat.reduceLeDiff, Nat.reduceSub, Nat.reduceMul, reduceCtorEq, g1]
    exact bad fun hb => g1 hb.1.2.1
  by_cases g2 : andI a.o 4 = 0
  rotate_left
  · simp (maxSteps := 200000) -implicitDefEqProofs only [KA, KB, KC, KD, KE, KF, eq_self, ne_eq, ↓reduceIte, Nat.reduceLT, Nat.reduceEqDiff, Nat.reduceAdd, Nat.reduceLeDiff, Nat.reduceSub, Nat.reduceMul, reduceCtorEq, g1, andI_fold, g2]
    exact bad fun hb => g2 hb.1.2.2
  have g2' : decide (andI a.o 4 = 0) = true := decide_eq_true g2
  obtain ⟨w, hw1, hw2⟩ := hsl.first hcap (by omega) (m := (i : Int)) (by rw [List.length_map]; omega)
  have hw2' : SL h 5 w (((DL x).take i).map encE) := by rw [List.map_take]; simpa using hw2
  have hlw : lenT h .sl (.v (.c w)) = some (i : Int) := by rw [hw2'.len h, List.length_map, List.length_take, Nat.min_eq_left hi]
  simp (maxSteps := 200000) -implicitDefEqProofs only [KA, KB, KC, KD, KE, KF, eq_self, ne_eq, ↓reduceIte, Nat.reduceLT, Nat.reduceEqDiff, Nat.reduceAdd, Nat.reduceLeDiff, Nat.reduceSub, Nat.reduceMul, reduceCtorEq, g1, andI_fold, g2', hw1, hlw]
  rw [show [CV.int .i64 a.f, .int .i64 a.s, .int .i64 a.c, .int .i64 a.o, .int .i64 a.p] = encE a from rfl]
  refine loop_rd (callW_mono N _) (RcC D DL h x v i a w) (n := i) ⟨0, _, rfl, by omega, by omega, by simp, rfl, rfl, rfl, rfl, rfl, rfl, rfl, rfl, rfl, rfl, rfl, rfl⟩ ?_
  clear e1 e3 e4 e13 e14 e18 e19 e20
  rintro m3 s ⟨j, l, rfl, hj, hm3, hno, e1, e3, e4, e6, e13, e14, e18, e19, e20, e36, e37, e38⟩
  by_cases hlt3 : (j : Int) < i
  · have hjl : j < i := by omega
    obtain ⟨c, hc⟩ : ∃ c, (DL x)[j]? = some c := ⟨_, List.getElem?_eq_getElem (by omega)⟩
    have hrow2 : (((DL x).take i).map encE)[(j : Int).toNat]? = some (encE c) := by simp [hc, List.getElem?_take, hjl]
    obtain ⟨q1, q2, q3, b1, b2⟩ := hw2'.at (by omega) hrow2
    have wj := wrap_i64 (n := (j : Int) + 1) (by omega)
    rw [he] at b2
    simp (maxSteps := 200000) -implicitDefEqProofs only [KA, KB, KC, KD, KE, KF, eq_self, ne_eq, ↓reduceIte, Nat.reduceLT, Nat.reduceEqDiff, Nat.reduceAdd, Nat.reduceLeDiff, Nat.reduceSub, Nat.reduceMul, reduceCtorEq, e1, e3, e4, e6, e13, e14, e18, e19, e20, e36, e37, e38, hlt3, b1, b2, he]
    refine rclash_ok (k := k + 1) (a := a) (b := c) ?_
    by_cases g3 : clashP a c x x
    · simp (maxSteps := 200000) -implicitDefEqProofs only [KA, KB, KC, KD, KE, KF, eq_self, ne_eq, ↓reduceIte, Nat.reduceLT, Nat.reduceEqDiff, Nat.reduceAdd, Nat.reduceLeDiff, Nat.reduceSub, Nat.reduceMul, reduceCtorEq, g3]
      exact bad fun hb => hb.2 ⟨⟨x, c⟩, List.mem_append.mpr (.inr (List.mem_map.mpr ⟨c, List.mem_of_getElem? (i := j) (by rw [List.getElem?_take, if_pos hjl]; exact hc), rfl⟩)), clash_symm1 g3⟩
    · simp (maxSteps := 200000) -implicitDefEqProofs only [KA, KB, KC, KD, KE, KF, eq_self, ne_eq, ↓reduceIte, Nat.reduceLT, Nat.reduceEqDiff, Nat.reduceAdd, Nat.reduceLeDiff, Nat.reduceSub, Nat.reduceMul, reduceCtorEq, g3, wj, rd_n]
      refine ⟨m3 - 1, by omega, j + 1, _, rfl, by omega, by omega, ?_, rfl, rfl, rfl, rfl, rfl, rfl, rfl, rfl, rfl, rfl, rfl, rfl⟩
      intro z hz
      rw [take_snoc hc] at hz
      rcases List.mem_append.mp hz with hz | hz
      · exact hno z hz
      · have hz := List.mem_singleton.mp hz
        subst hz
        exact g3
  have hji : j = i := by omega
  subst hji
  simp (maxSteps := 200000) -implicitDefEqProofs only [KA, KB, KC, KD, KE, KF, eq_self, ne_eq, ↓reduceIte, Nat.reduceLT, Nat.reduceEqDiff, Nat.reduceAdd, Nat.reduceLeDiff, Nat.reduceSub, Nat.reduceMul, reduceCtorEq, e1, e3, e4, e6, e13, e14, e18, e19, e20, e36, e37, e38, hlt3]
  refine loop_rd (callW_mono N _) (RcD D DL h x v j a) (n := x) ⟨0, _, rfl, by omega, by omega, by omega, rfl, rfl, rfl, rfl, rfl, rfl, rfl, rfl, rfl, rfl, rfl⟩ ?_
  clear e1 e3 e4 e6 e13 e14 e18 e19 e20 e36 e37 e38
  rintro m4 s ⟨y, l, rfl, hy, hm4, hno2, e1, e3, e4, e6, e13, e14, e18, e19, e20, e48, e49⟩
  by_cases hlt4 : (y : Int) < x
  rotate_left
  · have hyx : y = x := by omega
    subst hyx
    have gn : goodH ⟨y, a⟩ := ⟨by constructor <;> (simp only; omega), g1, g2⟩
    simp (maxSteps := 200000) -implicitDefEqProofs only [KA, KB, KC, KD, KE, KF, eq_self, ne_eq, ↓reduceIte, Nat.reduceLT, Nat.reduceEqDiff, Nat.reduceAdd, Nat.reduceLeDiff, Nat.reduceSub, Nat.reduceMul, reduceCtorEq, e1, e3, e4, e6, e13, e14, e18, e19, e20, e48, e49, hlt4, wi, rd_n]
    refine ⟨m2 - 1, by omega, j + 1, _, rfl, by omega, by omega, ?_, rfl, rfl, rfl, rfl, rfl, rfl, rfl, rfl⟩
    rw [hpre]
    refine cleanP_snoc.mpr ⟨hcl2, gn, ?_⟩
    rintro ⟨z, hz, hzc⟩
    rcases List.mem_append.mp hz with hz | hz
    · obtain ⟨u, hu, hu1, hu2⟩ := mem_rf.mp hz
      rw [hu1] at hzc
      exact hno2 u hu z.c hu2 (clash_symm1 hzc)
    · obtain ⟨c, hc, rfl⟩ := List.mem_map.mp hz
      exact hno c hc (clash_symm1 hzc)
  have hyx : y < x := by omega
  obtain ⟨u, hu, hus, huc⟩ := hDs y (by omega)
  have iy : 0 ≤ (y : Int) ∧ (y : Int) < 16 := by omega
  have ia := iaA_l (sz := 1) (b := 0) (off := 0 + 0) iy
  have hu' : D[0 + 0 + (y : Int).toNat * 1]? = some u := by simpa using hu
  have hu'' : D[(y : Int).toNat * 1]? = some u := by simpa using hu
  have ia' : iaddrAV 16 1 (.lp 0 0) (y : Int) = some (.lp 0 ((y : Int).toNat * 1)) := by simpa using iaA_l (sz := 1) (b := 0) (off := 0) iy
  have hlu : lenT h .sl (.v (.c u)) = some ((DL y).length : Int) := by rw [hus.len h, List.length_map]
  have hny := hn y (by omega)
  have wy := wrap_i64 (n := (y : Int) + 1) (by omega)
  simp (maxSteps := 200000) -implicitDefEqProofs only [KA, KB, KC, KD, KE, KF, eq_self, ne_eq, ↓reduceIte, Nat.reduceLT, Nat.reduceEqDiff, Nat.reduceAdd, Nat.reduceLeDiff, Nat.reduceSub, Nat.reduceMul, reduceCtorEq, e1, e3, e4, e6, e13, e14, e18, e19, e20, e48, e49, hlt4, ia', hu'', hlu]
  refine loop_rd (callW_mono N _) (RcE D DL h x v j a y u) (n := (DL y).length) ⟨0, _, rfl, by omega, by omega, by simp, rfl, rfl, rfl, rfl, rfl, rfl, rfl, rfl, rfl, rfl, rfl, rfl, rfl, rfl, rfl⟩ ?_
  clear e1 e3 e4 e6 e13 e14 e18 e19 e20 e48 e49
  rintro m5 s ⟨t, l, rfl, ht, hm5, hno3, e1, e3, e4, e6, e9, e13, e14, e18, e19, e20, e48, e49, e55, e56, e57⟩
  by_cases hlt5 : (t : Int) < (DL y).length
  · have htl : t < (DL y).length := by omega
    obtain ⟨c, hc⟩ : ∃ c, (DL y)[t]? = some c := ⟨_, List.getElem?_eq_getElem htl⟩
    have hrow3 : ((DL y).map encE)[(t : Int).toNat]? = some (encE c) := by simp [hc]
    obtain ⟨q1, q2, q3, b1, b2⟩ := hus.at (by omega) hrow3
    have wt := wrap_i64 (n := (t : Int) + 1) (by omega)
    rw [he] at b2
    simp (maxSteps := 200000) -implicitDefEqProofs only [KA, KB, KC, KD, KE, KF, eq_self, ne_eq, ↓reduceIte, Nat.reduceLT, Nat.reduceEqDiff, Nat.reduceAdd, Nat.reduceLeDiff, Nat.reduceSub, Nat.reduceMul, reduceCtorEq, e1, e3, e4, e6, e9, e13, e14, e18, e19, e20, e48, e49, e55, e56, e57, hlt5, b1, b2, he]
    refine rclash_ok (k := k + 1) (a := a) (b := c) ?_
    by_cases g3 : clashP a c x y
    · simp (maxSteps := 200000) -implicitDefEqProofs only [KA, KB, KC, KD, KE, KF, eq_self, ne_eq, ↓reduceIte, Nat.reduceLT, Nat.reduceEqDiff, Nat.reduceAdd, Nat.reduceLeDiff, Nat.reduceSub, Nat.reduceMul, reduceCtorEq, g3]
      exact bad fun hb => hb.2 ⟨⟨y, c⟩, List.mem_append.mpr (.inl (mem_rf.mpr ⟨y, hyx, rfl, List.mem_of_getElem? hc⟩)), clash_symm1 g3⟩
    · simp (maxSteps := 200000) -implicitDefEqProofs only [KA, KB, KC, KD, KE, KF, eq_self, ne_eq, ↓reduceIte, Nat.reduceLT, Nat.reduceEqDiff, Nat.reduceAdd, Nat.reduceLeDiff, Nat.reduceSub, Nat.reduceMul, reduceCtorEq, g3, wt, rd_n]
      refine ⟨m5 - 1, by omega, t + 1, _, rfl, by omega, by omega, ?_, rfl, rfl, rfl, rfl, rfl, rfl, rfl, rfl, rfl, rfl, rfl, rfl, rfl, rfl, rfl⟩
      intro z hz
      rw [take_snoc hc] at hz
      rcases List.mem_append.mp hz with hz | hz
      · exact hno3 z hz
      · have hz := List.mem_singleton.mp hz
        subst hz
        exact g3
  · simp (maxSteps := 200000) -implicitDefEqProofs only [KA, KB, KC, KD, KE, KF, eq_self, ne_eq, ↓reduceIte, Nat.reduceLT, Nat.reduceEqDiff, Nat.reduceAdd, Nat.reduceLeDiff, Nat.reduceSub, Nat.reduceMul, reduceCtorEq, e1, e3, e4, e6, e9, e13, e14, e18, e19, e20, e48, e49, e55, e56, e57, hlt5, wy, rd_n]
    refine ⟨m4 - 1, by omega, y + 1, _, rfl, by omega, by omega, ?_, rfl, rfl, rfl, rfl, rfl, rfl, rfl, rfl, rfl, rfl, rfl⟩
    intro z hz c hc
    by_cases hzy : z = y
    · subst hzy
      rw [List.take_of_length_le (by omega)] at hno3
      exact hno3 c hc
    · exact hno2 z (by omega) c hc
end
end Camp

/-! CvVp3 -/
namespace Camp
open Go
set_option linter.unusedVariables false
set_option linter.unusedSimpArgs false
set_option maxHeartbeats 4000000
/-- A row: a node, its cells. -/
structure Rw where
  n : Int
  v : CV
  L : List Cel
def encR (r : Rw) : List CV := [.int .i64 r.n, r.v]
/-- Rows that are there. -/
structure Rws (h : Hp) (w : CV) (C : List Rw) : Prop where
  sl : SL h 2 w (C.map encR)
  cells : ∀ r ∈ C, SL h 5 r.v (r.L.map encE) ∧ CapL r.v ∧ r.L.length ≤ 1048576
theorem Rws.new {h h' : Hp} {w : CV} {C : List Rw} (k : Rws h w C) (f : Fn h h') : Rws h' w C := ⟨k.sl.new f, fun r hr => ⟨(k.cells r hr).1.new f, (k.cells r hr).2⟩⟩
open Classical in
/-- A map's entry as a node and its cells. -/
noncomputable def rowF (C : List Rw) (e : ME) : Int × List Cel := if h : ∃ r ∈ C, e.key = .c (.int .i64 r.n) ∧ e.val = .c r.v then ((Classical.choose h).n, (Classical.choose h).L) else (0, [])
theorem rowF_ok {C : List Rw} {e : ME} (h : ∃ r ∈ C, e.key = .c (.int .i64 r.n) ∧ e.val = .c r.v) : ∃ r ∈ C, e.key = .c (.int .i64 r.n) ∧ e.val = .c r.v ∧ rowF C e = (r.n, r.L) := by
  have hs := Classical.choose_spec h
  refine ⟨Classical.choose h, hs.1, hs.2.1, hs.2.2, ?_⟩
  unfold rowF
  rw [dif_pos h]
section
variable {k : Nat} {h : Hp} {P : AV → Hp → Prop}
def nils16 : List CV := [.nils, .nils, .nils, .nils, .nils, .nils, .nils, .nils, .nils, .nils, .nils, .nils, .nils, .nils, .nils, .nils]
def MpA (h : Hp) (w : CV) (C : List Rw) (m : Nat) (s : St) : Prop :=
  ∃ (i : Nat) (es : List ME) (clock : Nat) (h' : Hp) (l : List (Nat × TV)), s = ST 45 l [] h' ∧ i ≤ C.length ∧ m = C.length - i ∧ h'.g h.n = some (.rows true 16 0 0 [nils16]) ∧ h'.g (h.n + 1) = some (.map true es clock) ∧ Ents (.int .i64) es clock ∧ es.length ≤ i ∧
    (∀ e ∈ es, ∃ r ∈ C, e.key = .c (.int .i64 r.n) ∧ e.val = .c r.v) ∧ Fn h h' ∧ h'.n = h.n + 2 ∧ lk l 3 = .v (.c (.ptr h.n 0 0 0)) ∧ lk l 5 = .v (.c (.map (h.n + 1))) ∧ lk l 13 = .v (.c w) ∧ lk l 14 = .v (.c (.int .i64 C.length)) ∧ lk l 15 = .v (.c (.int .i64 i))
structure MpV (h' : Hp) (C : List Rw) (V : List ME) (D : List CV) (DL : Nat → List Cel) (O : List Hd) : Prop where
  arr : DArr h' D DL
  len : ∀ x, x < 16 → (DL x).length ≤ 1048576
  perm : (flatM (rowF C) V).Perm (rf 16 DL ++ O)
  odd : ∀ y ∈ O, ¬ nodeP y.n
  olen : O.length ≤ V.length * 1048576
  free : ∀ x : Nat, x < 16 → (∀ e ∈ V, (rowF C e).1 ≠ x) → DL x = []
def MpB (h : Hp) (C : List Rw) (es : List ME) (clock : Nat) (m : Nat) (s : St) : Prop :=
  ∃ (V : List ME) (D : List CV) (DL : Nat → List Cel) (O : List Hd) (h' : Hp) (l : List (Nat × TV)), s = ST 45 l [D] h' ∧ (∀ e ∈ V, e ∈ es) ∧ (V.map (·.born)).Nodup ∧ m = es.length - V.length ∧ MpV h' C V D DL O ∧
    h'.g h.n = some (.rows true 16 0 0 [nils16]) ∧ h'.g (h.n + 1) = some (.map true es clock) ∧ h'.g (h.n + 2) = some (.miter (some (h.n + 1)) clock (V.map (·.born)) clock) ∧ Fn h h' ∧
    lk l 3 = .v (.c (.ptr h.n 0 0 0)) ∧ lk l 5 = .v (.c (.map (h.n + 1))) ∧ lk l 8 = .lp 0 0 ∧ lk l 9 = .v (.c (.int .i64 O.length)) ∧ lk l 26 = .v (.c (.it (h.n + 2)))
theorem flat_upd {α β : Type} {f g : α → List β} {x : α} : ∀ {l : List α}, l.Nodup → x ∈ l → f x = [] → (∀ y ∈ l, y ≠ x → g y = f y) → (l.flatMap g).Perm (l.flatMap f ++ g x)
  | [], _, hx, _, _ => by cases hx
  | a :: l, hn, hx, h0, h1 => by
    rw [List.nodup_cons] at hn
    rw [List.flatMap_cons, List.flatMap_cons]
    by_cases e : a = x
    · subst e
      have : l.flatMap g = l.flatMap f := by
        have : ∀ y ∈ l, g y = f y := fun y hy => h1 y (by simp [hy]) (fun e => hn.1 (by rw [← e]; exact hy))
        rw [List.flatMap_def, List.flatMap_def, List.map_congr_left this]
      rw [h0, this, List.nil_append]
      exact List.perm_append_comm
    · rw [h1 a (by simp) e, List.append_assoc]
      have hx' : x ∈ l := by
        rcases List.mem_cons.mp hx with h | h
        · exact absurd h.symm e
        · exact h
      exact List.Perm.append_left _ (flat_upd hn.2 hx' h0 (fun y hy => h1 y (by simp [hy])))
theorem MpV.node {h' h2 : Hp} {C : List Rw} {V : List ME} {D : List CV} {DL : Nat → List Cel} {O : List Hd} (k : MpV h' C V D DL O) (f : ∀ v rows, SL h' 5 v rows → SL h2 5 v rows) {e : ME} {v : CV} {x : Nat} (hx : x < 16) (hn : (rowF C e).1 = x) (hfr : ∀ e' ∈ V, (rowF C e').1 ≠ x)
    (hv : SL h2 5 v ((rowF C e).2.map encE)) (hc : CapL v) (hl : (rowF C e).2.length ≤ 1048576) : ∃ DL', MpV h2 C (V ++ [e]) (D.set x v) DL' O := by
  refine ⟨fun y => if y = x then (rowF C e).2 else DL y, ⟨by rw [List.length_set]; exact k.arr.1, fun y hy => ?_⟩, fun y hy => ?_, ?_, k.odd, ?_, fun y hy hfree => ?_⟩
  · by_cases e1 : y = x
    · subst e1
      refine ⟨v, by rw [List.getElem?_set, if_pos rfl, if_pos (by rw [k.arr.1]; exact hy)], ?_, hc⟩
      simpa using hv
    · obtain ⟨u, h1, h2, h3⟩ := k.arr.2 y hy
      refine ⟨u, by rw [List.getElem?_set, if_neg (fun h => e1 h.symm)]; exact h1, ?_, h3⟩
      simpa [e1] using f _ _ h2
  · by_cases e1 : y = x
    · simpa [e1] using hl
    · simpa [e1] using k.len y hy
  · rw [flat_snoc]
    have hp : (rf 16 fun y => if y = x then (rowF C e).2 else DL y).Perm (rf 16 DL ++ flatE (rowF C) e) := by
      have := flat_upd (f := fun y => rfl1 y (DL y)) (g := fun y => rfl1 y (if y = x then (rowF C e).2 else DL y)) (x := x) (l := List.range 16) List.nodup_range (List.mem_range.mpr hx) (by simp [rfl1, k.free x hx hfr]) (fun y _ hy => by simp [hy])
      simp only [if_true] at this
      have he : rfl1 x (rowF C e).2 = flatE (rowF C) e := by unfold rfl1 flatE; rw [hn]
      rw [he] at this
      exact this
    refine (k.perm.append_right _).trans ?_
    refine List.Perm.trans ?_ (hp.symm.append_right O)
    rw [List.append_assoc, List.append_assoc]
    exact List.Perm.append_left _ List.perm_append_comm
  · exact Nat.le_trans k.olen (Nat.mul_le_mul_right _ (by simp))
  · have hyx : y ≠ x := by
      rintro rfl
      exact hfree e (by simp) hn
    simpa [hyx] using k.free y hy (fun e' he' => hfree e' (by simp [he']))
theorem MpV.other {h' h2 : Hp} {C : List Rw} {V : List ME} {D : List CV} {DL : Nat → List Cel} {O : List Hd} (k : MpV h' C V D DL O) (f : ∀ v rows, SL h' 5 v rows → SL h2 5 v rows) {e : ME} (hn : ¬ nodeP (rowF C e).1) (hl : (rowF C e).2.length ≤ 1048576) :
    ∃ O', MpV h2 C (V ++ [e]) D DL O' ∧ O'.length = O.length + (rowF C e).2.length := by
  refine ⟨O ++ flatE (rowF C) e, ⟨⟨k.arr.1, fun y hy => ?_⟩, k.len, ?_, ?_, ?_, ?_⟩, by rw [List.length_append]; unfold flatE; rw [List.length_map]⟩
  · obtain ⟨u, h1, h2, h3⟩ := k.arr.2 y hy
    exact ⟨u, h1, f _ _ h2, h3⟩
  · rw [flat_snoc, ← List.append_assoc]
    exact k.perm.append_right _
  · intro y hy
    rcases List.mem_append.mp hy with hy | hy
    · exact k.odd y hy
    · unfold flatE at hy
      obtain ⟨c, hc, rfl⟩ := List.mem_map.mp hy
      exact hn
  · have := k.olen
    rw [List.length_append, List.length_append]
    unfold flatE
    rw [List.length_map, List.length_singleton]
    omega
  · intro x hx hfree
    exact k.free x hx (fun e' he' => hfree e' (by simp [he']))
theorem map_ok {w : CV} {C : List Rw} (hC : Rws h w C) (hlC : C.length ≤ 1048576)
    (hP : ∀ h' m es clock D DL O, Fn h h' → h'.g m = some (.map true es clock) → Ents (.int .i64) es clock → (∀ e ∈ es, ∃ r ∈ C, e.key = .c (.int .i64 r.n) ∧ e.val = .c r.v) → es.length ≤ C.length → MpV h' C es D DL O → P (.tup [.c (.map m), .agg D, .c (.int .i64 O.length)]) h') :
    callW N (k + 2) 215 [.c w] h P := by
  have hlen : ∀ h' : Hp, lenT h' .sl (.v (.c w)) = some (C.length : Int) := fun h' => by rw [hC.sl.len h', List.length_map]
  obtain ⟨h1, hh1⟩ : ∃ h1, h1 = (h.push (.rows true 16 0 0 [nils16])).push (.map true [] 0) := ⟨_, rfl⟩
  have n1 : h1.n = h.n + 2 := by rw [hh1, n_push, n_push]
  have g1 : h1.g h.n = some (.rows true 16 0 0 [nils16]) := by rw [hh1, g_push_ne _ _ (by rw [n_push]; omega), g_push_eq]
  have g2 : h1.g (h.n + 1) = some (.map true [] 0) := by rw [hh1, ← n_push h (.rows true 16 0 0 [nils16]), g_push_eq]
  have f1 : Fn h h1 := by rw [hh1]; exact (Fm.push _ _ _).trans (Fm.push _ _ _)
  have hfold : (h.push (.rows true 16 0 0 [[.nils, .nils, .nils, .nils, .nils, .nils, .nils, .nils, .nils, .nils, .nils, .nils, .nils, .nils, .nils, .nils]])).push (.map true [] 0) = h1 := hh1.symm
  refine call_intro rfl (by simp only [List.length_cons, List.length_nil]; omega) ?_
  rw [a_fin]
  unfold n215b
  simp (maxSteps := 200000) -implicitDefEqProofs only [KA, KB, KC, KD, KE, KF, eq_self, ne_eq, ↓reduceIte, Nat.reduceLT, Nat.reduceEqDiff, Nat.reduceAdd, Nat.reduceLeDiff, Nat.reduceSub, Nat.reduceMul, reduceCtorEq, hfold, hlen]
  refine loop_rd (callW_mono N _) (MpA h w C) (n := C.length) ⟨0, [], 0, h1, _, rfl, by omega, by omega, g1, g2, Ents.nil _ _, by simp, by simp, f1, n1, rfl, rfl, rfl, rfl, rfl⟩ ?_
  rintro m s ⟨i, es, clock, h2, l, rfl, hi, hm, gr, gm, hE, hel, hes, f2, n2, e3, e5, e13, e14, e15⟩
  by_cases hlt : (i : Int) < C.length
  · have hil : i < C.length := by omega
    obtain ⟨r, hr⟩ : ∃ r, C[i]? = some r := ⟨_, List.getElem?_eq_getElem hil⟩
    have hrm := List.mem_of_getElem? hr
    have hrow : (C.map encR)[(i : Int).toNat]? = some (encR r) := by simp [hr]
    obtain ⟨p1, p2, p3, a1, a2⟩ := (hC.new f2).sl.at (by omega) hrow
    unfold encR at a2
    obtain ⟨es', clock', u1, u2, u3, u4, _, _⟩ := mupd_bk (k := .c (.int .i64 r.n)) (x := .c r.v) gm hE rfl
    have w2 := wrap_i64 (n := (i : Int) + 1) (by omega)
    simp (maxSteps := 200000) -implicitDefEqProofs only [KA, KB, KC, KD, KE, KF, eq_self, ne_eq, ↓reduceIte, Nat.reduceLT, Nat.reduceEqDiff, Nat.reduceAdd, Nat.reduceLeDiff, Nat.reduceSub, Nat.reduceMul, reduceCtorEq, e3, e5, e13, e14, e15, hlt, a1, a2, u1, w2, rd_n]
    refine ⟨m - 1, by omega, i + 1, es', clock', _, _, rfl, by omega, by omega, ?_, ?_, u2, by omega, ?_, f2.putNew _ (by omega), by rw [n_put]; exact n2, rfl, rfl, rfl, rfl, rfl⟩
    · rw [g_put_ne _ _ (by omega)]; exact gr
    · rw [g_put_eq, gm]; rfl
    · intro e he
      rcases u4 e he with ⟨h1, h2⟩ | ⟨_, e0, he0, h1, h2⟩
      · exact ⟨r, hrm, h1, h2⟩
      · obtain ⟨r', hr', h3, h4⟩ := hes e0 he0
        exact ⟨r', hr', by rw [← h1]; exact h3, by rw [← h2]; exact h4⟩
  have hrg := rgn_map gm
  simp (maxSteps := 200000) -implicitDefEqProofs only [KA, KB, KC, KD, KE, KF, eq_self, ne_eq, ↓reduceIte, Nat.reduceLT, Nat.reduceEqDiff, Nat.reduceAdd, Nat.reduceLeDiff, Nat.reduceSub, Nat.reduceMul, reduceCtorEq, e3, e5, e13, e14, e15, hlt, hrg]
  have hel2 : es.length ≤ C.length := by omega
  clear e3 e5 e13 e14 e15 hm hel
  refine loop_rd (callW_mono N _) (MpB h C es clock) (n := es.length) ⟨[], nils16, fun _ => [], [], _, _, rfl, by simp, by simp, by simp, ⟨⟨rfl, fun x hx => ?_⟩, by simp, by simp [flatM, rf, rfl1], by simp, by simp, fun _ _ _ => rfl⟩, by rw [g_push_ne _ _ (by omega)]; exact gr, by rw [g_push_ne _ _ (by omega)]; exact gm, by rw [← n2, g_push_eq]; rfl, f2.trans (Fm.push _ _ _), rfl, rfl, rfl, rfl, by rw [n2]; rfl⟩ ?_
  · refine ⟨.nils, ?_, rfl, by rintro _ _ _ _ _ ⟨⟩⟩
    unfold nils16
    have e : ∀ y, y < 16 → (List.replicate 16 CV.nils)[y]? = some CV.nils := fun y hy => by rw [List.getElem?_replicate, if_pos hy]
    exact e x hx
  clear gr gm f2 n2
  rintro m2 s ⟨V, D, DL, O, h3, l, rfl, hV, hVn, hm2, hMp, gr, gm, git, f3, e3, e5, e8, e9, e26⟩
  have hDl := hMp.arr.1
  have hVl : V.length ≤ es.length := by
    obtain ⟨R, hR⟩ := sub_perm hVn hV
    have := hR.length_eq
    rw [List.length_append] at this
    omega
  simp (maxSteps := 200000) -implicitDefEqProofs only [KA, KB, KC, KD, KE, KF, eq_self, ne_eq, ↓reduceIte, Nat.reduceLT, Nat.reduceEqDiff, Nat.reduceAdd, Nat.reduceLeDiff, Nat.reduceSub, Nat.reduceMul, reduceCtorEq, e3, e5, e8, e9, e26]
  refine nx_map (id := h.n + 2) (m := h.n + 1) (clock := clock) (seen := V.map (·.born)) (by simp only [evN_t, lk_cons, lk_nil]; rfl) git gm hE.lt (fun e he hnb => ?_) fun hall => ?_
  · obtain ⟨r, hr, hk, hv, hF⟩ := rowF_ok (hes e he)
    obtain ⟨hsl, hcap, hbd⟩ := (hC.new f3).cells r hr
    obtain ⟨h4, hh4⟩ : ∃ h4, h4 = h3.put (h.n + 2) (.miter (some (h.n + 1)) clock (V.map (·.born) ++ [e.born]) clock) := ⟨_, rfl⟩
    have hf4 : Fm (fun j => j = h.n + 2) h3 h4 := by rw [hh4]; exact Fm.put _ _ rfl
    have git4 : h4.g (h.n + 2) = some (.miter (some (h.n + 1)) clock (V.map (·.born) ++ [e.born]) clock) := by rw [hh4, g_put_eq, git]; rfl
    have gm4 := hf4.some gm (fun e => by omega)
    have gr4 := hf4.some gr (fun e => by omega)
    have hen := entry_at git4 gm4 he hE.nd
    rw [hk, hv] at hen
    have f4 : Fn h h4 := by rw [hh4]; exact f3.putNew _ (by omega)
    have hfold4 := hh4.symm
    have hkeep : ∀ v rows, SL h3 5 v rows → SL h4 5 v rows := fun v rows hs => hs.mono hf4 (by
      rintro id tok off len cap rfl e
      obtain ⟨wr, cur, lw, rs, hg, _⟩ := hs
      rw [e, git] at hg
      cases hg)
    have hsl4 := hkeep _ _ hsl
    have hVe : ((V ++ [e]).map (·.born)).Nodup := by
      rw [List.map_append, List.nodup_append]
      refine ⟨hVn, by simp, ?_⟩
      intro a ha b hb2
      simp at hb2
      subst hb2
      rintro rfl
      exact hnb ha
    have heV : ∀ x ∈ V ++ [e], x ∈ es := by
      intro x hx
      rcases List.mem_append.mp hx with hx | hx
      · exact hV x hx
      · have hx := List.mem_singleton.mp hx
        subst hx
        exact he
    have hlenV : (V ++ [e]).length ≤ es.length := by
      obtain ⟨R, hR⟩ := sub_perm hVe heV
      have := hR.length_eq
      rw [List.length_append] at this
      omega
    rw [List.length_append, List.length_singleton] at hlenV
    simp (maxSteps := 200000) -implicitDefEqProofs only [KA, KB, KC, KD, KE, KF, eq_self, ne_eq, ↓reduceIte, Nat.reduceLT, Nat.reduceEqDiff, Nat.reduceAdd, Nat.reduceLeDiff, Nat.reduceSub, Nat.reduceMul, reduceCtorEq, hfold4, hen]
    refine node44_ok ?_
    by_cases hnd : nodeP r.n
    · obtain ⟨x, hx⟩ : ∃ x : Nat, r.n = x := ⟨r.n.toNat, by unfold nodeP at hnd; omega⟩
      have hx16 : x < 16 := by unfold nodeP at hnd; omega
      have ia : iaddrAV 16 1 (.lp 0 0) r.n = some (.lp 0 x) := by
        rw [hx, iaA_l (by omega)]
        simp
      have hset : D.take x ++ r.v :: D.drop (x + 1) = D.set x r.v := by
        rw [List.set_eq_take_append_cons_drop, if_pos (by omega)]
      have hle : x + 1 ≤ 16 := by omega
      simp (maxSteps := 200000) -implicitDefEqProofs only [KA, KB, KC, KD, KE, KF, eq_self, ne_eq, ↓reduceIte, Nat.reduceLT, Nat.reduceEqDiff, Nat.reduceAdd, Nat.reduceLeDiff, Nat.reduceSub, Nat.reduceMul, reduceCtorEq, hnd, ia, hDl, hle, hset, rd_n]
      obtain ⟨DL', hMp'⟩ := hMp.node hkeep (e := e) (v := r.v) hx16 (by rw [hF]; exact hx) (fun e' he' hq => by
        obtain ⟨r', hr', hk', hv', hF'⟩ := rowF_ok (hes e' (hV e' he'))
        rw [hF'] at hq
        have := uniq_key hE.uniq (hV e' he') he (by rw [hk', hk, show r'.n = r.n from hq.trans hx.symm])
        subst this
        exact hnb (List.mem_map_of_mem he')) (by rw [hF]; exact hsl4) hcap (by rw [hF]; exact hbd)
      exact ⟨m2 - 1, by omega, V ++ [e], _, DL', O, h4, _, rfl, heV, hVe, by rw [List.length_append, List.length_singleton]; omega, hMp', gr4, gm4, by rw [List.map_append]; exact git4, f4, rfl, rfl, rfl, rfl, rfl⟩
    · have hl5 : lenT h4 .sl (.v (.c r.v)) = some (r.L.length : Int) := by rw [hsl4.len h4, List.length_map]
      obtain ⟨O', hMp', hO'⟩ := hMp.other hkeep (e := e) (by rw [hF]; exact hnd) (by rw [hF]; exact hbd)
      rw [hF] at hO'
      simp only at hO'
      have hol := hMp'.olen
      rw [List.length_append, List.length_singleton] at hol
      have wo := wrap_i64 (n := (O.length : Int) + r.L.length) (by omega)
      simp (maxSteps := 200000) -implicitDefEqProofs only [KA, KB, KC, KD, KE, KF, eq_self, ne_eq, ↓reduceIte, Nat.reduceLT, Nat.reduceEqDiff, Nat.reduceAdd, Nat.reduceLeDiff, Nat.reduceSub, Nat.reduceMul, reduceCtorEq, hnd, hl5, wo, rd_n]
      exact ⟨m2 - 1, by omega, V ++ [e], _, DL, O', h4, _, rfl, heV, hVe, by rw [List.length_append, List.length_singleton]; omega, hMp', gr4, gm4, by rw [List.map_append]; exact git4, f4, rfl, rfl, rfl, by rw [hO']; simp; rfl, rfl⟩
  · have htk := take_cons16 hDl
    have hpl : (h3.put h.n (.rows true 16 0 0 [D])).g h.n = some (.rows true 16 0 0 [D]) := by rw [g_put_eq, gr]; rfl
    have hnl : nils16.length = 16 := rfl
    have hsp : nils16.take 0 ++ (D ++ nils16.drop (0 + D.length)) = D := by rw [hDl]; simp [nils16]
    have hsp' : D ++ nils16.drop 16 = D := by simp [nils16]
    simp (maxSteps := 200000) -implicitDefEqProofs only [KA, KB, KC, KD, KE, KF, eq_self, ne_eq, ↓reduceIte, Nat.reduceLT, Nat.reduceEqDiff, Nat.reduceAdd, Nat.reduceLeDiff, Nat.reduceSub, Nat.reduceMul, reduceCtorEq, gr, hDl, hnl, hsp', hpl, htk, fz_r, fz_n]
    have hpm : MpV h3 C es D DL O := by
      obtain ⟨R, hR⟩ := sub_perm hVn hV
      have hRn : R = [] := by
        cases R with
        | nil => rfl
        | cons r R =>
          have hr : r ∈ es := hR.mem_iff.mpr (by simp)
          have h1 := hall r hr
          have h2 := (hR.map (·.born)).nodup_iff.mp hE.nd
          rw [List.map_append, List.nodup_append] at h2
          exact absurd rfl (h2.2.2 r.born h1 r.born (by simp))
      subst hRn
      rw [List.append_nil] at hR
      exact ⟨hMp.arr, hMp.len, (hR.flatMap_right (flatE (rowF C))).trans hMp.perm, hMp.odd, by rw [hR.length_eq]; exact hMp.olen, fun x hx hf => hMp.free x hx (fun e he => hf e (hR.mem_iff.mpr he))⟩
    refine hP _ (h.n + 1) es clock D DL O (f3.putNew _ (Nat.le_refl _)) (by rw [g_put_ne _ _ (by omega)]; exact gm) hE hes hel2 ?_
    refine { hpm with arr := ⟨hpm.arr.1, fun x hx => ?_⟩ }
    obtain ⟨u, k1, k2, k3⟩ := hpm.arr.2 x hx
    refine ⟨u, k1, k2.mono (S := fun j => j = h.n) (Fm.put _ _ rfl) ?_, k3⟩
    rintro id tok off len cap rfl e
    obtain ⟨wr, cur, lw, rs, hg, _⟩ := k2
    rw [e, gr] at hg
    cases hg
end
end Camp
