/- Cells: May, node, alone, link, Clash. Cells: clashes, Clean. Cells: Clean. Books: New, has, Ready, Waits, Commit, Abort, Version, Cells; a book that there is not. Books: Begin of nothing; Cells; a book and a plan that there are not. -/
import Derived.Test.YtljcbkebdbenbaaCode
import Derived.Test.YtljcbkebdbenbaaUseB

set_option linter.unnecessarySimpa false
set_option linter.unusedVariables false
set_option linter.unusedSimpArgs false
set_option linter.unusedSectionVars false
/-! CvVerA -/
namespace Camp
open Go
set_option linter.unusedVariables false
set_option linter.unusedSimpArgs false
set_option maxHeartbeats 4000000
structure Cel where
  f : Int
  s : Int
  c : Int
  o : Int
  p : Int
def encE (x : Cel) : List CV := [.int .i64 x.f, .int .i64 x.s, .int .i64 x.c, .int .i64 x.o, .int .i64 x.p]
def andI (a b : Int) : Int := IntKind.wrap .i64 (BitVec.ofInt IntKind.i64.bits a &&& BitVec.ofInt IntKind.i64.bits b).toNat
theorem andI_fold (a b : Int) : IntKind.wrap .i64 (BitVec.ofInt IntKind.i64.bits a &&& BitVec.ofInt IntKind.i64.bits b).toNat = andI a b := rfl
def mayC (x : Cel) : Prop := (0 ≤ x.f ∧ x.f ≤ 3) ∧ (0 ≤ x.s ∧ x.s ≤ 199) ∧ (0 ≤ x.c ∧ x.c ≤ 15) ∧ (1 ≤ x.o ∧ x.o ≤ 15) ∧ ¬ andI x.o 3 = 0 ∧ ¬ (¬ andI x.o 4 = 0 ∧ andI x.o 1 = 0) ∧ ((0 ≤ x.p ∧ x.p ≤ 15) ∨ x.p = 64)
instance (x : Cel) : Decidable (mayC x) := inferInstanceAs (Decidable (_ ∧ _ ∧ _ ∧ _ ∧ _ ∧ _ ∧ _))
def nodeP (n : Int) : Prop := 0 ≤ n ∧ n < 16
instance (n : Int) : Decidable (nodeP n) := inferInstanceAs (Decidable (_ ∧ _))
def endsP (a b : Cel) : Prop := (andI a.o 3 = 1 ∧ andI b.o 3 = 2) ∨ (andI a.o 3 = 2 ∧ andI b.o 3 = 1)
instance (a b : Cel) : Decidable (endsP a b) := inferInstanceAs (Decidable (_ ∨ _))
def linkP (a b : Cel) (x y : Int) : Prop := a.p = y ∧ b.p = x ∧ a.c = b.c ∧ endsP a b
instance (a b : Cel) (x y : Int) : Decidable (linkP a b x y) := inferInstanceAs (Decidable (_ ∧ _ ∧ _ ∧ _))
/-- Do a cell of x and a cell of y clash? -/
def clashP (a b : Cel) (x y : Int) : Prop :=
  ¬ (mayC a ∧ mayC b ∧ nodeP x ∧ nodeP y) ∨ ((a.f = b.f ∧ a.s = b.s) ∧ (x = y ∨ (¬ linkP a b x y ∧ (a.c = b.c ∨ x = b.p ∨ y = a.p ∨ (a.p = b.p ∧ ¬ a.p = 64)))))
instance (a b : Cel) (x y : Int) : Decidable (clashP a b x y) := inferInstanceAs (Decidable (_ ∨ _))
theorem clash_symm1 {a b : Cel} {x y : Int} (h : clashP a b x y) : clashP b a y x := by
  unfold clashP linkP endsP at *
  rcases h with h | ⟨⟨h1, h2⟩, h3⟩
  · left; intro h'; exact h ⟨h'.2.1, h'.1, h'.2.2.2, h'.2.2.1⟩
  · right
    refine ⟨⟨h1.symm, h2.symm⟩, ?_⟩
    rcases h3 with h3 | ⟨h3, h4⟩
    · exact .inl h3.symm
    · right
      exact ⟨fun h' => h3 ⟨h'.2.1, h'.1, h'.2.2.1.symm, h'.2.2.2.symm.imp (fun e => ⟨e.2, e.1⟩) (fun e => ⟨e.2, e.1⟩)⟩, by omega⟩
theorem clash_symm (a b : Cel) (x y : Int) : clashP a b x y ↔ clashP b a y x := ⟨clash_symm1, clash_symm1⟩
section
variable {k : Nat} {h : Hp} {P : AV → Hp → Prop}
theorem in_ok {n a b : Int} (hP : P (.c (.bool (decide (a ≤ n ∧ n ≤ b)))) h) : callW N (k + 1) 124 [.c (.int .i64 n), .c (.int .i64 a), .c (.int .i64 b)] h P := by
  refine call_intro rfl (by simp only [List.length_cons, List.length_nil]; omega) ?_
  by_cases h1 : a ≤ n
  · by_cases h2 : n ≤ b
    · rw [decide_eq_true ⟨h1, h2⟩] at hP
      simp (maxSteps := 200000) -implicitDefEqProofs only [KA, KB, KC, KD, KE, KF, eq_self, ne_eq, ↓reduceIte, Nat.reduceLT, Nat.reduceEqDiff, Nat.reduceAdd, Nat.reduceLeDiff, Nat.reduceSub, Nat.reduceMul, reduceCtorEq, h1, h2]
      exact hP
    · rw [decide_eq_false (by omega)] at hP
      simp (maxSteps := 200000) -implicitDefEqProofs only [KA, KB, KC, KD, KE, KF, eq_self, ne_eq, ↓reduceIte, Nat.reduceLT, Nat.reduceEqDiff, Nat.reduceAdd, Nat.reduceLeDiff, Nat.reduceSub, Nat.reduceMul, reduceCtorEq, h1, h2]
      exact hP
  · rw [decide_eq_false (by omega)] at hP
    simp (maxSteps := 200000) -implicitDefEqProofs only [KA, KB, KC, KD, KE, KF, eq_self, ne_eq, ↓reduceIte, Nat.reduceLT, Nat.reduceEqDiff, Nat.reduceAdd, Nat.reduceLeDiff, Nat.reduceSub, Nat.reduceMul, reduceCtorEq, h1]
    exact hP
theorem node_ok {n : Int} (hP : P (.c (.bool (decide (nodeP n)))) h) : callW N (k + 1) 122 [.c (.int .i64 n)] h P := by
  refine call_intro rfl (by simp only [List.length_cons, List.length_nil]; omega) ?_
  by_cases h1 : 0 ≤ n
  · by_cases h2 : n < 16
    · rw [decide_eq_true ⟨h1, h2⟩] at hP
      simp (maxSteps := 200000) -implicitDefEqProofs only [KA, KB, KC, KD, KE, KF, eq_self, ne_eq, ↓reduceIte, Nat.reduceLT, Nat.reduceEqDiff, Nat.reduceAdd, Nat.reduceLeDiff, Nat.reduceSub, Nat.reduceMul, reduceCtorEq, h1, h2]
      exact hP
    · rw [decide_eq_false (fun h => h2 h.2)] at hP
      simp (maxSteps := 200000) -implicitDefEqProofs only [KA, KB, KC, KD, KE, KF, eq_self, ne_eq, ↓reduceIte, Nat.reduceLT, Nat.reduceEqDiff, Nat.reduceAdd, Nat.reduceLeDiff, Nat.reduceSub, Nat.reduceMul, reduceCtorEq, h1, h2]
      exact hP
  · rw [decide_eq_false (fun h => h1 h.1)] at hP
    simp (maxSteps := 200000) -implicitDefEqProofs only [KA, KB, KC, KD, KE, KF, eq_self, ne_eq, ↓reduceIte, Nat.reduceLT, Nat.reduceEqDiff, Nat.reduceAdd, Nat.reduceLeDiff, Nat.reduceSub, Nat.reduceMul, reduceCtorEq, h1]
    exact hP
theorem may_ok {x : Cel} (hP : P (.c (.bool (decide (mayC x)))) h) : callW N (k + 2) 121 [.agg (encE x)] h P := by
  obtain ⟨f, s, c, o, p⟩ := x
  have no : ¬ mayC ⟨f, s, c, o, p⟩ → P (.c (.bool false)) h := fun hn => by rw [decide_eq_false hn] at hP; exact hP
  refine call_intro rfl (by simp only [List.length_cons, List.length_nil]; omega) ?_
  have share : (¬ andI o 4 = 0 ∧ decide (andI o 1 = 0) = true) ∨ (¬ andI o 4 = 0 ∧ ¬ andI o 1 = 0) ∨ decide (andI o 4 = 0) = true := by
    by_cases c4 : andI o 4 = 0
    · exact .inr (.inr (decide_eq_true c4))
    · by_cases c1 : andI o 1 = 0
      · exact .inl ⟨c4, decide_eq_true c1⟩
      · exact .inr (.inl ⟨c4, c1⟩)
  obtain ⟨sh, hsh⟩ : ∃ sh : Bool, sh = decide (¬ andI o 4 = 0 ∧ andI o 1 = 0) := ⟨_, rfl⟩
  by_cases m3 : andI o 3 = 0
  · have d3 : decide (andI o 3 = 0) = true := decide_eq_true m3
    have no' := no fun h => h.2.2.2.2.1 m3
    rcases share with ⟨c4, c1⟩ | ⟨c4, c1⟩ | c4
    all_goals first | simp (maxSteps := 200000) -implicitDefEqProofs only [KA, KB, KC, KD, KE, KF, eq_self, ne_eq, ↓reduceIte, Nat.reduceLT, Nat.reduceEqDiff, Nat.reduceAdd, Nat.reduceLeDiff, Nat.reduceSub, Nat.reduceMul, reduceCtorEq, encE, andI_fold, d3, c4, c1] | simp (maxSteps := 200000) -implicitDefEqProofs only [KA, KB, KC, KD, KE, KF, eq_self, ne_eq, ↓reduceIte, Nat.reduceLT, Nat.reduceEqDiff, Nat.reduceAdd, Nat.reduceLeDiff, Nat.reduceSub, Nat.reduceMul, reduceCtorEq, encE, andI_fold, d3, c4]
    all_goals
      refine in_ok ?_
      by_cases c1 : 0 ≤ f ∧ f ≤ 3
      · simp (maxSteps := 200000) -implicitDefEqProofs only [KA, KB, KC, KD, KE, KF, eq_self, ne_eq, ↓reduceIte, Nat.reduceLT, Nat.reduceEqDiff, Nat.reduceAdd, Nat.reduceLeDiff, Nat.reduceSub, Nat.reduceMul, reduceCtorEq, c1]
        refine in_ok ?_
        by_cases c2 : 0 ≤ s ∧ s ≤ 199
        · simp (maxSteps := 200000) -implicitDefEqProofs only [KA, KB, KC, KD, KE, KF, eq_self, ne_eq, ↓reduceIte, Nat.reduceLT, Nat.reduceEqDiff, Nat.reduceAdd, Nat.reduceLeDiff, Nat.reduceSub, Nat.reduceMul, reduceCtorEq, c2]
          refine in_ok ?_
          by_cases c3 : 0 ≤ c ∧ c ≤ 15
          · simp (maxSteps := 200000) -implicitDefEqProofs only [KA, KB, KC, KD, KE, KF, eq_self, ne_eq, ↓reduceIte, Nat.reduceLT, Nat.reduceEqDiff, Nat.reduceAdd, Nat.reduceLeDiff, Nat.reduceSub, Nat.reduceMul, reduceCtorEq, c3]
            refine in_ok ?_
            by_cases c4 : 1 ≤ o ∧ o ≤ 15
            · simp (maxSteps := 200000) -implicitDefEqProofs only [KA, KB, KC, KD, KE, KF, eq_self, ne_eq, ↓reduceIte, Nat.reduceLT, Nat.reduceEqDiff, Nat.reduceAdd, Nat.reduceLeDiff, Nat.reduceSub, Nat.reduceMul, reduceCtorEq, c4]
              exact no'
            · simp (maxSteps := 200000) -implicitDefEqProofs only [KA, KB, KC, KD, KE, KF, eq_self, ne_eq, ↓reduceIte, Nat.reduceLT, Nat.reduceEqDiff, Nat.reduceAdd, Nat.reduceLeDiff, Nat.reduceSub, Nat.reduceMul, reduceCtorEq, c4]
              exact no'
          · simp (maxSteps := 200000) -implicitDefEqProofs only [KA, KB, KC, KD, KE, KF, eq_self, ne_eq, ↓reduceIte, Nat.reduceLT, Nat.reduceEqDiff, Nat.reduceAdd, Nat.reduceLeDiff, Nat.reduceSub, Nat.reduceMul, reduceCtorEq, c3]
            exact no'
        · simp (maxSteps := 200000) -implicitDefEqProofs only [KA, KB, KC, KD, KE, KF, eq_self, ne_eq, ↓reduceIte, Nat.reduceLT, Nat.reduceEqDiff, Nat.reduceAdd, Nat.reduceLeDiff, Nat.reduceSub, Nat.reduceMul, reduceCtorEq, c2]
          exact no'
      · simp (maxSteps := 200000) -implicitDefEqProofs only [KA, KB, KC, KD, KE, KF, eq_self, ne_eq, ↓reduceIte, Nat.reduceLT, Nat.reduceEqDiff, Nat.reduceAdd, Nat.reduceLeDiff, Nat.reduceSub, Nat.reduceMul, reduceCtorEq, c1]
        exact no'
  · rcases share with ⟨c4, c1⟩ | ⟨c4, c1⟩ | c4
    case' inl =>
      have no' := no fun h => h.2.2.2.2.2.1 ⟨c4, of_decide_eq_true c1⟩
      simp (maxSteps := 200000) -implicitDefEqProofs only [KA, KB, KC, KD, KE, KF, eq_self, ne_eq, ↓reduceIte, Nat.reduceLT, Nat.reduceEqDiff, Nat.reduceAdd, Nat.reduceLeDiff, Nat.reduceSub, Nat.reduceMul, reduceCtorEq, encE, andI_fold, m3, c4, c1]
      refine in_ok ?_
      by_cases c1 : 0 ≤ f ∧ f ≤ 3
      · simp (maxSteps := 200000) -implicitDefEqProofs only [KA, KB, KC, KD, KE, KF, eq_self, ne_eq, ↓reduceIte, Nat.reduceLT, Nat.reduceEqDiff, Nat.reduceAdd, Nat.reduceLeDiff, Nat.reduceSub, Nat.reduceMul, reduceCtorEq, c1]
        refine in_ok ?_
        by_cases c2 : 0 ≤ s ∧ s ≤ 199
        · simp (maxSteps := 200000) -implicitDefEqProofs only [KA, KB, KC, KD, KE, KF, eq_self, ne_eq, ↓reduceIte, Nat.reduceLT, Nat.reduceEqDiff, Nat.reduceAdd, Nat.reduceLeDiff, Nat.reduceSub, Nat.reduceMul, reduceCtorEq, c2]
          refine in_ok ?_
          by_cases c3 : 0 ≤ c ∧ c ≤ 15
          · simp (maxSteps := 200000) -implicitDefEqProofs only [KA, KB, KC, KD, KE, KF, eq_self, ne_eq, ↓reduceIte, Nat.reduceLT, Nat.reduceEqDiff, Nat.reduceAdd, Nat.reduceLeDiff, Nat.reduceSub, Nat.reduceMul, reduceCtorEq, c3]
            refine in_ok ?_
            by_cases c4 : 1 ≤ o ∧ o ≤ 15
            · simp (maxSteps := 200000) -implicitDefEqProofs only [KA, KB, KC, KD, KE, KF, eq_self, ne_eq, ↓reduceIte, Nat.reduceLT, Nat.reduceEqDiff, Nat.reduceAdd, Nat.reduceLeDiff, Nat.reduceSub, Nat.reduceMul, reduceCtorEq, c4]
              exact no'
            · simp (maxSteps := 200000) -implicitDefEqProofs only [KA, KB, KC, KD, KE, KF, eq_self, ne_eq, ↓reduceIte, Nat.reduceLT, Nat.reduceEqDiff, Nat.reduceAdd, Nat.reduceLeDiff, Nat.reduceSub, Nat.reduceMul, reduceCtorEq, c4]
              exact no'
          · simp (maxSteps := 200000) -implicitDefEqProofs only [KA, KB, KC, KD, KE, KF, eq_self, ne_eq, ↓reduceIte, Nat.reduceLT, Nat.reduceEqDiff, Nat.reduceAdd, Nat.reduceLeDiff, Nat.reduceSub, Nat.reduceMul, reduceCtorEq, c3]
            exact no'
        · simp (maxSteps := 200000) -implicitDefEqProofs only [KA, KB, KC, KD, KE, KF, eq_self, ne_eq, ↓reduceIte, Nat.reduceLT, Nat.reduceEqDiff, Nat.reduceAdd, Nat.reduceLeDiff, Nat.reduceSub, Nat.reduceMul, reduceCtorEq, c2]
          exact no'
      · simp (maxSteps := 200000) -implicitDefEqProofs only [KA, KB, KC, KD, KE, KF, eq_self, ne_eq, ↓reduceIte, Nat.reduceLT, Nat.reduceEqDiff, Nat.reduceAdd, Nat.reduceLeDiff, Nat.reduceSub, Nat.reduceMul, reduceCtorEq, c1]
        exact no'
    case' inr.inl => have ns : ¬ (¬ andI o 4 = 0 ∧ andI o 1 = 0) := fun h => c1 h.2
    case' inr.inr => have ns : ¬ (¬ andI o 4 = 0 ∧ andI o 1 = 0) := fun h => h.1 (of_decide_eq_true c4)
    all_goals first | simp (maxSteps := 200000) -implicitDefEqProofs only [KA, KB, KC, KD, KE, KF, eq_self, ne_eq, ↓reduceIte, Nat.reduceLT, Nat.reduceEqDiff, Nat.reduceAdd, Nat.reduceLeDiff, Nat.reduceSub, Nat.reduceMul, reduceCtorEq, encE, andI_fold, m3, c4, c1] | simp (maxSteps := 200000) -implicitDefEqProofs only [KA, KB, KC, KD, KE, KF, eq_self, ne_eq, ↓reduceIte, Nat.reduceLT, Nat.reduceEqDiff, Nat.reduceAdd, Nat.reduceLeDiff, Nat.reduceSub, Nat.reduceMul, reduceCtorEq, encE, andI_fold, m3, c4]
    all_goals
      refine in_ok ?_
      by_cases c1 : 0 ≤ f ∧ f ≤ 3
      · simp (maxSteps := 200000) -implicitDefEqProofs only [KA, KB, KC, KD, KE, KF, eq_self, ne_eq, ↓reduceIte, Nat.reduceLT, Nat.reduceEqDiff, Nat.reduceAdd, Nat.reduceLeDiff, Nat.reduceSub, Nat.reduceMul, reduceCtorEq, c1]
        refine in_ok ?_
        by_cases c2 : 0 ≤ s ∧ s ≤ 199
        · simp (maxSteps := 200000) -implicitDefEqProofs only [KA, KB, KC, KD, KE, KF, eq_self, ne_eq, ↓reduceIte, Nat.reduceLT, Nat.reduceEqDiff, Nat.reduceAdd, Nat.reduceLeDiff, Nat.reduceSub, Nat.reduceMul, reduceCtorEq, c2]
          refine in_ok ?_
          by_cases c3 : 0 ≤ c ∧ c ≤ 15
          · simp (maxSteps := 200000) -implicitDefEqProofs only [KA, KB, KC, KD, KE, KF, eq_self, ne_eq, ↓reduceIte, Nat.reduceLT, Nat.reduceEqDiff, Nat.reduceAdd, Nat.reduceLeDiff, Nat.reduceSub, Nat.reduceMul, reduceCtorEq, c3]
            refine in_ok ?_
            by_cases c4 : 1 ≤ o ∧ o ≤ 15
            · simp (maxSteps := 200000) -implicitDefEqProofs only [KA, KB, KC, KD, KE, KF, eq_self, ne_eq, ↓reduceIte, Nat.reduceLT, Nat.reduceEqDiff, Nat.reduceAdd, Nat.reduceLeDiff, Nat.reduceSub, Nat.reduceMul, reduceCtorEq, c4]
              refine in_ok ?_
              by_cases c5 : 0 ≤ p ∧ p ≤ 15
              · rw [decide_eq_true (show mayC ⟨f, s, c, o, p⟩ from ⟨c1, c2, c3, c4, m3, ns, .inl c5⟩)] at hP
                simp (maxSteps := 200000) -implicitDefEqProofs only [KA, KB, KC, KD, KE, KF, eq_self, ne_eq, ↓reduceIte, Nat.reduceLT, Nat.reduceEqDiff, Nat.reduceAdd, Nat.reduceLeDiff, Nat.reduceSub, Nat.reduceMul, reduceCtorEq, c5]
                exact hP
              · by_cases c6 : p = 64
                · have d6 : decide (p = 64) = true := decide_eq_true c6
                  rw [decide_eq_true (show mayC ⟨f, s, c, o, p⟩ from ⟨c1, c2, c3, c4, m3, ns, .inr c6⟩)] at hP
                  simp (maxSteps := 200000) -implicitDefEqProofs only [KA, KB, KC, KD, KE, KF, eq_self, ne_eq, ↓reduceIte, Nat.reduceLT, Nat.reduceEqDiff, Nat.reduceAdd, Nat.reduceLeDiff, Nat.reduceSub, Nat.reduceMul, reduceCtorEq, c5, d6]
                  exact hP
                · simp (maxSteps := 200000) -implicitDefEqProofs only [KA, KB, KC, KD, KE, KF, eq_self, ne_eq, ↓reduceIte, Nat.reduceLT, Nat.reduceEqDiff, Nat.reduceAdd, Nat.reduceLeDiff, Nat.reduceSub, Nat.reduceMul, reduceCtorEq, c5, c6]
                  exact no fun h => h.2.2.2.2.2.2.elim c5 c6
            · simp (maxSteps := 200000) -implicitDefEqProofs only [KA, KB, KC, KD, KE, KF, eq_self, ne_eq, ↓reduceIte, Nat.reduceLT, Nat.reduceEqDiff, Nat.reduceAdd, Nat.reduceLeDiff, Nat.reduceSub, Nat.reduceMul, reduceCtorEq, c4]
              exact no fun h => c4 h.2.2.2.1
          · simp (maxSteps := 200000) -implicitDefEqProofs only [KA, KB, KC, KD, KE, KF, eq_self, ne_eq, ↓reduceIte, Nat.reduceLT, Nat.reduceEqDiff, Nat.reduceAdd, Nat.reduceLeDiff, Nat.reduceSub, Nat.reduceMul, reduceCtorEq, c3]
            exact no fun h => c3 h.2.2.1
        · simp (maxSteps := 200000) -implicitDefEqProofs only [KA, KB, KC, KD, KE, KF, eq_self, ne_eq, ↓reduceIte, Nat.reduceLT, Nat.reduceEqDiff, Nat.reduceAdd, Nat.reduceLeDiff, Nat.reduceSub, Nat.reduceMul, reduceCtorEq, c2]
          exact no fun h => c2 h.2.1
      · simp (maxSteps := 200000) -implicitDefEqProofs only [KA, KB, KC, KD, KE, KF, eq_self, ne_eq, ↓reduceIte, Nat.reduceLT, Nat.reduceEqDiff, Nat.reduceAdd, Nat.reduceLeDiff, Nat.reduceSub, Nat.reduceMul, reduceCtorEq, c1]
        exact no fun h => c1 h.1
theorem alone_ok {x : Cel} {q : Int} (hP : P (.c (.bool (decide (andI x.o 3 = q)))) h) : callW N (k + 1) 125 [.agg (encE x), .c (.int .i64 q)] h P := by
  refine call_intro rfl (by simp only [List.length_cons, List.length_nil]; omega) ?_
  simp (maxSteps := 200000) -implicitDefEqProofs only [KA, KB, KC, KD, KE, KF, eq_self, ne_eq, ↓reduceIte, Nat.reduceLT, Nat.reduceEqDiff, Nat.reduceAdd, Nat.reduceLeDiff, Nat.reduceSub, Nat.reduceMul, reduceCtorEq, encE, andI_fold]
  exact hP
theorem link_ok {a b : Cel} {x y : Int} (hP : P (.c (.bool (decide (linkP a b x y)))) h) : callW N (k + 2) 123 [.agg (encE a), .agg (encE b), .c (.int .i64 x), .c (.int .i64 y)] h P := by
  have he : ∀ x : Cel, encE x = [.int .i64 x.f, .int .i64 x.s, .int .i64 x.c, .int .i64 x.o, .int .i64 x.p] := fun _ => rfl
  have no : ¬ linkP a b x y → P (.c (.bool false)) h := fun hn => by rw [decide_eq_false hn] at hP; exact hP
  have ways : (endsP a b ∧ decide (andI a.o 3 = 1) = true ∧ decide (andI b.o 3 = 2) = true) ∨ (¬ endsP a b ∧ decide (andI a.o 3 = 1) = true ∧ ¬ andI b.o 3 = 2 ∧ ¬ andI a.o 3 = 2) ∨ (endsP a b ∧ ¬ andI a.o 3 = 1 ∧ decide (andI a.o 3 = 2) = true ∧ decide (andI b.o 3 = 1) = true) ∨
      (¬ endsP a b ∧ ¬ andI a.o 3 = 1 ∧ decide (andI a.o 3 = 2) = true ∧ ¬ andI b.o 3 = 1) ∨ (¬ endsP a b ∧ ¬ andI a.o 3 = 1 ∧ ¬ andI a.o 3 = 2) := by
    unfold endsP
    simp only [decide_eq_true_eq]
    omega
  refine call_intro rfl (by simp only [List.length_cons, List.length_nil]; omega) ?_
  simp (maxSteps := 200000) -implicitDefEqProofs only [KA, KB, KC, KD, KE, KF, eq_self, ne_eq, ↓reduceIte, Nat.reduceLT, Nat.reduceEqDiff, Nat.reduceAdd, Nat.reduceLeDiff, Nat.reduceSub, Nat.reduceMul, reduceCtorEq, he]
  refine alone_ok (x := a) ?_
  rcases ways with ⟨en, w1, w2⟩ | ⟨en, w1, w2, w3⟩ | ⟨en, w1, w2, w3⟩ | ⟨en, w1, w2, w3⟩ | ⟨en, w1, w2⟩
  case' inl =>
    simp (maxSteps := 200000) -implicitDefEqProofs only [KA, KB, KC, KD, KE, KF, eq_self, ne_eq, ↓reduceIte, Nat.reduceLT, Nat.reduceEqDiff, Nat.reduceAdd, Nat.reduceLeDiff, Nat.reduceSub, Nat.reduceMul, reduceCtorEq, w1]
    refine alone_ok (x := b) ?_
    simp (maxSteps := 200000) -implicitDefEqProofs only [KA, KB, KC, KD, KE, KF, eq_self, ne_eq, ↓reduceIte, Nat.reduceLT, Nat.reduceEqDiff, Nat.reduceAdd, Nat.reduceLeDiff, Nat.reduceSub, Nat.reduceMul, reduceCtorEq, w2]
  case' inr.inl =>
    simp (maxSteps := 200000) -implicitDefEqProofs only [KA, KB, KC, KD, KE, KF, eq_self, ne_eq, ↓reduceIte, Nat.reduceLT, Nat.reduceEqDiff, Nat.reduceAdd, Nat.reduceLeDiff, Nat.reduceSub, Nat.reduceMul, reduceCtorEq, w1]
    refine alone_ok (x := b) ?_
    simp (maxSteps := 200000) -implicitDefEqProofs only [KA, KB, KC, KD, KE, KF, eq_self, ne_eq, ↓reduceIte, Nat.reduceLT, Nat.reduceEqDiff, Nat.reduceAdd, Nat.reduceLeDiff, Nat.reduceSub, Nat.reduceMul, reduceCtorEq, w2]
    refine alone_ok (x := a) ?_
    simp (maxSteps := 200000) -implicitDefEqProofs only [KA, KB, KC, KD, KE, KF, eq_self, ne_eq, ↓reduceIte, Nat.reduceLT, Nat.reduceEqDiff, Nat.reduceAdd, Nat.reduceLeDiff, Nat.reduceSub, Nat.reduceMul, reduceCtorEq, w3]
  case' inr.inr.inl =>
    simp (maxSteps := 200000) -implicitDefEqProofs only [KA, KB, KC, KD, KE, KF, eq_self, ne_eq, ↓reduceIte, Nat.reduceLT, Nat.reduceEqDiff, Nat.reduceAdd, Nat.reduceLeDiff, Nat.reduceSub, Nat.reduceMul, reduceCtorEq, w1]
    refine alone_ok (x := a) ?_
    simp (maxSteps := 200000) -implicitDefEqProofs only [KA, KB, KC, KD, KE, KF, eq_self, ne_eq, ↓reduceIte, Nat.reduceLT, Nat.reduceEqDiff, Nat.reduceAdd, Nat.reduceLeDiff, Nat.reduceSub, Nat.reduceMul, reduceCtorEq, w2]
    refine alone_ok (x := b) ?_
    simp (maxSteps := 200000) -implicitDefEqProofs only [KA, KB, KC, KD, KE, KF, eq_self, ne_eq, ↓reduceIte, Nat.reduceLT, Nat.reduceEqDiff, Nat.reduceAdd, Nat.reduceLeDiff, Nat.reduceSub, Nat.reduceMul, reduceCtorEq, w3]
  case' inr.inr.inr.inl =>
    simp (maxSteps := 200000) -implicitDefEqProofs only [KA, KB, KC, KD, KE, KF, eq_self, ne_eq, ↓reduceIte, Nat.reduceLT, Nat.reduceEqDiff, Nat.reduceAdd, Nat.reduceLeDiff, Nat.reduceSub, Nat.reduceMul, reduceCtorEq, w1]
    refine alone_ok (x := a) ?_
    simp (maxSteps := 200000) -implicitDefEqProofs only [KA, KB, KC, KD, KE, KF, eq_self, ne_eq, ↓reduceIte, Nat.reduceLT, Nat.reduceEqDiff, Nat.reduceAdd, Nat.reduceLeDiff, Nat.reduceSub, Nat.reduceMul, reduceCtorEq, w2]
    refine alone_ok (x := b) ?_
    simp (maxSteps := 200000) -implicitDefEqProofs only [KA, KB, KC, KD, KE, KF, eq_self, ne_eq, ↓reduceIte, Nat.reduceLT, Nat.reduceEqDiff, Nat.reduceAdd, Nat.reduceLeDiff, Nat.reduceSub, Nat.reduceMul, reduceCtorEq, w3]
  case' inr.inr.inr.inr =>
    simp (maxSteps := 200000) -implicitDefEqProofs only [KA, KB, KC, KD, KE, KF, eq_self, ne_eq, ↓reduceIte, Nat.reduceLT, Nat.reduceEqDiff, Nat.reduceAdd, Nat.reduceLeDiff, Nat.reduceSub, Nat.reduceMul, reduceCtorEq, w1]
    refine alone_ok (x := a) ?_
    simp (maxSteps := 200000) -implicitDefEqProofs only [KA, KB, KC, KD, KE, KF, eq_self, ne_eq, ↓reduceIte, Nat.reduceLT, Nat.reduceEqDiff, Nat.reduceAdd, Nat.reduceLeDiff, Nat.reduceSub, Nat.reduceMul, reduceCtorEq, w2]
  all_goals
    by_cases p1 : a.p = y
    · have d1 : decide (a.p = y) = true := decide_eq_true p1
      by_cases p2 : b.p = x
      · have d2 : decide (b.p = x) = true := decide_eq_true p2
        by_cases p3 : a.c = b.c
        · have d3 : decide (a.c = b.c) = true := decide_eq_true p3
          simp (maxSteps := 200000) -implicitDefEqProofs only [KA, KB, KC, KD, KE, KF, eq_self, ne_eq, ↓reduceIte, Nat.reduceLT, Nat.reduceEqDiff, Nat.reduceAdd, Nat.reduceLeDiff, Nat.reduceSub, Nat.reduceMul, reduceCtorEq, d1, d2, d3]
          first
            | exact no (fun h => en h.2.2.2)
            | (rw [decide_eq_true (show linkP a b x y from ⟨p1, p2, p3, en⟩)] at hP
               exact hP)
        · simp (maxSteps := 200000) -implicitDefEqProofs only [KA, KB, KC, KD, KE, KF, eq_self, ne_eq, ↓reduceIte, Nat.reduceLT, Nat.reduceEqDiff, Nat.reduceAdd, Nat.reduceLeDiff, Nat.reduceSub, Nat.reduceMul, reduceCtorEq, d1, d2, p3]
          exact no (fun h => p3 h.2.2.1)
      · simp (maxSteps := 200000) -implicitDefEqProofs only [KA, KB, KC, KD, KE, KF, eq_self, ne_eq, ↓reduceIte, Nat.reduceLT, Nat.reduceEqDiff, Nat.reduceAdd, Nat.reduceLeDiff, Nat.reduceSub, Nat.reduceMul, reduceCtorEq, d1, p2]
        exact no (fun h => p2 h.2.1)
    · simp (maxSteps := 200000) -implicitDefEqProofs only [KA, KB, KC, KD, KE, KF, eq_self, ne_eq, ↓reduceIte, Nat.reduceLT, Nat.reduceEqDiff, Nat.reduceAdd, Nat.reduceLeDiff, Nat.reduceSub, Nat.reduceMul, reduceCtorEq, p1]
      exact no (fun h => p1 h.1)
theorem clash_ok {a b : Cel} {x y : Int} (hP : P (.c (.bool (decide (clashP a b x y)))) h) : callW N (k + 3) 118 [.agg (encE a), .agg (encE b), .c (.int .i64 x), .c (.int .i64 y)] h P := by
  have he : ∀ x : Cel, encE x = [.int .i64 x.f, .int .i64 x.s, .int .i64 x.c, .int .i64 x.o, .int .i64 x.p] := fun _ => rfl
  have no : ¬ clashP a b x y → P (.c (.bool false)) h := fun hn => by rw [decide_eq_false hn] at hP; exact hP
  have yes : clashP a b x y → P (.c (.bool true)) h := fun hn => by rw [decide_eq_true hn] at hP; exact hP
  refine call_intro rfl (by simp only [List.length_cons, List.length_nil]; omega) ?_
  simp (maxSteps := 200000) -implicitDefEqProofs only [KA, KB, KC, KD, KE, KF, eq_self, ne_eq, ↓reduceIte, Nat.reduceLT, Nat.reduceEqDiff, Nat.reduceAdd, Nat.reduceLeDiff, Nat.reduceSub, Nat.reduceMul, reduceCtorEq, he]
  refine may_ok (k := k) (x := a) ?_
  by_cases m1 : mayC a
  · simp (maxSteps := 200000) -implicitDefEqProofs only [KA, KB, KC, KD, KE, KF, eq_self, ne_eq, ↓reduceIte, Nat.reduceLT, Nat.reduceEqDiff, Nat.reduceAdd, Nat.reduceLeDiff, Nat.reduceSub, Nat.reduceMul, reduceCtorEq, m1]
    refine may_ok (k := k) (x := b) ?_
    by_cases m2 : mayC b
    · simp (maxSteps := 200000) -implicitDefEqProofs only [KA, KB, KC, KD, KE, KF, eq_self, ne_eq, ↓reduceIte, Nat.reduceLT, Nat.reduceEqDiff, Nat.reduceAdd, Nat.reduceLeDiff, Nat.reduceSub, Nat.reduceMul, reduceCtorEq, m2]
      refine node_ok ?_
      by_cases m3 : nodeP x
      · simp (maxSteps := 200000) -implicitDefEqProofs only [KA, KB, KC, KD, KE, KF, eq_self, ne_eq, ↓reduceIte, Nat.reduceLT, Nat.reduceEqDiff, Nat.reduceAdd, Nat.reduceLeDiff, Nat.reduceSub, Nat.reduceMul, reduceCtorEq, m3]
        refine node_ok ?_
        by_cases m4 : nodeP y
        · have all : mayC a ∧ mayC b ∧ nodeP x ∧ nodeP y := ⟨m1, m2, m3, m4⟩
          by_cases c1 : a.f = b.f
          · have d1 : decide (a.f = b.f) = true := decide_eq_true c1
            by_cases c2 : a.s = b.s
            · have d2 : decide (a.s = b.s) = true := decide_eq_true c2
              by_cases c3 : x = y
              · have d3 : decide (x = y) = true := decide_eq_true c3
                simp (maxSteps := 200000) -implicitDefEqProofs only [KA, KB, KC, KD, KE, KF, eq_self, ne_eq, ↓reduceIte, Nat.reduceLT, Nat.reduceEqDiff, Nat.reduceAdd, Nat.reduceLeDiff, Nat.reduceSub, Nat.reduceMul, reduceCtorEq, m4, d1, d2, d3]
                exact yes (.inr ⟨⟨c1, c2⟩, .inl c3⟩)
              · simp (maxSteps := 200000) -implicitDefEqProofs only [KA, KB, KC, KD, KE, KF, eq_self, ne_eq, ↓reduceIte, Nat.reduceLT, Nat.reduceEqDiff, Nat.reduceAdd, Nat.reduceLeDiff, Nat.reduceSub, Nat.reduceMul, reduceCtorEq, m4, d1, d2, c3]
                refine link_ok (k := k) (a := a) (b := b) ?_
                by_cases c4 : linkP a b x y
                · simp (maxSteps := 200000) -implicitDefEqProofs only [KA, KB, KC, KD, KE, KF, eq_self, ne_eq, ↓reduceIte, Nat.reduceLT, Nat.reduceEqDiff, Nat.reduceAdd, Nat.reduceLeDiff, Nat.reduceSub, Nat.reduceMul, reduceCtorEq, c4]
                  exact no (fun h => h.elim (fun h => h all) (fun h => h.2.elim c3 (fun h => h.1 c4)))
                · by_cases c5 : a.c = b.c
                  · have d5 : decide (a.c = b.c) = true := decide_eq_true c5
                    simp (maxSteps := 200000) -implicitDefEqProofs only [KA, KB, KC, KD, KE, KF, eq_self, ne_eq, ↓reduceIte, Nat.reduceLT, Nat.reduceEqDiff, Nat.reduceAdd, Nat.reduceLeDiff, Nat.reduceSub, Nat.reduceMul, reduceCtorEq, c4, d5]
                    exact yes (.inr ⟨⟨c1, c2⟩, .inr ⟨c4, .inl c5⟩⟩)
                  · by_cases c6 : x = b.p
                    · have d6 : decide (x = b.p) = true := decide_eq_true c6
                      simp (maxSteps := 200000) -implicitDefEqProofs only [KA, KB, KC, KD, KE, KF, eq_self, ne_eq, ↓reduceIte, Nat.reduceLT, Nat.reduceEqDiff, Nat.reduceAdd, Nat.reduceLeDiff, Nat.reduceSub, Nat.reduceMul, reduceCtorEq, c4, c5, d6]
                      exact yes (.inr ⟨⟨c1, c2⟩, .inr ⟨c4, .inr (.inl c6)⟩⟩)
                    · by_cases c7 : y = a.p
                      · have d7 : decide (y = a.p) = true := decide_eq_true c7
                        simp (maxSteps := 200000) -implicitDefEqProofs only [KA, KB, KC, KD, KE, KF, eq_self, ne_eq, ↓reduceIte, Nat.reduceLT, Nat.reduceEqDiff, Nat.reduceAdd, Nat.reduceLeDiff, Nat.reduceSub, Nat.reduceMul, reduceCtorEq, c4, c5, c6, d7]
                        exact yes (.inr ⟨⟨c1, c2⟩, .inr ⟨c4, .inr (.inr (.inl c7))⟩⟩)
                      · by_cases c8 : a.p = b.p
                        · have d8 : decide (a.p = b.p) = true := decide_eq_true c8
                          by_cases c9 : a.p = 64
                          · have d9 : decide (a.p = 64) = true := decide_eq_true c9
                            simp (maxSteps := 200000) -implicitDefEqProofs only [KA, KB, KC, KD, KE, KF, eq_self, ne_eq, ↓reduceIte, Nat.reduceLT, Nat.reduceEqDiff, Nat.reduceAdd, Nat.reduceLeDiff, Nat.reduceSub, Nat.reduceMul, reduceCtorEq, c4, c5, c6, c7, d8, d9]
                            exact no (fun h => h.elim (fun h => h all) (fun h => h.2.elim c3 (fun h => h.2.elim c5 (fun h => h.elim c6 (fun h => h.elim c7 (fun h => h.2 c9))))))
                          · simp (maxSteps := 200000) -implicitDefEqProofs only [KA, KB, KC, KD, KE, KF, eq_self, ne_eq, ↓reduceIte, Nat.reduceLT, Nat.reduceEqDiff, Nat.reduceAdd, Nat.reduceLeDiff, Nat.reduceSub, Nat.reduceMul, reduceCtorEq, c4, c5, c6, c7, d8, c9]
                            exact yes (.inr ⟨⟨c1, c2⟩, .inr ⟨c4, .inr (.inr (.inr ⟨c8, c9⟩))⟩⟩)
                        · simp (maxSteps := 200000) -implicitDefEqProofs only [KA, KB, KC, KD, KE, KF, eq_self, ne_eq, ↓reduceIte, Nat.reduceLT, Nat.reduceEqDiff, Nat.reduceAdd, Nat.reduceLeDiff, Nat.reduceSub, Nat.reduceMul, reduceCtorEq, c4, c5, c6, c7, c8]
                          exact no (fun h => h.elim (fun h => h all) (fun h => h.2.elim c3 (fun h => h.2.elim c5 (fun h => h.elim c6 (fun h => h.elim c7 (fun h => c8 h.1))))))
            · simp (maxSteps := 200000) -implicitDefEqProofs only [KA, KB, KC, KD, KE, KF, eq_self, ne_eq, ↓reduceIte, Nat.reduceLT, Nat.reduceEqDiff, Nat.reduceAdd, Nat.reduceLeDiff, Nat.reduceSub, Nat.reduceMul, reduceCtorEq, m4, d1, c2]
              exact no (fun h => h.elim (fun h => h all) (fun h => c2 h.1.2))
          · simp (maxSteps := 200000) -implicitDefEqProofs only [KA, KB, KC, KD, KE, KF, eq_self, ne_eq, ↓reduceIte, Nat.reduceLT, Nat.reduceEqDiff, Nat.reduceAdd, Nat.reduceLeDiff, Nat.reduceSub, Nat.reduceMul, reduceCtorEq, m4, c1]
            exact no (fun h => h.elim (fun h => h all) (fun h => c1 h.1.1))
        · simp (maxSteps := 200000) -implicitDefEqProofs only [KA, KB, KC, KD, KE, KF, eq_self, ne_eq, ↓reduceIte, Nat.reduceLT, Nat.reduceEqDiff, Nat.reduceAdd, Nat.reduceLeDiff, Nat.reduceSub, Nat.reduceMul, reduceCtorEq, m4]
          exact yes (.inl fun h => m4 h.2.2.2)
      · simp (maxSteps := 200000) -implicitDefEqProofs only [KA, KB, KC, KD, KE, KF, eq_self, ne_eq, ↓reduceIte, Nat.reduceLT, Nat.reduceEqDiff, Nat.reduceAdd, Nat.reduceLeDiff, Nat.reduceSub, Nat.reduceMul, reduceCtorEq, m3]
        exact yes (.inl fun h => m3 h.2.2.1)
    · simp (maxSteps := 200000) -implicitDefEqProofs only [KA, KB, KC, KD, KE, KF, eq_self, ne_eq, ↓reduceIte, Nat.reduceLT, Nat.reduceEqDiff, Nat.reduceAdd, Nat.reduceLeDiff, Nat.reduceSub, Nat.reduceMul, reduceCtorEq, m2]
      exact yes (.inl fun h => m2 h.2.1)
  · simp (maxSteps := 200000) -implicitDefEqProofs only [KA, KB, KC, KD, KE, KF, eq_self, ne_eq, ↓reduceIte, Nat.reduceLT, Nat.reduceEqDiff, Nat.reduceAdd, Nat.reduceLeDiff, Nat.reduceSub, Nat.reduceMul, reduceCtorEq, m1]
    exact yes (.inl fun h => m1 h.1)
end
end Camp

/-! CvVerB -/
namespace Camp
open Go
set_option linter.unusedVariables false
set_option linter.unusedSimpArgs false
set_option maxHeartbeats 4000000
/-- A cell of a node. -/
structure Hd where
  n : Int
  c : Cel
def encH (x : Hd) : List CV := .int .i64 x.n :: encE x.c
def hitP (L : List Hd) (n : Int) (c : Cel) : Prop := ∃ y ∈ L, clashP y.c c y.n n
open Classical in
noncomputable instance (L : List Hd) (n : Int) (c : Cel) : Decidable (hitP L n c) := propDecidable _
def goodH (x : Hd) : Prop := nodeP x.n ∧ mayC x.c ∧ andI x.c.o 4 = 0
def cleanP (L : List Hd) : Prop := (∀ x ∈ L, goodH x) ∧ L.Pairwise fun a b => ¬ clashP a.c b.c a.n b.n
theorem cleanP_perm {L M : List Hd} (h : L.Perm M) : cleanP L ↔ cleanP M := by
  unfold cleanP
  have h1 : (∀ x ∈ L, goodH x) ↔ ∀ x ∈ M, goodH x := ⟨fun k x hx => k x (h.mem_iff.mpr hx), fun k x hx => k x (h.mem_iff.mp hx)⟩
  have h2 : L.Pairwise (fun a b => ¬ clashP a.c b.c a.n b.n) ↔ M.Pairwise fun a b => ¬ clashP a.c b.c a.n b.n :=
    h.pairwise_iff (fun {a b} k k' => k (clash_symm1 k'))
  rw [h1, h2]
theorem cleanP_left {L M : List Hd} (h : cleanP (L ++ M)) : cleanP L := ⟨fun x hx => h.1 x (by simp [hx]), (List.pairwise_append.mp h.2).1⟩
theorem cleanP_snoc {L : List Hd} {x : Hd} : cleanP (L ++ [x]) ↔ cleanP L ∧ goodH x ∧ ¬ hitP L x.n x.c := by
  unfold cleanP hitP
  rw [List.pairwise_append]
  constructor
  · rintro ⟨h1, h2, h3, h4⟩
    exact ⟨⟨fun y hy => h1 y (by simp [hy]), h2⟩, h1 x (by simp), fun ⟨y, hy, hc⟩ => h4 y hy x (by simp) hc⟩
  · rintro ⟨⟨h1, h2⟩, h3, h4⟩
    refine ⟨fun y hy => ?_, h2, List.pairwise_singleton _ _, fun a ha b hb => ?_⟩
    · rcases List.mem_append.mp hy with hy | hy
      · exact h1 y hy
      · simp at hy; subst hy; exact h3
    · simp at hb; subst hb
      exact fun hc => h4 ⟨a, ha, hc⟩
section
variable {k : Nat} {h : Hp} {P : AV → Hp → Prop}
theorem closure_ok {y : Hd} {c : Cel} {n : Int} {b1 b2 : Nat} (h1 : h.g b1 = some (.rows true 5 0 0 [encE c])) (h2 : h.g b2 = some (.rows true 1 0 0 [[.int .i64 n]])) (hP : P (.c (.bool (decide (clashP y.c c y.n n)))) h) :
    callW N (k + 4) 127 [.agg (encH y), .c (.ptr b1 0 0 0), .c (.ptr b2 0 0 0)] h P := by
  have he : ∀ x : Cel, encE x = [.int .i64 x.f, .int .i64 x.s, .int .i64 x.c, .int .i64 x.o, .int .i64 x.p] := fun _ => rfl
  have hh : encH y = [.int .i64 y.n, .int .i64 y.c.f, .int .i64 y.c.s, .int .i64 y.c.c, .int .i64 y.c.o, .int .i64 y.c.p] := rfl
  rw [he] at h1
  refine call_intro rfl (by simp only [List.length_cons, List.length_nil]; omega) ?_
  simp (maxSteps := 200000) -implicitDefEqProofs only [KA, KB, KC, KD, KE, KF, eq_self, ne_eq, ↓reduceIte, Nat.reduceLT, Nat.reduceEqDiff, Nat.reduceAdd, Nat.reduceLeDiff, Nat.reduceSub, Nat.reduceMul, reduceCtorEq, hh, h1, h2]
  refine clash_ok (k := k) (a := y.c) (b := c) ?_
  simp (maxSteps := 200000) -implicitDefEqProofs only [KA, KB, KC, KD, KE, KF, eq_self, ne_eq, ↓reduceIte, Nat.reduceLT, Nat.reduceEqDiff, Nat.reduceAdd, Nat.reduceLeDiff, Nat.reduceSub, Nat.reduceMul, reduceCtorEq]
  exact hP
theorem clashes_ok {v : CV} {L : List Hd} {n : Int} {c : Cel} (hl : SL h 6 v (L.map encH)) (hn : L.length ≤ 1000000000) (hP : ∀ h', Fn h h' → P (.c (.bool (decide (hitP L n c)))) h') :
    callW N (k + 7) 126 [.c v, .c (.int .i64 n), .agg (encE c)] h P := by
  have he : encE c = [.int .i64 c.f, .int .i64 c.s, .int .i64 c.c, .int .i64 c.o, .int .i64 c.p] := rfl
  obtain ⟨h2, hh2⟩ : ∃ h2, h2 = (h.push (.rows true 1 0 0 [[.int .i64 n]])).push (.rows true 5 0 0 [[.int .i64 c.f, .int .i64 c.s, .int .i64 c.c, .int .i64 c.o, .int .i64 c.p]]) := ⟨_, rfl⟩
  have hb1 : h2.g h.n = some (.rows true 1 0 0 [[.int .i64 n]]) := by rw [hh2, g_push_ne _ _ (by rw [n_push]; omega), g_push_eq]
  have hb2 : h2.g (h.n + 1) = some (.rows true 5 0 0 [encE c]) := by rw [hh2, ← n_push h (.rows true 1 0 0 [[.int .i64 n]]), g_push_eq]; rfl
  have hf2 : Fn h h2 := by rw [hh2]; exact (Fm.push _ _ _).trans (Fm.push _ _ _)
  have hfold := hh2.symm
  refine call_intro rfl (by simp only [List.length_cons, List.length_nil]; omega) ?_
  simp (maxSteps := 200000) -implicitDefEqProofs only [KA, KB, KC, KD, KE, KF, eq_self, ne_eq, ↓reduceIte, Nat.reduceLT, Nat.reduceEqDiff, Nat.reduceAdd, Nat.reduceLeDiff, Nat.reduceSub, Nat.reduceMul, reduceCtorEq, he, hfold]
  refine call_intro (nt := 9) rfl (by simp only [List.length_cons, List.length_nil]; omega) ?_
  simp (maxSteps := 200000) -implicitDefEqProofs only [KA, KB, KC, KD, KE, KF, eq_self, ne_eq, ↓reduceIte, Nat.reduceLT, Nat.reduceEqDiff, Nat.reduceAdd, Nat.reduceLeDiff, Nat.reduceSub, Nat.reduceMul, reduceCtorEq]
  refine indexF_ok (k := k + 4) (f := 129) (sz := 6) (enc := encH) (p := fun y => decide (clashP y.c c y.n n)) rfl (fun x => rfl)
    (fun x h' Q hf hq => closure_ok (k := k) (hf.some hb2 (fun e => e)) (hf.some hb1 (fun e => e)) (hq _ (Fm.refl _ _))) (hl.new hf2) hn (fun h3 hf3 hno => ?_) fun h3 i y hf3 hy hpy hno => ?_
  · have z : ¬ ((0 : Int) ≤ -1) := by omega
    have hnh : ¬ hitP L n c := fun ⟨y, hy, hc⟩ => by have := hno y hy; simp [hc] at this
    have := hP h3 (hf2.trans hf3)
    rw [decide_eq_false hnh] at this
    simp (maxSteps := 200000) -implicitDefEqProofs only [KA, KB, KC, KD, KE, KF, eq_self, ne_eq, ↓reduceIte, Nat.reduceLT, Nat.reduceEqDiff, Nat.reduceAdd, Nat.reduceLeDiff, Nat.reduceSub, Nat.reduceMul, reduceCtorEq, z]
    exact this
  · have z : (0 : Int) ≤ (i : Int) := by omega
    have hh : hitP L n c := ⟨y, List.mem_of_getElem? hy, by simpa using hpy⟩
    have := hP h3 (hf2.trans hf3)
    rw [decide_eq_true hh] at this
    simp (maxSteps := 200000) -implicitDefEqProofs only [KA, KB, KC, KD, KE, KF, eq_self, ne_eq, ↓reduceIte, Nat.reduceLT, Nat.reduceEqDiff, Nat.reduceAdd, Nat.reduceLeDiff, Nat.reduceSub, Nat.reduceMul, reduceCtorEq, z]
    exact this
end
end Camp

/-! CvVerC -/
namespace Camp
open Go
set_option linter.unusedVariables false
set_option linter.unusedSimpArgs false
set_option maxHeartbeats 4000000
theorem born_mem {es : List ME} (hnd : (es.map (·.born)).Nodup) {a b : ME} (ha : a ∈ es) (hb : b ∈ es) (h : a.born = b.born) : a = b := by
  induction es with
  | nil => cases ha
  | cons y es ih =>
    rw [List.map_cons, List.nodup_cons] at hnd
    rcases List.mem_cons.mp ha with h1 | h1
    · rcases List.mem_cons.mp hb with h2 | h2
      · rw [h1, h2]
      · exact absurd (by rw [← h1, h]; exact List.mem_map_of_mem h2) hnd.1
    · rcases List.mem_cons.mp hb with h2 | h2
      · exact absurd (by rw [← h2, ← h]; exact List.mem_map_of_mem h1) hnd.1
      · exact ih hnd.2 h1 h2
theorem sub_perm {es : List ME} : ∀ {V : List ME}, (V.map (·.born)).Nodup → (∀ e ∈ V, e ∈ es) → ∃ R, es.Perm (V ++ R)
  | [], _, _ => ⟨es, List.Perm.refl _⟩
  | v :: V, hn, hs => by
    rw [List.map_cons, List.nodup_cons] at hn
    obtain ⟨R, hR⟩ := sub_perm hn.2 (fun e he => hs e (by simp [he]))
    have hv := hR.mem_iff.mp (hs v (by simp))
    rcases List.mem_append.mp hv with hv | hv
    · exact absurd (List.mem_map_of_mem hv) hn.1
    · obtain ⟨A, B, rfl⟩ := List.append_of_mem hv
      refine ⟨A ++ B, hR.trans ?_⟩
      have : (V ++ (A ++ v :: B)).Perm (v :: (V ++ (A ++ B))) := by
        rw [← List.append_assoc, ← List.append_assoc]
        exact List.perm_middle
      exact this
section
variable {k : Nat} {h : Hp} {P : AV → Hp → Prop} {F : ME → Int × List Cel}
def flatE (F : ME → Int × List Cel) (e : ME) : List Hd := (F e).2.map fun c => ⟨(F e).1, c⟩
def flatM (F : ME → Int × List Cel) (es : List ME) : List Hd := es.flatMap (flatE F)
theorem flat_snoc (V : List ME) (e : ME) : flatM F (V ++ [e]) = flatM F V ++ flatE F e := by simp [flatM]
theorem clean_sub {es V : List ME} (hn : (V.map (·.born)).Nodup) (hs : ∀ e ∈ V, e ∈ es) (h : cleanP (flatM F es)) : cleanP (flatM F V) := by
  obtain ⟨R, hR⟩ := sub_perm hn hs
  have hp : (flatM F es).Perm (flatM F V ++ flatM F R) := by
    have := hR.flatMap_right (flatE F)
    rw [List.flatMap_append] at this
    exact this
  exact cleanP_left ((cleanP_perm hp).mp h)
theorem clean_all {es V : List ME} (hnes : (es.map (·.born)).Nodup) (hn : (V.map (·.born)).Nodup) (hs : ∀ e ∈ V, e ∈ es) (ha : ∀ e ∈ es, e.born ∈ V.map (·.born)) : cleanP (flatM F es) ↔ cleanP (flatM F V) := by
  obtain ⟨R, hR⟩ := sub_perm hn hs
  have hRn : R = [] := by
    cases R with
    | nil => rfl
    | cons r R =>
      have hr : r ∈ es := hR.mem_iff.mpr (by simp)
      have h1 := ha r hr
      have h2 := (hR.map (·.born)).nodup_iff.mp hnes
      rw [List.map_append, List.nodup_append] at h2
      exact absurd rfl (h2.2.2 r.born h1 r.born (by simp))
  subst hRn
  rw [List.append_nil] at hR
  exact cleanP_perm (hR.flatMap_right (flatE F))
open Classical in
noncomputable instance (L : List Hd) : Decidable (cleanP L) := propDecidable _
open Classical in
noncomputable instance (x : Hd) : Decidable (goodH x) := propDecidable _
def ClnI (F : ME → Int × List Cel) (h : Hp) (m clock : Nat) (es : List ME) (n : Nat) (st : St) : Prop :=
  ∃ (V : List ME) (w : CV) (h' : Hp) (l : List (Nat × TV)) (lc : List (List CV)), st = ST 48 l lc h' ∧ (∀ e ∈ V, e ∈ es) ∧ (V.map (·.born)).Nodup ∧ n = es.length - V.length ∧ Ow h' 6 w ((flatM F V).map encH) ∧ cleanP (flatM F V) ∧
    h'.g h.n = some (.miter (some m) clock (V.map (·.born)) clock) ∧ Fn h h' ∧ (∀ j, ownId w j → h.n + 1 ≤ j) ∧ h.n + 1 ≤ h'.n ∧ lk l 3 = .v (.c w) ∧ lk l 9 = .v (.c (.it h.n))
def ClnJ (F : ME → Int × List Cel) (h : Hp) (m clock : Nat) (V : List ME) (e : ME) (v : CV) (n : Nat) (st : St) : Prop :=
  ∃ (j : Nat) (w : CV) (h' : Hp) (l : List (Nat × TV)) (lc : List (List CV)), st = ST 48 l lc h' ∧ j ≤ (F e).2.length ∧ n = (F e).2.length - j ∧ Ow h' 6 w ((flatM F V ++ (flatE F e).take j).map encH) ∧ cleanP (flatM F V ++ (flatE F e).take j) ∧
    h'.g h.n = some (.miter (some m) clock (V.map (·.born) ++ [e.born]) clock) ∧ Fn h h' ∧ (∀ j, ownId w j → h.n + 1 ≤ j) ∧ h.n + 1 ≤ h'.n ∧ lk l 3 = .v (.c w) ∧ lk l 4 = .v (.c (.int .i64 (F e).1)) ∧ lk l 9 = .v (.c (.it h.n)) ∧ lk l 15 = .v (.c v) ∧ lk l 16 = .v (.c (.int .i64 (F e).2.length)) ∧ lk l 17 = .v (.c (.int .i64 j))
theorem clean_ok {m clock : Nat} {wr : Bool} {es : List ME} (hm : h.g m = some (.map wr es clock)) (hb : ∀ e ∈ es, e.born < clock) (hnd : (es.map (·.born)).Nodup)
    (hF : ∀ e ∈ es, e.key = .c (.int .i64 (F e).1) ∧ ∃ v, e.val = .c v ∧ SL h 5 v ((F e).2.map encE)) (hsz : (flatM F es).length ≤ 1000000000)
    (hP : ∀ h', Fn h h' → P (.c (.bool (decide (cleanP (flatM F es))))) h') : callW N (k + 8) 120 [.c (.map m)] h P := by
  have hmn := lt_of_g hm
  have hrg := rgn_map hm
  refine call_intro rfl (by simp only [List.length_cons, List.length_nil]; omega) ?_
  simp (maxSteps := 200000) -implicitDefEqProofs only [KA, KB, KC, KD, KE, KF, eq_self, ne_eq, ↓reduceIte, Nat.reduceLT, Nat.reduceEqDiff, Nat.reduceAdd, Nat.reduceLeDiff, Nat.reduceSub, Nat.reduceMul, reduceCtorEq, hrg]
  refine loop_rd (callW_mono N _) (ClnI F h m clock es) (n := es.length) ⟨[], .nils, _, _, _, rfl, by simp, by simp, by simp, rfl, ⟨by simp [flatM], by simp [flatM]⟩, by rw [g_push_eq]; rfl, Fm.push _ _ _, fun _ e => e.elim, by rw [n_push]; exact Nat.le_refl _, rfl, rfl⟩ ?_
  rintro n st ⟨V, w, h2, l, lc, rfl, hV, hVn, hn, how, hcl, hit, hf2, hid, hn2, e3, e9⟩
  have hm2 := hf2.some hm (fun e => e)
  simp (maxSteps := 200000) -implicitDefEqProofs only [KA, KB, KC, KD, KE, KF, eq_self, ne_eq, ↓reduceIte, Nat.reduceLT, Nat.reduceEqDiff, Nat.reduceAdd, Nat.reduceLeDiff, Nat.reduceSub, Nat.reduceMul, reduceCtorEq, e3, e9]
  refine nx_map (id := h.n) (m := m) (clock := clock) (seen := V.map (·.born)) (by simp only [evN_t, lk_cons, lk_nil]; rfl) hit hm2 hb (fun e he hnb => ?_) fun hall => ?_
  · obtain ⟨hk, v, hv, hsl⟩ := hF e he
    have heV : ∀ x ∈ V ++ [e], x ∈ es := by
      intro x hx
      rcases List.mem_append.mp hx with hx | hx
      · exact hV x hx
      · simp at hx; subst hx; exact he
    have hVe : ((V ++ [e]).map (·.born)).Nodup := by
      rw [List.map_append, List.nodup_append]
      refine ⟨hVn, by simp, ?_⟩
      intro a ha b hb2
      simp at hb2
      subst hb2
      rintro rfl
      exact hnb ha
    obtain ⟨h3, hh3⟩ : ∃ h3, h3 = h2.put h.n (.miter (some m) clock (V.map (·.born) ++ [e.born]) clock) := ⟨_, rfl⟩
    have hf3 : Fm (fun j => j = h.n) h2 h3 := by rw [hh3]; exact Fm.put _ _ rfl
    have hit3 : h3.g h.n = some (.miter (some m) clock (V.map (·.born) ++ [e.born]) clock) := by rw [hh3, g_put_eq, hit]; rfl
    have hm3 := hf3.some hm2 (fun e => by omega)
    have hen := entry_at hit3 hm3 he hnd
    rw [hk, hv] at hen
    have hf03 : Fn h h3 := ⟨Nat.le_trans hf2.n hf3.n, fun j hj hS => by rw [hf3.g j (by have := hf2.n; omega) (by omega)]; exact hf2.g j hj hS⟩
    have hlen : ∀ h' : Hp, lenT h' .sl (.v (.c v)) = some ((F e).2.length : Int) := fun h' => by rw [hsl.len h', List.length_map]
    have hfold3 := hh3.symm
    have hsub := clean_sub (F := F) hVe heV
    have hlenV : (V ++ [e]).length ≤ es.length := by
      obtain ⟨R, hR⟩ := sub_perm hVe heV
      have := hR.length_eq
      rw [List.length_append] at this
      omega
    have hszV : (flatM F (V ++ [e])).length ≤ 1000000000 := by
      obtain ⟨R, hR⟩ := sub_perm hVe heV
      have hp := (hR.flatMap_right (flatE F)).length_eq
      rw [List.flatMap_append, List.length_append] at hp
      unfold flatM at hsz ⊢
      omega
    simp (maxSteps := 200000) -implicitDefEqProofs only [KA, KB, KC, KD, KE, KF, eq_self, ne_eq, ↓reduceIte, Nat.reduceLT, Nat.reduceEqDiff, Nat.reduceAdd, Nat.reduceLeDiff, Nat.reduceSub, Nat.reduceMul, reduceCtorEq, hfold3, hen, hlen]
    refine loop_rd (callW_mono N _) (ClnJ F h m clock V e v) (n := (F e).2.length) ⟨0, w, h3, _, _, rfl, by omega, by omega, by rw [List.take_zero, List.append_nil]; exact how.mono hf3 (fun j hj e => by have := hid j hj; omega), by rw [List.take_zero, List.append_nil]; exact hcl, hit3, hf03, hid, by have := hf3.n; omega, rfl, rfl, rfl, rfl, rfl, rfl⟩ ?_
    clear e3 e9
    rintro n2 st ⟨j, u, h4, l, lc, rfl, hj, hn4, hou, hcl4, hit4, hf4, hid4, hnn4, e3, e4, e9, e15, e16, e17⟩
    by_cases hlt : (j : Int) < (F e).2.length
    · have hjl : j < (F e).2.length := by omega
      obtain ⟨c, hc⟩ : ∃ c, (F e).2[j]? = some c := ⟨_, List.getElem?_eq_getElem hjl⟩
      have hrow : ((F e).2.map encE)[(j : Int).toNat]? = some (encE c) := by simp [hc]
      obtain ⟨p1, p2, p3, a1, a2⟩ := (hsl.new hf4).at (by omega) hrow
      rw [show encE c = [.int .i64 c.f, .int .i64 c.s, .int .i64 c.c, .int .i64 c.o, .int .i64 c.p] from rfl] at a2
      have hw := wrap_i64 (n := (j : Int) + 1) (by
        have : (F e).2.length ≤ (flatM F (V ++ [e])).length := by rw [flat_snoc, List.length_append]; unfold flatE; rw [List.length_map]; omega
        omega)
      have htk : (flatE F e).take (j + 1) = (flatE F e).take j ++ [⟨(F e).1, c⟩] := take_snoc (by unfold flatE; rw [List.getElem?_map, hc]; rfl)
      have hlenF : (flatM F V ++ (flatE F e).take j).length ≤ 1000000000 := by
        rw [flat_snoc, List.length_append] at hszV
        rw [List.length_append, List.length_take]
        omega
      have bad : ¬ (goodH ⟨(F e).1, c⟩ ∧ ¬ hitP (flatM F V ++ (flatE F e).take j) (F e).1 c) → ∀ h', Fn h h' → P (.c (.bool false)) h' := by
        intro hbad h' hf'
        have hnc : ¬ cleanP (flatM F es) := by
          intro hes
          have h1 := hsub hes
          rw [flat_snoc, ← List.take_append_drop (j + 1) (flatE F e), ← List.append_assoc] at h1
          have h2 := cleanP_left h1
          rw [htk, ← List.append_assoc] at h2
          exact hbad (cleanP_snoc.mp h2).2
        have := hP h' hf'
        rw [decide_eq_false hnc] at this
        exact this
      simp (maxSteps := 200000) -implicitDefEqProofs only [KA, KB, KC, KD, KE, KF, eq_self, ne_eq, ↓reduceIte, Nat.reduceLT, Nat.reduceEqDiff, Nat.reduceAdd, Nat.reduceLeDiff, Nat.reduceSub, Nat.reduceMul, reduceCtorEq, e3, e4, e9, e15, e16, e17, hlt, a1, a2]
      refine node_ok ?_
      by_cases g1 : nodeP (F e).1
      · simp (maxSteps := 200000) -implicitDefEqProofs only [KA, KB, KC, KD, KE, KF, eq_self, ne_eq, ↓reduceIte, Nat.reduceLT, Nat.reduceEqDiff, Nat.reduceAdd, Nat.reduceLeDiff, Nat.reduceSub, Nat.reduceMul, reduceCtorEq, g1]
        refine may_ok (k := k + 5) (x := c) ?_
        by_cases g2 : mayC c
        · by_cases g3 : andI c.o 4 = 0
          · have d3 : decide (andI c.o 4 = 0) = true := decide_eq_true g3
            simp (maxSteps := 200000) -implicitDefEqProofs only [KA, KB, KC, KD, KE, KF, eq_self, ne_eq, ↓reduceIte, Nat.reduceLT, Nat.reduceEqDiff, Nat.reduceAdd, Nat.reduceLeDiff, Nat.reduceSub, Nat.reduceMul, reduceCtorEq, g2, andI_fold, d3]
            refine clashes_ok (k := k) (c := c) hou.sl hlenF fun h5 hf5 => ?_
            by_cases g4 : hitP (flatM F V ++ (flatE F e).take j) (F e).1 c
            · simp (maxSteps := 200000) -implicitDefEqProofs only [KA, KB, KC, KD, KE, KF, eq_self, ne_eq, ↓reduceIte, Nat.reduceLT, Nat.reduceEqDiff, Nat.reduceAdd, Nat.reduceLeDiff, Nat.reduceSub, Nat.reduceMul, reduceCtorEq, g4]
              exact bad (fun h => h.2 g4) _ (hf4.trans hf5)
            · obtain ⟨u', h6, f1, f2, f3, f4⟩ := (hou.new hf5).app (lc := [[.int .i64 c.f, .int .i64 c.s, .int .i64 c.c, .int .i64 c.o, .int .i64 c.p], [.int .i64 (F e).1, .int .i64 c.f, .int .i64 c.s, .int .i64 c.c, .int .i64 c.o, .int .i64 c.p]]) (x := .lsl 1 1) (xs := [[.int .i64 (F e).1, .int .i64 c.f, .int .i64 c.s, .int .i64 c.c, .int .i64 c.o, .int .i64 c.p]]) rfl (by simp) (bytes := 48) (by rw [List.length_map]; simp only [room, List.length_singleton]; omega)
              simp (maxSteps := 200000) -implicitDefEqProofs only [KA, KB, KC, KD, KE, KF, eq_self, ne_eq, ↓reduceIte, Nat.reduceLT, Nat.reduceEqDiff, Nat.reduceAdd, Nat.reduceLeDiff, Nat.reduceSub, Nat.reduceMul, reduceCtorEq, g4, f1, hw, rd_n]
              refine ⟨n2 - 1, by omega, j + 1, u', h6, _, _, rfl, by omega, by omega, ?_, ?_, f3.some (hf5.some hit4 (fun e => e)) (fun e => by have := hid4 _ e; omega), (hf4.trans hf5).comp f3 (fun i hi e => by have := hid4 _ e; omega), (fun i hi => (f4 i hi).elim (hid4 i) (fun e => by have := hf5.n; omega)), (by have := hf5.n; have := f3.n; omega), rfl, rfl, rfl, rfl, rfl, rfl⟩
              · rw [htk, ← List.append_assoc, List.map_append]
                exact f2
              · rw [htk, ← List.append_assoc]
                exact cleanP_snoc.mpr ⟨hcl4, ⟨g1, g2, g3⟩, g4⟩
          · simp (maxSteps := 200000) -implicitDefEqProofs only [KA, KB, KC, KD, KE, KF, eq_self, ne_eq, ↓reduceIte, Nat.reduceLT, Nat.reduceEqDiff, Nat.reduceAdd, Nat.reduceLeDiff, Nat.reduceSub, Nat.reduceMul, reduceCtorEq, g2, andI_fold, g3]
            exact bad (fun h => g3 h.1.2.2) _ hf4
        · simp (maxSteps := 200000) -implicitDefEqProofs only [KA, KB, KC, KD, KE, KF, eq_self, ne_eq, ↓reduceIte, Nat.reduceLT, Nat.reduceEqDiff, Nat.reduceAdd, Nat.reduceLeDiff, Nat.reduceSub, Nat.reduceMul, reduceCtorEq, g2]
          exact bad (fun h => g2 h.1.2.1) _ hf4
      · simp (maxSteps := 200000) -implicitDefEqProofs only [KA, KB, KC, KD, KE, KF, eq_self, ne_eq, ↓reduceIte, Nat.reduceLT, Nat.reduceEqDiff, Nat.reduceAdd, Nat.reduceLeDiff, Nat.reduceSub, Nat.reduceMul, reduceCtorEq, g1]
        exact bad (fun h => g1 h.1.1) _ hf4
    · simp (maxSteps := 200000) -implicitDefEqProofs only [KA, KB, KC, KD, KE, KF, eq_self, ne_eq, ↓reduceIte, Nat.reduceLT, Nat.reduceEqDiff, Nat.reduceAdd, Nat.reduceLeDiff, Nat.reduceSub, Nat.reduceMul, reduceCtorEq, e3, e4, e9, e15, e16, e17, hlt, rd_n]
      have htl : (flatE F e).take j = flatE F e := List.take_of_length_le (by unfold flatE; rw [List.length_map]; omega)
      rw [htl, ← flat_snoc] at hou hcl4
      refine ⟨n - 1, ?_, V ++ [e], u, h4, _, _, rfl, heV, hVe, ?_, hou, hcl4, by rw [List.map_append]; exact hit4, hf4, hid4, hnn4, rfl, rfl⟩
      · rw [List.length_append, List.length_singleton] at hlenV; omega
      · rw [List.length_append, List.length_singleton] at hlenV ⊢; omega
  · simp (maxSteps := 200000) -implicitDefEqProofs only [KA, KB, KC, KD, KE, KF, eq_self, ne_eq, ↓reduceIte, Nat.reduceLT, Nat.reduceEqDiff, Nat.reduceAdd, Nat.reduceLeDiff, Nat.reduceSub, Nat.reduceMul, reduceCtorEq]
    have := hP h2 hf2
    rw [decide_eq_true ((clean_all hnd hVn hV hall).mpr hcl)] at this
    exact this
end
end Camp

/-! CvVerD -/
namespace Camp
open Go
set_option linter.unusedVariables false
set_option linter.unusedSimpArgs false
set_option maxHeartbeats 4000000
theorem b_mn1 (id : Nat) : binC .eql .map (.map id) .nilm = some (.bool false) := rfl
theorem b_mn2 (id : Nat) : binC .neq .map (.map id) .nilm = some (.bool true) := rfl
theorem b_mn3 : binC .eql .map .nilm .nilm = some (.bool true) := rfl
theorem b_mn4 : binC .neq .map .nilm .nilm = some (.bool false) := rfl
def Bk (h : Hp) (b : Nat) (n v l : Int) (c x r : CV) : Prop := h.g b = some (.rows true 6 0 0 [[.int .i64 n, .int .i64 v, .int .i64 l, c, x, r]])
/-- Who is ready, as a map. -/
def flM (F : Nat → Bool) : AV → Option AV
  | .c (.int .i64 i) => if 0 ≤ i ∧ F i.toNat = true then some (.c (.int .i64 1)) else none
  | _ => none
def left (F : Nat → Bool) (n : Nat) : Nat := ((List.range n).filter fun i => !F i).length
theorem left_succ (F : Nat → Bool) (n : Nat) : left F (n + 1) = left F n + (if F n then 0 else 1) := by
  unfold left
  rw [List.range_succ, List.filter_append, List.length_append]
  cases h : F n <;> simp [h]
theorem left_le (F : Nat → Bool) (n : Nat) : left F n ≤ n := by
  unfold left
  have := List.length_filter_le (fun i => !F i) (List.range n)
  rw [List.length_range] at this
  exact this
section
variable {k : Nat} {h : Hp} {P : AV → Hp → Prop}
theorem bnew_ok {n : Int} (hn : 1 ≤ n ∧ n ≤ 16) (hP : ∀ h', h' = h.push (.rows true 6 0 0 [[.int .i64 n, .int .i64 0, .int .i64 0, .nilm, .nilm, .nilm]]) → P (.c (.ptr h.n 0 0 0)) h') : callW N (k + 1) 131 [.c (.int .i64 n)] h P := by
  have z : max 1 (min n 16) = n := by omega
  refine call_intro rfl (by simp only [List.length_cons, List.length_nil]; omega) ?_
  simp (maxSteps := 200000) -implicitDefEqProofs only [KA, KB, KC, KD, KE, KF, eq_self, ne_eq, ↓reduceIte, Nat.reduceLT, Nat.reduceEqDiff, Nat.reduceAdd, Nat.reduceLeDiff, Nat.reduceSub, Nat.reduceMul, reduceCtorEq, z]
  exact hP _ rfl
theorem bhas_ok {b : Nat} {n v l i : Int} {c x r : CV} (hb : Bk h b n v l c x r) (hP : P (.c (.bool (decide (0 ≤ i ∧ i < n)))) h) : callW N (k + 1) 145 [.c (.ptr b 0 0 0), .c (.int .i64 i)] h P := by
  unfold Bk at hb
  refine call_intro rfl (by simp only [List.length_cons, List.length_nil]; omega) ?_
  by_cases c1 : 0 ≤ i
  · by_cases c2 : i < n
    · simp (maxSteps := 200000) -implicitDefEqProofs only [KA, KB, KC, KD, KE, KF, eq_self, ne_eq, ↓reduceIte, Nat.reduceLT, Nat.reduceEqDiff, Nat.reduceAdd, Nat.reduceLeDiff, Nat.reduceSub, Nat.reduceMul, reduceCtorEq, hb, c1, c2]
      simpa [c1, c2] using hP
    · simp (maxSteps := 200000) -implicitDefEqProofs only [KA, KB, KC, KD, KE, KF, eq_self, ne_eq, ↓reduceIte, Nat.reduceLT, Nat.reduceEqDiff, Nat.reduceAdd, Nat.reduceLeDiff, Nat.reduceSub, Nat.reduceMul, reduceCtorEq, hb, c1, c2]
      simpa [c1, c2] using hP
  · simp (maxSteps := 200000) -implicitDefEqProofs only [KA, KB, KC, KD, KE, KF, eq_self, ne_eq, ↓reduceIte, Nat.reduceLT, Nat.reduceEqDiff, Nat.reduceAdd, Nat.reduceLeDiff, Nat.reduceSub, Nat.reduceMul, reduceCtorEq, hb, c1]
    simpa [c1] using hP
theorem ready_state {b : Nat} {n v l i w : Int} {c r : CV} {x : Nat} (hb : Bk h b n v l c (.map x) r) (hw : ¬ w = l) (hP : P (.c (.int .i64 7)) h) : callW N (k + 2) 134 [.c (.ptr b 0 0 0), .c (.int .i64 i), .c (.int .i64 w)] h P := by
  unfold Bk at hb
  refine call_intro rfl (by simp only [List.length_cons, List.length_nil]; omega) ?_
  simp (maxSteps := 200000) -implicitDefEqProofs only [KA, KB, KC, KD, KE, KF, eq_self, ne_eq, ↓reduceIte, Nat.reduceLT, Nat.reduceEqDiff, Nat.reduceAdd, Nat.reduceLeDiff, Nat.reduceSub, Nat.reduceMul, reduceCtorEq, hb, b_mn1, hw]
  exact hP
theorem ready_old {b : Nat} {n v l : Int} {i : Nat} {c : CV} {x r clock : Nat} {es : List ME} {F : Nat → Bool} (hb : Bk h b n v l c (.map x) (.map r)) (hm : h.g r = some (.map true es clock)) (hM : IsMap (.int .i64) es (flM F)) (hi : (i : Int) < n) (hF : F i = true)
    (hP : P (.c (.int .i64 8)) h) : callW N (k + 2) 134 [.c (.ptr b 0 0 0), .c (.int .i64 i), .c (.int .i64 l)] h P := by
  have hb' := hb
  unfold Bk at hb'
  have hl := look_ok (k := .c (.int .i64 i)) hm hM rfl
  have hv : flM F (.c (.int .i64 i)) = some (.c (.int .i64 1)) := by
    have h0 : (0 : Int) ≤ (i : Int) := by omega
    show (if 0 ≤ (i : Int) ∧ F (i : Int).toNat = true then some (AV.c (.int .i64 1)) else none) = _
    rw [Int.toNat_natCast, if_pos ⟨h0, hF⟩]
  rw [hv] at hl
  have d : decide (0 ≤ (i : Int) ∧ (i : Int) < n) = true := decide_eq_true ⟨by omega, hi⟩
  have z : (0 : Int) < 1 := by omega
  have dl : decide (l = l) = true := by simp
  refine call_intro rfl (by simp only [List.length_cons, List.length_nil]; omega) ?_
  simp (maxSteps := 200000) -implicitDefEqProofs only [KA, KB, KC, KD, KE, KF, eq_self, ne_eq, ↓reduceIte, Nat.reduceLT, Nat.reduceEqDiff, Nat.reduceAdd, Nat.reduceLeDiff, Nat.reduceSub, Nat.reduceMul, reduceCtorEq, hb', b_mn1]
  refine bhas_ok (k := k) hb ?_
  rw [d]
  simp (maxSteps := 200000) -implicitDefEqProofs only [KA, KB, KC, KD, KE, KF, eq_self, ne_eq, ↓reduceIte, Nat.reduceLT, Nat.reduceEqDiff, Nat.reduceAdd, Nat.reduceLeDiff, Nat.reduceSub, Nat.reduceMul, reduceCtorEq, hb', hl, z, Option.getD_some]
  exact hP
theorem ready_new {b : Nat} {n v l : Int} {i : Nat} {c : CV} {x r clock : Nat} {es : List ME} {F F' : Nat → Bool} (hb : Bk h b n v l c (.map x) (.map r)) (hm : h.g r = some (.map true es clock)) (hM : IsMap (.int .i64) es (flM F)) (hi : (i : Int) < n) (hF : F i = false)
    (hF' : F' i = true) (hne : ∀ j, j ≠ i → F' j = F j)
    (hP : ∀ es' clock', IsMap (.int .i64) es' (flM F') → P (.c (.int .i64 0)) (h.put r (.map true es' clock'))) : callW N (k + 2) 134 [.c (.ptr b 0 0 0), .c (.int .i64 i), .c (.int .i64 l)] h P := by
  have hb' := hb
  unfold Bk at hb'
  have hl := look_ok (k := .c (.int .i64 i)) hm hM rfl
  have h0 : (0 : Int) ≤ (i : Int) := by omega
  have hv : flM F (.c (.int .i64 i)) = none := by
    show (if 0 ≤ (i : Int) ∧ F (i : Int).toNat = true then some (AV.c (.int .i64 1)) else none) = _
    rw [Int.toNat_natCast, hF, if_neg (by simp)]
  rw [hv] at hl
  have d : decide (0 ≤ (i : Int) ∧ (i : Int) < n) = true := decide_eq_true ⟨by omega, hi⟩
  have z : ¬ ((0 : Int) < 0) := by omega
  obtain ⟨es', clock', u1, u2⟩ := mupd_ok (M' := flM F') (x := .c (.int .i64 1)) (k := .c (.int .i64 i)) hm hM rfl (by
    show (if 0 ≤ (i : Int) ∧ F' (i : Int).toNat = true then some (AV.c (.int .i64 1)) else none) = _
    rw [Int.toNat_natCast, hF', if_pos ⟨h0, rfl⟩]) (by
    intro k' hk'
    cases k' with
    | c y => cases y with
      | int kk j =>
        cases kk <;> try rfl
        show (if 0 ≤ j ∧ F' j.toNat = true then some (AV.c (.int .i64 1)) else none) = (if 0 ≤ j ∧ F j.toNat = true then some (AV.c (.int .i64 1)) else none)
        by_cases hj : 0 ≤ j
        · rw [hne j.toNat (by intro e; apply hk'; rw [← e, Int.toNat_of_nonneg hj])]
        · rw [if_neg (fun h => hj h.1), if_neg (fun h => hj h.1)]
      | _ => rfl
    | _ => rfl)
  refine call_intro rfl (by simp only [List.length_cons, List.length_nil]; omega) ?_
  simp (maxSteps := 200000) -implicitDefEqProofs only [KA, KB, KC, KD, KE, KF, eq_self, ne_eq, ↓reduceIte, Nat.reduceLT, Nat.reduceEqDiff, Nat.reduceAdd, Nat.reduceLeDiff, Nat.reduceSub, Nat.reduceMul, reduceCtorEq, hb', b_mn1]
  refine bhas_ok (k := k) hb ?_
  rw [d]
  simp (maxSteps := 200000) -implicitDefEqProofs only [KA, KB, KC, KD, KE, KF, eq_self, ne_eq, ↓reduceIte, Nat.reduceLT, Nat.reduceEqDiff, Nat.reduceAdd, Nat.reduceLeDiff, Nat.reduceSub, Nat.reduceMul, reduceCtorEq, hb', hl, z, u1, Option.getD_none]
  exact hP _ _ u2
def cntI (F : Nat → Bool) (h : Hp) (b : Nat) (n : Nat) (m : Nat) (st : St) : Prop :=
  ∃ (j : Nat) (w : CV) (xs : List Int) (h' : Hp) (l : List (Nat × TV)) (lc : List (List CV)), st = ST 34 l lc h' ∧ j ≤ n ∧ m = n - j ∧ Ow h' 1 w (xs.map encI) ∧ xs.length = left F j ∧ Fn h h' ∧ (∀ i, ownId w i → h.n ≤ i) ∧
    lk l 0 = .v (.c (.ptr b 0 0 0)) ∧ lk l 3 = .v (.c w) ∧ lk l 17 = .v (.c (.int .i64 n)) ∧ lk l 18 = .v (.c (.int .i64 j))
theorem waits_none {b : Nat} {n v l : Int} {c r : CV} (hb : Bk h b n v l c .nilm r) (hP : P (.c .nils) h) : callW N (k + 1) 133 [.c (.ptr b 0 0 0)] h P := by
  unfold Bk at hb
  refine call_intro rfl (by simp only [List.length_cons, List.length_nil]; omega) ?_
  simp (maxSteps := 200000) -implicitDefEqProofs only [KA, KB, KC, KD, KE, KF, eq_self, ne_eq, ↓reduceIte, Nat.reduceLT, Nat.reduceEqDiff, Nat.reduceAdd, Nat.reduceLeDiff, Nat.reduceSub, Nat.reduceMul, reduceCtorEq, hb, b_mn3]
  exact hP
theorem waits_ok {b : Nat} {n : Nat} {v l : Int} {c : CV} {x r clock : Nat} {es : List ME} {F : Nat → Bool} (hn : n ≤ 16) (hb : Bk h b n v l c (.map x) (.map r)) (hm : h.g r = some (.map true es clock)) (hM : IsMap (.int .i64) es (flM F))
    (hP : ∀ h' w, (∀ h', lenT h' .sl (.v (.c w)) = some (left F n : Int)) → Fn h h' → P (.c w) h') : callW N (k + 1) 133 [.c (.ptr b 0 0 0)] h P := by
  have hb' := hb
  unfold Bk at hb'
  refine call_intro rfl (by simp only [List.length_cons, List.length_nil]; omega) ?_
  simp (maxSteps := 200000) -implicitDefEqProofs only [KA, KB, KC, KD, KE, KF, eq_self, ne_eq, ↓reduceIte, Nat.reduceLT, Nat.reduceEqDiff, Nat.reduceAdd, Nat.reduceLeDiff, Nat.reduceSub, Nat.reduceMul, reduceCtorEq, hb', b_mn1]
  refine loop_rd (callW_mono N _) (cntI F h b n) (n := n) ⟨0, .nils, [], h, _, _, rfl, Nat.zero_le _, rfl, rfl, rfl, Fm.refl _ _, fun _ e => e.elim, rfl, rfl, rfl, rfl⟩ ?_
  rintro m st ⟨j, w, xs, h2, lt, lc, rfl, hj, hmn, how, hlen, hf, hid, e0, e3, e17, e18⟩
  have hb2 := hf.some hb' (fun e => e)
  have hm2 := hf.some hm (fun e => e)
  have hln : ∀ h' : Hp, lenT h' .sl (.v (.c w)) = some (left F j : Int) := fun h' => by rw [how.sl.len h', List.length_map, hlen]
  by_cases hlt : (j : Int) < n
  · have hl := look_ok (k := .c (.int .i64 j)) hm2 hM rfl
    have hw := wrap_i64 (n := (j : Int) + 1) (by omega)
    have h0 : (0 : Int) ≤ (j : Int) := by omega
    have hs := left_succ F j
    have hle := left_le F j
    cases hF : F j with
    | true =>
      rw [hF, if_pos rfl] at hs
      have hv : flM F (.c (.int .i64 j)) = some (.c (.int .i64 1)) := by
        show (if 0 ≤ (j : Int) ∧ F (j : Int).toNat = true then some (AV.c (.int .i64 1)) else none) = _
        rw [Int.toNat_natCast, if_pos ⟨h0, hF⟩]
      rw [hv] at hl
      have z : ¬ ((1 : Int) = 0) := by omega
      simp (maxSteps := 200000) -implicitDefEqProofs only [KA, KB, KC, KD, KE, KF, eq_self, ne_eq, ↓reduceIte, Nat.reduceLT, Nat.reduceEqDiff, Nat.reduceAdd, Nat.reduceLeDiff, Nat.reduceSub, Nat.reduceMul, reduceCtorEq, e0, e3, e17, e18, hlt, hb2, hl, Option.getD_some, z, hw, rd_n]
      exact ⟨m - 1, by omega, j + 1, w, xs, h2, _, _, rfl, by omega, by omega, how, by omega, hf, hid, rfl, rfl, rfl, rfl⟩
    | false =>
      rw [hF, if_neg (by simp)] at hs
      have hv : flM F (.c (.int .i64 j)) = none := by
        show (if 0 ≤ (j : Int) ∧ F (j : Int).toNat = true then some (AV.c (.int .i64 1)) else none) = _
        rw [Int.toNat_natCast, hF, if_neg (by simp)]
      rw [hv] at hl
      have z : decide ((0 : Int) = 0) = true := rfl
      obtain ⟨w', h3, f1, f2, f3, f4⟩ := how.app (lc := [[.int .i64 j]]) (x := .lsl 0 1) (xs := [[.int .i64 j]]) rfl (by simp) (bytes := 8) (by rw [List.length_map, hlen]; simp only [room, List.length_singleton]; omega)
      simp (maxSteps := 200000) -implicitDefEqProofs only [KA, KB, KC, KD, KE, KF, eq_self, ne_eq, ↓reduceIte, Nat.reduceLT, Nat.reduceEqDiff, Nat.reduceAdd, Nat.reduceLeDiff, Nat.reduceSub, Nat.reduceMul, reduceCtorEq, e0, e3, e17, e18, hlt, hb2, hl, Option.getD_none, z, f1, hw, rd_n]
      refine ⟨m - 1, by omega, j + 1, w', xs ++ [(j : Int)], h3, _, _, rfl, by omega, by omega, by rw [List.map_append]; exact f2, by rw [List.length_append, List.length_singleton]; omega, hf.comp f3 (fun i hi e => by have := hid _ e; omega), fun i hi => (f4 i hi).elim (hid i) (fun e => by have := hf.n; omega), rfl, rfl, rfl, rfl⟩
  · have hjn : j = n := by omega
    subst hjn
    simp (maxSteps := 200000) -implicitDefEqProofs only [KA, KB, KC, KD, KE, KF, eq_self, ne_eq, ↓reduceIte, Nat.reduceLT, Nat.reduceEqDiff, Nat.reduceAdd, Nat.reduceLeDiff, Nat.reduceSub, Nat.reduceMul, reduceCtorEq, e0, e3, e17, e18, hlt, rd_e]
    exact hP _ _ hln hf
theorem commit_state {b : Nat} {n v l : Int} {c r : CV} (hb : Bk h b n v l c .nilm r) (hP : P (.c (.int .i64 7)) h) : callW N (k + 2) 138 [.c (.ptr b 0 0 0)] h P := by
  unfold Bk at hb
  refine call_intro rfl (by simp only [List.length_cons, List.length_nil]; omega) ?_
  simp (maxSteps := 200000) -implicitDefEqProofs only [KA, KB, KC, KD, KE, KF, eq_self, ne_eq, ↓reduceIte, Nat.reduceLT, Nat.reduceEqDiff, Nat.reduceAdd, Nat.reduceLeDiff, Nat.reduceSub, Nat.reduceMul, reduceCtorEq, hb, b_mn3]
  exact hP
theorem commit_ok {b : Nat} {n : Nat} {v l : Int} {c : CV} {x r clock : Nat} {es : List ME} {F : Nat → Bool} (hn : n ≤ 16) (hb : Bk h b n v l c (.map x) (.map r)) (hm : h.g r = some (.map true es clock)) (hM : IsMap (.int .i64) es (flM F))
    (h1 : left F n = 0 → ∀ h', Bk h' b n l l (.map x) .nilm (.map r) → Fm (fun j => j = b) h h' → P (.c (.int .i64 0)) h')
    (h0 : ¬ left F n = 0 → ∀ h', Fn h h' → P (.c (.int .i64 7)) h') : callW N (k + 2) 138 [.c (.ptr b 0 0 0)] h P := by
  have hb' := hb
  unfold Bk at hb'
  refine call_intro rfl (by simp only [List.length_cons, List.length_nil]; omega) ?_
  simp (maxSteps := 200000) -implicitDefEqProofs only [KA, KB, KC, KD, KE, KF, eq_self, ne_eq, ↓reduceIte, Nat.reduceLT, Nat.reduceEqDiff, Nat.reduceAdd, Nat.reduceLeDiff, Nat.reduceSub, Nat.reduceMul, reduceCtorEq, hb', b_mn1]
  refine waits_ok (k := k) hn hb hm hM fun h2 w hw hf => ?_
  have hb2 := hf.some hb' (fun e => e)
  by_cases hz : left F n = 0
  · have z : ¬ ((0 : Int) < (left F n : Int)) := by omega
    simp (maxSteps := 200000) -implicitDefEqProofs only [KA, KB, KC, KD, KE, KF, eq_self, ne_eq, ↓reduceIte, Nat.reduceLT, Nat.reduceEqDiff, Nat.reduceAdd, Nat.reduceLeDiff, Nat.reduceSub, Nat.reduceMul, reduceCtorEq, hw, z, hb2]
    refine h1 hz _ ?_ ?_
    · unfold Bk
      first | rw [g_put_eq] | skip
      simp (maxSteps := 200000) -implicitDefEqProofs only [KA, KB, KC, KD, KE, KF, eq_self, ne_eq, ↓reduceIte, Nat.reduceLT, Nat.reduceEqDiff, Nat.reduceAdd, Nat.reduceLeDiff, Nat.reduceSub, Nat.reduceMul, reduceCtorEq, hb2]
    · exact (hf.mono (fun _ _ h => h.elim)).trans (((Fm.put (S := fun j => j = b) _ _ rfl).trans (Fm.put _ _ rfl)).trans (Fm.put _ _ rfl))
  · have z : ((0 : Int) < (left F n : Int)) := by omega
    simp (maxSteps := 200000) -implicitDefEqProofs only [KA, KB, KC, KD, KE, KF, eq_self, ne_eq, ↓reduceIte, Nat.reduceLT, Nat.reduceEqDiff, Nat.reduceAdd, Nat.reduceLeDiff, Nat.reduceSub, Nat.reduceMul, reduceCtorEq, hw, z]
    exact h0 hz _ hf
theorem abort_ok {b : Nat} {n v l : Int} {c r : CV} {x : Nat} (hb : Bk h b n v l c (.map x) r) (hP : ∀ h', Bk h' b n v l c .nilm r → Fm (fun j => j = b) h h' → P (.c (.int .i64 0)) h') : callW N (k + 1) 135 [.c (.ptr b 0 0 0)] h P := by
  unfold Bk at hb
  refine call_intro rfl (by simp only [List.length_cons, List.length_nil]; omega) ?_
  simp (maxSteps := 200000) -implicitDefEqProofs only [KA, KB, KC, KD, KE, KF, eq_self, ne_eq, ↓reduceIte, Nat.reduceLT, Nat.reduceEqDiff, Nat.reduceAdd, Nat.reduceLeDiff, Nat.reduceSub, Nat.reduceMul, reduceCtorEq, hb, b_mn1]
  refine hP _ ?_ (Fm.put _ _ rfl)
  unfold Bk
  rw [g_put_eq, hb]
  rfl
theorem version_ok {b : Nat} {n v l : Int} {c x r : CV} (hb : Bk h b n v l c x r) (hP : P (.c (.int .i64 v)) h) : callW N (k + 1) 136 [.c (.ptr b 0 0 0)] h P := by
  unfold Bk at hb
  refine call_intro rfl (by simp only [List.length_cons, List.length_nil]; omega) ?_
  simp (maxSteps := 200000) -implicitDefEqProofs only [KA, KB, KC, KD, KE, KF, eq_self, ne_eq, ↓reduceIte, Nat.reduceLT, Nat.reduceEqDiff, Nat.reduceAdd, Nat.reduceLeDiff, Nat.reduceSub, Nat.reduceMul, reduceCtorEq, hb]
  exact hP
end
end Camp

/-! CvVerE -/
namespace Camp
open Go
set_option linter.unusedVariables false
set_option linter.unusedSimpArgs false
set_option maxHeartbeats 4000000
section
variable {k : Nat} {h : Hp} {P : AV → Hp → Prop}
theorem clean_nil (hP : ∀ h', Fn h h' → P (.c (.bool true)) h') : callW N (k + 1) 120 [.c .nilm] h P := by
  refine call_intro rfl (by simp only [List.length_cons, List.length_nil]; omega) ?_
  obtain ⟨h2, hh2⟩ : ∃ h2, h2 = h.push (.miter none 0 [] 0) := ⟨_, rfl⟩
  have hi : h2.g h.n = some (.miter none 0 [] 0) := by rw [hh2, g_push_eq]
  have hf : Fn h h2 := by rw [hh2]; exact Fm.push _ _ _
  have hfold := hh2.symm
  simp (maxSteps := 200000) -implicitDefEqProofs only [KA, KB, KC, KD, KE, KF, eq_self, ne_eq, ↓reduceIte, Nat.reduceLT, Nat.reduceEqDiff, Nat.reduceAdd, Nat.reduceLeDiff, Nat.reduceSub, Nat.reduceMul, reduceCtorEq, rgn_nilm, hfold]
  refine loop_rd (callW_mono N _) (fun m s => ∃ (l : List (Nat × TV)) (lc : List (List CV)), s = ST 48 l lc h2 ∧ lk l 3 = .v (.c .nils) ∧ lk l 9 = .v (.c (.it h.n))) (n := 0) ⟨_, _, rfl, rfl, rfl⟩ ?_
  rintro m st ⟨l, lc, rfl, e3, e9⟩
  simp (maxSteps := 200000) -implicitDefEqProofs only [KA, KB, KC, KD, KE, KF, eq_self, ne_eq, ↓reduceIte, Nat.reduceLT, Nat.reduceEqDiff, Nat.reduceAdd, Nat.reduceLeDiff, Nat.reduceSub, Nat.reduceMul, reduceCtorEq, e3, e9]
  refine nx_nilm (id := h.n) (by simp only [evN_t, lk_cons, lk_nil]; rfl) hi ?_
  simp (maxSteps := 200000) -implicitDefEqProofs only [KA, KB, KC, KD, KE, KF, eq_self, ne_eq, ↓reduceIte, Nat.reduceLT, Nat.reduceEqDiff, Nat.reduceAdd, Nat.reduceLeDiff, Nat.reduceSub, Nat.reduceMul, reduceCtorEq, rd_e]
  exact hP _ hf
theorem begin_state {b : Nat} {n v l : Int} {c r m : CV} {x : Nat} (hb : Bk h b n v l c (.map x) r) (hP : P (.tup [.c (.int .i64 0), .c (.int .i64 7)]) h) : callW N (k + 1) 132 [.c (.ptr b 0 0 0), .c m] h P := by
  unfold Bk at hb
  refine call_intro rfl (by simp only [List.length_cons, List.length_nil]; omega) ?_
  simp (maxSteps := 200000) -implicitDefEqProofs only [KA, KB, KC, KD, KE, KF, eq_self, ne_eq, ↓reduceIte, Nat.reduceLT, Nat.reduceEqDiff, Nat.reduceAdd, Nat.reduceLeDiff, Nat.reduceSub, Nat.reduceMul, reduceCtorEq, hb, b_mn2]
  exact hP
theorem begin_nil {b : Nat} {n v l : Int} {c r : CV} (hb : Bk h b n v l c .nilm r) (hl : 0 ≤ l ∧ l < 1000000)
    (hP : ∀ h' x y, Bk h' b n v (l + 1) c (.map x) (.map y) → h'.g y = some (.map true [] 0) → Fm (fun j => j = b) h h' → h.n ≤ x → h.n ≤ y → P (.tup [.c (.int .i64 (l + 1)), .c (.int .i64 0)]) h') : callW N (k + 2) 132 [.c (.ptr b 0 0 0), .c .nilm] h P := by
  have hb' := hb
  unfold Bk at hb'
  have hlt := lt_of_g hb'
  have hw := wrap_i64 (n := l + 1) (by omega)
  have hz : ¬ (1000000 ≤ l) := by omega
  refine call_intro rfl (by simp only [List.length_cons, List.length_nil]; omega) ?_
  obtain ⟨h1, hh1⟩ : ∃ h1, h1 = h.push (.map true [] 0) := ⟨_, rfl⟩
  have n1 : h1.n = h.n + 1 := by rw [hh1, n_push]
  obtain ⟨h2, hh2⟩ : ∃ h2, h2 = h1.push (.miter none 0 [] 0) := ⟨_, rfl⟩
  have hi : h2.g (h.n + 1) = some (.miter none 0 [] 0) := by rw [hh2, ← n1, g_push_eq]
  have hf : Fn h h2 := by rw [hh2, hh1]; exact (Fm.push _ _ _).trans (Fm.push _ _ _)
  have e1 := hh1.symm
  have e2 := hh2.symm
  simp (maxSteps := 200000) -implicitDefEqProofs only [KA, KB, KC, KD, KE, KF, eq_self, ne_eq, ↓reduceIte, Nat.reduceLT, Nat.reduceEqDiff, Nat.reduceAdd, Nat.reduceLeDiff, Nat.reduceSub, Nat.reduceMul, reduceCtorEq, hb', b_mn4, e1, rgn_nilm, e2, n1]
  refine loop_rd (callW_mono N _) (fun m s => ∃ (l : List (Nat × TV)) (lc : List (List CV)), s = ST 66 l lc h2 ∧ lk l 0 = .v (.c (.ptr b 0 0 0)) ∧ lk l 1 = .v (.c .nilm) ∧ lk l 6 = .v (.c (.map h.n)) ∧ lk l 18 = .v (.c (.it (h.n + 1)))) (n := 0) ⟨_, _, rfl, rfl, rfl, rfl, rfl⟩ ?_
  rintro m st ⟨lt, lc, rfl, q0, q1, q6, q18⟩
  simp (maxSteps := 200000) -implicitDefEqProofs only [KA, KB, KC, KD, KE, KF, eq_self, ne_eq, ↓reduceIte, Nat.reduceLT, Nat.reduceEqDiff, Nat.reduceAdd, Nat.reduceLeDiff, Nat.reduceSub, Nat.reduceMul, reduceCtorEq, q0, q1, q6, q18]
  refine nx_nilm (id := h.n + 1) (by simp only [evN_t, lk_cons, lk_nil]; rfl) hi ?_
  simp (maxSteps := 200000) -implicitDefEqProofs only [KA, KB, KC, KD, KE, KF, eq_self, ne_eq, ↓reduceIte, Nat.reduceLT, Nat.reduceEqDiff, Nat.reduceAdd, Nat.reduceLeDiff, Nat.reduceSub, Nat.reduceMul, reduceCtorEq, rd_e]
  refine clean_nil (k := k) fun h3 hf3 => ?_
  have hb3 := (hf.trans hf3).some hb' (fun e => e)
  have hf03 := hf.trans hf3
  have hn3 := hf03.n
  simp (maxSteps := 200000) -implicitDefEqProofs only [KA, KB, KC, KD, KE, KF, eq_self, ne_eq, ↓reduceIte, Nat.reduceLT, Nat.reduceEqDiff, Nat.reduceAdd, Nat.reduceLeDiff, Nat.reduceSub, Nat.reduceMul, reduceCtorEq, hb3, hz, hw]
  obtain ⟨h4, hh4⟩ : ∃ h4, h4 = h3.put b (.rows true 6 0 0 [[.int .i64 n, .int .i64 v, .int .i64 (l + 1), c, .nilm, r]]) := ⟨_, rfl⟩
  have hb4 : h4.g b = some (.rows true 6 0 0 [[.int .i64 n, .int .i64 v, .int .i64 (l + 1), c, .nilm, r]]) := by rw [hh4, g_put_eq, hb3]; rfl
  have e4 := hh4.symm
  have hf4 : Fm (fun j => j = b) h h4 := (hf03.mono (fun _ _ h => h.elim)).trans (by rw [hh4]; exact Fm.put _ _ rfl)
  have hn4 : h4.n = h3.n := by rw [hh4, n_put]
  obtain ⟨h5, hh5⟩ : ∃ h5, h5 = h4.push (.map true [] 0) := ⟨_, rfl⟩
  have hb5 : h5.g b = some (.rows true 6 0 0 [[.int .i64 n, .int .i64 v, .int .i64 (l + 1), c, .nilm, r]]) := by rw [hh5, g_push_ne _ _ (by omega)]; exact hb4
  have hm5 : h5.g h4.n = some (.map true [] 0) := by rw [hh5, g_push_eq]
  have e5 := hh5.symm
  have hf5 : Fm (fun j => j = b) h h5 := hf4.trans (by rw [hh5]; exact Fm.push _ _ _)
  simp (maxSteps := 200000) -implicitDefEqProofs only [KA, KB, KC, KD, KE, KF, eq_self, ne_eq, ↓reduceIte, Nat.reduceLT, Nat.reduceEqDiff, Nat.reduceAdd, Nat.reduceLeDiff, Nat.reduceSub, Nat.reduceMul, reduceCtorEq, e4, hb4, hn4, e5, hb5]
  refine hP _ h.n h4.n ?_ ?_ ?_ (Nat.le_refl _) (by omega)
  · unfold Bk
    simp (maxSteps := 200000) -implicitDefEqProofs only [KA, KB, KC, KD, KE, KF, eq_self, ne_eq, ↓reduceIte, Nat.reduceLT, Nat.reduceEqDiff, Nat.reduceAdd, Nat.reduceLeDiff, Nat.reduceSub, Nat.reduceMul, reduceCtorEq, hb5, hn4]
  · rw [g_put_ne _ _ (by omega), g_put_ne _ _ (by omega)]
    exact hm5
  · exact hf5.trans ((Fm.put (S := fun j => j = b) _ _ rfl).trans (Fm.put _ _ rfl))
end
end Camp
