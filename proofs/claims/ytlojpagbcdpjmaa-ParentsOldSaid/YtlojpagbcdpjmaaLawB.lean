/- Parents: the law of the old ones. -/
import Derived.Test.YtlojpagbcdpjmaaLaw

set_option linter.unnecessarySimpa false
set_option linter.unusedVariables false
set_option linter.unusedSimpArgs false
set_option linter.unusedSectionVars false
/-! CvPar7 -/
namespace Camp
open Go
set_option linter.unusedVariables false
set_option linter.unusedSimpArgs false
set_option maxHeartbeats 4000000
section
variable {k : Nat} {h : Hp} {P : AV → Hp → Prop} {s : Nat} {me rank : Int} {v : CV} {L : List Pr}
theorem hears1 (x : Int) (hx : 0 ≤ x) : hearS 9 200 [] 1 5 x = (6, [⟨5, 1, x⟩], true) := by
  have hm : mayP 9 1 5 x := ⟨by omega, by omega, by omega, by omega⟩
  unfold hearS
  rw [if_pos hm]
  rfl
theorem hears2 (x y : Int) (hy : 0 ≤ y) : hearS 9 6 [⟨5, 1, x⟩] 2 5 y = (6, [⟨5, 1, x⟩, ⟨5, 2, y⟩], true) := by
  have hm : mayP 9 2 5 y := ⟨by omega, by omega, by omega, by omega⟩
  unfold hearS
  rw [if_pos hm]
  rfl
theorem parentsOld_ok {a b loss0 now0 : Int} (hP : ∀ h', P (.c (.bool true)) h') : callW N (k + 9) 69 [.c (.int .i64 a), .c (.int .i64 b), .c (.int .i64 loss0), .c (.int .i64 now0)] h P := by
  obtain ⟨now, hn, hn1, hn2⟩ : ∃ x', (IntKind.wrap .u64 now0).tmod 1000 = x' ∧ 0 ≤ x' ∧ x' < 1000 := ⟨_, rfl, u64_tmod _ _ (by omega)⟩
  obtain ⟨ls, hl, hl1, hl2⟩ : ∃ x', (IntKind.wrap .u64 loss0).tmod 50 = x' ∧ 0 ≤ x' ∧ x' < 50 := ⟨_, rfl, u64_tmod _ _ (by omega)⟩
  obtain ⟨x, hx, hx1, hx2⟩ : ∃ x', (IntKind.wrap .u64 a).tmod 100 = x' ∧ 0 ≤ x' ∧ x' < 100 := ⟨_, rfl, u64_tmod _ _ (by omega)⟩
  obtain ⟨y, hy, hy1, hy2⟩ : ∃ x', (IntKind.wrap .u64 b).tmod 100 = x' ∧ 0 ≤ x' ∧ x' < 100 := ⟨_, rfl, u64_tmod _ _ (by omega)⟩
  have w1 := wrap_i64 (n := now) (by omega)
  have w2 := wrap_i64 (n := ls) (by omega)
  have w3 := wrap_i64 (n := x) (by omega)
  have w4 := wrap_i64 (n := y) (by omega)
  have w5 := wrap_i64 (n := 1 + ls) (by omega)
  have z1 : ¬ ((1000 : Int) = 0) := by decide
  have z2 : ¬ ((50 : Int) = 0) := by decide
  have z3 : ¬ ((100 : Int) = 0) := by decide
  refine call_intro rfl (by simp only [List.length_cons, List.length_nil]; omega) ?_
  simp (maxSteps := 200000) -implicitDefEqProofs only [KA, KB, KC, KD, KE, KF, eq_self, ne_eq, ↓reduceIte, Nat.reduceLT, Nat.reduceEqDiff, Nat.reduceAdd, Nat.reduceLeDiff, Nat.reduceSub, Nat.reduceMul, reduceCtorEq, hn, hl, hx, hy, w1, w2, w3, w4, w5, z1, z2, z3]
  refine pnew_ok (k := k + 6) (fun _ _ h1 s hs1 f1 n1 => ?_) (fun hm => absurd ⟨⟨by omega, by omega⟩, by omega, by omega⟩ hm)
  simp (maxSteps := 200000) -implicitDefEqProofs only [KA, KB, KC, KD, KE, KF, eq_self, ne_eq, ↓reduceIte, Nat.reduceLT, Nat.reduceEqDiff, Nat.reduceAdd, Nat.reduceLeDiff, Nat.reduceSub, Nat.reduceMul, reduceCtorEq]
  refine hear_ok (k := k + 1) hs1 (Iv.nil _ _) (by omega) fun h2 v2 hs2 f2 i2 => ?_
  have v1 := (Iv.nil 9 200).hear (by omega) 1 5 x
  rw [hears1 x hx1] at hs2 v1 ⊢
  simp only at hs2 v1
  simp (maxSteps := 200000) -implicitDefEqProofs only [KA, KB, KC, KD, KE, KF, eq_self, ne_eq, ↓reduceIte, Nat.reduceLT, Nat.reduceEqDiff, Nat.reduceAdd, Nat.reduceLeDiff, Nat.reduceSub, Nat.reduceMul, reduceCtorEq]
  refine hear_ok (k := k + 1) hs2 v1.1 (by omega) fun h3 v3 hs3 f3 i3 => ?_
  have v2 := v1.1.hear (by omega) 2 5 y
  rw [hears2 x y hy1] at hs3 v2 ⊢
  simp only at hs3 v2
  have wx := wrap_i64 (n := now - x) (by omega)
  have wy := wrap_i64 (n := now - y) (by omega)
  have key : ∀ (W : List Int), W = (if 1 + ls ≤ now - x then [1] else []) ++ (if 1 + ls ≤ now - y then [2] else []) → (goneP [⟨5, 1, x⟩, ⟨5, 2, y⟩] now (1 + ls)).map (·.n) = W ∧ W.Pairwise (· < ·) ∧ (keptP [⟨5, 1, x⟩, ⟨5, 2, y⟩] now (1 + ls)).length = 2 - W.length ∧ W.length ≤ 2 := by
    rintro W rfl
    have hnow : ¬ now < 0 := by omega
    have m1 : max 1 (1 + ls) = 1 + ls := by omega
    unfold goneP keptP lastP
    rw [if_neg hnow, if_neg hnow, m1]
    by_cases c1 : 1 + ls ≤ now - x
    · by_cases c2 : 1 + ls ≤ now - y
      · simp [List.filter_cons, c1, c2, show x ≤ now - (1 + ls) by omega, show y ≤ now - (1 + ls) by omega]
      · simp [List.filter_cons, c1, c2, show x ≤ now - (1 + ls) by omega, show ¬ y ≤ now - (1 + ls) by omega]
    · by_cases c2 : 1 + ls ≤ now - y
      · simp [List.filter_cons, c1, c2, show ¬ x ≤ now - (1 + ls) by omega, show y ≤ now - (1 + ls) by omega]
      · simp [List.filter_cons, c1, c2, show ¬ x ≤ now - (1 + ls) by omega, show ¬ y ≤ now - (1 + ls) by omega]
  have pre : ∃ (h4 : Hp) (w : CV) (W : List Int), W = (if 1 + ls ≤ now - x then [1] else []) ++ (if 1 + ls ≤ now - y then [2] else []) ∧ Ow h4 1 w (W.map encI) ∧ PS h4 s 9 6 v3 [⟨5, 1, x⟩, ⟨5, 2, y⟩] ∧ (∀ j, ownId w j → h3.n ≤ j) ∧
      ((1 + ls ≤ now - x ∧ ∃ u h5, appT h3 [[.int .i64 1]] 1 8 (.v (.c .nils)) (.lsl 0 1) = some (u, h5) ∧ ((1 + ls ≤ now - y ∧ appT h5 [[.int .i64 2]] 1 8 (.v (.c u)) (.lsl 0 1) = some (w, h4)) ∨ (¬ 1 + ls ≤ now - y ∧ w = u ∧ h4 = h5))) ∨
        (¬ 1 + ls ≤ now - x ∧ ((1 + ls ≤ now - y ∧ appT h3 [[.int .i64 2]] 1 8 (.v (.c .nils)) (.lsl 0 1) = some (w, h4)) ∨ (¬ 1 + ls ≤ now - y ∧ w = .nils ∧ h4 = h3)))) := by
    have o0 : Ow h3 1 .nils ([] : List (List CV)) := rfl
    by_cases c1 : 1 + ls ≤ now - x
    · obtain ⟨u, h5, f1', f2', f3', f4'⟩ := o0.app (lc := [[.int .i64 1]]) (x := .lsl 0 1) (xs := [[.int .i64 1]]) rfl (by simp) (bytes := 8) (by simp [room])
      by_cases c2 : 1 + ls ≤ now - y
      · obtain ⟨u2, h6, g1', g2', g3', g4'⟩ := f2'.app (lc := [[.int .i64 2]]) (x := .lsl 0 1) (xs := [[.int .i64 2]]) rfl (by simp) (bytes := 8) (by simp [room])
        refine ⟨h6, u2, [1, 2], by rw [if_pos c1, if_pos c2]; rfl, g2', ?_, ?_, .inl ⟨c1, u, h5, f1', .inl ⟨c2, g1'⟩⟩⟩
        · refine (hs3.mono f3' (fun e => e) (fun j hj e => e)).mono g3' (fun e => ?_) (fun j hj e => ?_)
          · rcases f4' _ e with e | e
            · exact e
            · have := lt_of_g hs3.1; omega
          · rcases f4' _ e with e | e
            · exact e
            · have := hs3.2.1.lt hj; omega
        · intro j hj
          rcases g4' j hj with e | e
          · rcases f4' _ e with e | e
            · exact e.elim
            · exact e
          · have := f3'.n; omega
      · refine ⟨h5, u, [1], by rw [if_pos c1, if_neg c2]; rfl, f2', hs3.mono f3' (fun e => e) (fun j hj e => e), ?_, .inl ⟨c1, u, h5, f1', .inr ⟨c2, rfl, rfl⟩⟩⟩
        intro j hj
        rcases f4' j hj with e | e
        · exact e.elim
        · exact e
    · by_cases c2 : 1 + ls ≤ now - y
      · obtain ⟨u2, h6, g1', g2', g3', g4'⟩ := o0.app (lc := [[.int .i64 2]]) (x := .lsl 0 1) (xs := [[.int .i64 2]]) rfl (by simp) (bytes := 8) (by simp [room])
        refine ⟨h6, u2, [2], by rw [if_neg c1, if_pos c2]; rfl, g2', hs3.mono g3' (fun e => e) (fun j hj e => e), ?_, .inr ⟨c1, .inl ⟨c2, g1'⟩⟩⟩
        intro j hj
        rcases g4' j hj with e | e
        · exact e.elim
        · exact e
      · exact ⟨h3, .nils, [], by rw [if_neg c1, if_neg c2]; rfl, o0, hs3, fun j hj => hj.elim, .inr ⟨c1, .inr ⟨c2, rfl, rfl⟩⟩⟩
  obtain ⟨h4, w, W, hW, ow, hs4, hidw, ways⟩ := pre
  obtain ⟨k1, k2, k3, k4⟩ := key W hW
  rcases ways with ⟨c1, u, h5, a1, ⟨c2, a2⟩ | ⟨c2, rfl, rfl⟩⟩ | ⟨c1, ⟨c2, a1⟩ | ⟨c2, rfl, rfl⟩⟩
  all_goals first | simp (maxSteps := 200000) -implicitDefEqProofs only [KA, KB, KC, KD, KE, KF, eq_self, ne_eq, ↓reduceIte, Nat.reduceLT, Nat.reduceEqDiff, Nat.reduceAdd, Nat.reduceLeDiff, Nat.reduceSub, Nat.reduceMul, reduceCtorEq, wx, wy, c1, c2, a1, a2] | simp (maxSteps := 200000) -implicitDefEqProofs only [KA, KB, KC, KD, KE, KF, eq_self, ne_eq, ↓reduceIte, Nat.reduceLT, Nat.reduceEqDiff, Nat.reduceAdd, Nat.reduceLeDiff, Nat.reduceSub, Nat.reduceMul, reduceCtorEq, wx, wy, c1, c2, a1] | simp (maxSteps := 200000) -implicitDefEqProofs only [KA, KB, KC, KD, KE, KF, eq_self, ne_eq, ↓reduceIte, Nat.reduceLT, Nat.reduceEqDiff, Nat.reduceAdd, Nat.reduceLeDiff, Nat.reduceSub, Nat.reduceMul, reduceCtorEq, wx, wy, c1, c2]
  all_goals
    refine old_ok (k := k + 1) hs4 v2.1 (by omega) (by omega) fun h6 v6 w6 T hs6 sw pT sT f6 i6 j6 => ?_
    have hTW : T = W := int_eq sT k2 fun z => by rw [pT.mem_iff, k1]
    subst hTW
    have ow6 := ow.sl.mono f6 (fun id tok off len cap e1 e2 => by
      have h1 := hidw id (by rw [e1]; rfl)
      rcases e2 with e2 | e2
      · have := lt_of_g hs3.1; omega
      · have := hs3.2.1.lt e2; omega)
    simp (maxSteps := 200000) -implicitDefEqProofs only [KA, KB, KC, KD, KE, KF, eq_self, ne_eq, ↓reduceIte, Nat.reduceLT, Nat.reduceEqDiff, Nat.reduceAdd, Nat.reduceLeDiff, Nat.reduceSub, Nat.reduceMul, reduceCtorEq]
    refine same_ok (k := k + 7) sw ow6 (by omega) ?_
    simp (maxSteps := 200000) -implicitDefEqProofs only [KA, KB, KC, KD, KE, KF, eq_self, ne_eq, ↓reduceIte, Nat.reduceLT, Nat.reduceEqDiff, Nat.reduceAdd, Nat.reduceLeDiff, Nat.reduceSub, Nat.reduceMul, reduceCtorEq]
    refine all_ok (k := k + 7) hs6 (by omega) fun h7 w7 sw7 f7 => ?_
    have len7 : ∀ h' : Hp, lenT h' .sl (.v (.c w7)) = some (2 - (T.length : Int)) := fun h' => by rw [sw7.len h', List.length_map, List.length_map, k3]; congr 1; omega
    have lenw : ∀ h' : Hp, _ = some (T.length : Int) := fun h' => (ow6.len h').trans (by rw [List.length_map])
    have wl := wrap_i64 (n := 2 - (T.length : Int)) (by omega)
    have dl : decide (2 - (T.length : Int) = 2 - (T.length : Int)) = true := by simp
    simp (maxSteps := 200000) -implicitDefEqProofs only [KA, KB, KC, KD, KE, KF, eq_self, ne_eq, ↓reduceIte, Nat.reduceLT, Nat.reduceEqDiff, Nat.reduceAdd, Nat.reduceLeDiff, Nat.reduceSub, Nat.reduceMul, reduceCtorEq, len7, lenw, wl, dl]
    refine awakeP_ok (k := k) fun h' _ => ?_
    simp (maxSteps := 200000) -implicitDefEqProofs only [KA, KB, KC, KD, KE, KF, eq_self, ne_eq, ↓reduceIte, Nat.reduceLT, Nat.reduceEqDiff, Nat.reduceAdd, Nat.reduceLeDiff, Nat.reduceSub, Nat.reduceMul, reduceCtorEq]
    exact hP _
end
end Camp
