/- Parents: the law of the old ones. Parents: the law of who is heard again. Parents: the law of the best ones. Parents: the law of the ranks that fall. -/
import Derived.Test.YtlojpagbcdpjmaaLaw

set_option linter.unnecessarySimpa false
set_option linter.unusedVariables false
set_option linter.unusedSimpArgs false
set_option linter.unusedSectionVars false
/-! CvPar7 -/
namespace Camp
open Go
set_option linter.unusedVariables false
set_option linter.unusedSimpArgs false
set_option maxHeartbeats 4000000
section
variable {k : Nat} {h : Hp} {P : AV → Hp → Prop} {s : Nat} {me rank : Int} {v : CV} {L : List Pr}
theorem hears1 (x : Int) (hx : 0 ≤ x) : hearS 9 200 [] 1 5 x = (6, [⟨5, 1, x⟩], true) := by
  have hm : mayP 9 1 5 x := ⟨by omega, by omega, by omega, by omega⟩
  unfold hearS
  rw [if_pos hm]
  rfl
theorem hears2 (x y : Int) (hy : 0 ≤ y) : hearS 9 6 [⟨5, 1, x⟩] 2 5 y = (6, [⟨5, 1, x⟩, ⟨5, 2, y⟩], true) := by
  have hm : mayP 9 2 5 y := ⟨by omega, by omega, by omega, by omega⟩
  unfold hearS
  rw [if_pos hm]
  rfl
theorem parentsOld_ok {a b loss0 now0 : Int} (hP : ∀ h', P (.c (.bool true)) h') : callW N (k + 9) 69 [.c (.int .i64 a), .c (.int .i64 b), .c (.int .i64 loss0), .c (.int .i64 now0)] h P := by
  obtain ⟨now, hn, hn1, hn2⟩ : ∃ x', (IntKind.wrap .u64 now0).tmod 1000 = x' ∧ 0 ≤ x' ∧ x' < 1000 := ⟨_, rfl, u64_tmod _ _ (by omega)⟩
  obtain ⟨ls, hl, hl1, hl2⟩ : ∃ x', (IntKind.wrap .u64 loss0).tmod 50 = x' ∧ 0 ≤ x' ∧ x' < 50 := ⟨_, rfl, u64_tmod _ _ (by omega)⟩
  obtain ⟨x, hx, hx1, hx2⟩ : ∃ x', (IntKind.wrap .u64 a).tmod 100 = x' ∧ 0 ≤ x' ∧ x' < 100 := ⟨_, rfl, u64_tmod _ _ (by omega)⟩
  obtain ⟨y, hy, hy1, hy2⟩ : ∃ x', (IntKind.wrap .u64 b).tmod 100 = x' ∧ 0 ≤ x' ∧ x' < 100 := ⟨_, rfl, u64_tmod _ _ (by omega)⟩
  have w1 := wrap_i64 (n := now) (by omega)
  have w2 := wrap_i64 (n := ls) (by omega)
  have w3 := wrap_i64 (n := x) (by omega)
  have w4 := wrap_i64 (n := y) (by omega)
  have w5 := wrap_i64 (n := 1 + ls) (by omega)
  have z1 : ¬ ((1000 : Int) = 0) := by decide
  have z2 : ¬ ((50 : Int) = 0) := by decide
  have z3 : ¬ ((100 : Int) = 0) := by decide
  refine call_intro rfl (by simp only [List.length_cons, List.length_nil]; omega) ?_
  simp (maxSteps := 200000) -implicitDefEqProofs only [KA, KB, KC, KD, KE, KF, eq_self, ne_eq, ↓reduceIte, Nat.reduceLT, Nat.reduceEqDiff, Nat.reduceAdd, Nat.reduceLeDiff, Nat.reduceSub, Nat.reduceMul, reduceCtorEq, hn, hl, hx, hy, w1, w2, w3, w4, w5, z1, z2, z3]
  refine pnew_ok (k := k + 6) (fun _ _ h1 s hs1 f1 n1 => ?_) (fun hm => absurd ⟨⟨by omega, by omega⟩, by omega, by omega⟩ hm)
  simp (maxSteps := 200000) -implicitDefEqProofs only [KA, KB, KC, KD, KE, KF, eq_self, ne_eq, ↓reduceIte, Nat.reduceLT, Nat.reduceEqDiff, Nat.reduceAdd, Nat.reduceLeDiff, Nat.reduceSub, Nat.reduceMul, reduceCtorEq]
  refine hear_ok (k := k + 1) hs1 (Iv.nil _ _) (by omega) fun h2 v2 hs2 f2 i2 => ?_
  have v1 := (Iv.nil 9 200).hear (by omega) 1 5 x
  rw [hears1 x hx1] at hs2 v1 ⊢
  simp only at hs2 v1
  simp (maxSteps := 200000) -implicitDefEqProofs only [KA, KB, KC, KD, KE, KF, eq_self, ne_eq, ↓reduceIte, Nat.reduceLT, Nat.reduceEqDiff, Nat.reduceAdd, Nat.reduceLeDiff, Nat.reduceSub, Nat.reduceMul, reduceCtorEq]
  refine hear_ok (k := k + 1) hs2 v1.1 (by omega) fun h3 v3 hs3 f3 i3 => ?_
  have v2 := v1.1.hear (by omega) 2 5 y
  rw [hears2 x y hy1] at hs3 v2 ⊢
  simp only at hs3 v2
  have wx := wrap_i64 (n := now - x) (by omega)
  have wy := wrap_i64 (n := now - y) (by omega)
  have key : ∀ (W : List Int), W = (if 1 + ls ≤ now - x then [1] else []) ++ (if 1 + ls ≤ now - y then [2] else []) → (goneP [⟨5, 1, x⟩, ⟨5, 2, y⟩] now (1 + ls)).map (·.n) = W ∧ W.Pairwise (· < ·) ∧ (keptP [⟨5, 1, x⟩, ⟨5, 2, y⟩] now (1 + ls)).length = 2 - W.length ∧ W.length ≤ 2 := by
    rintro W rfl
    have hnow : ¬ now < 0 := by omega
    have m1 : max 1 (1 + ls) = 1 + ls := by omega
    unfold goneP keptP lastP
    rw [if_neg hnow, if_neg hnow, m1]
    by_cases c1 : 1 + ls ≤ now - x
    · by_cases c2 : 1 + ls ≤ now - y
      · simp [List.filter_cons, c1, c2, show x ≤ now - (1 + ls) by omega, show y ≤ now - (1 + ls) by omega]
      · simp [List.filter_cons, c1, c2, show x ≤ now - (1 + ls) by omega, show ¬ y ≤ now - (1 + ls) by omega]
    · by_cases c2 : 1 + ls ≤ now - y
      · simp [List.filter_cons, c1, c2, show ¬ x ≤ now - (1 + ls) by omega, show y ≤ now - (1 + ls) by omega]
      · simp [List.filter_cons, c1, c2, show ¬ x ≤ now - (1 + ls) by omega, show ¬ y ≤ now - (1 + ls) by omega]
  have pre : ∃ (h4 : Hp) (w : CV) (W : List Int), W = (if 1 + ls ≤ now - x then [1] else []) ++ (if 1 + ls ≤ now - y then [2] else []) ∧ Ow h4 1 w (W.map encI) ∧ PS h4 s 9 6 v3 [⟨5, 1, x⟩, ⟨5, 2, y⟩] ∧ (∀ j, ownId w j → h3.n ≤ j) ∧
      ((1 + ls ≤ now - x ∧ ∃ u h5, appT h3 [[.int .i64 1]] 1 8 (.v (.c .nils)) (.lsl 0 1) = some (u, h5) ∧ ((1 + ls ≤ now - y ∧ appT h5 [[.int .i64 2]] 1 8 (.v (.c u)) (.lsl 0 1) = some (w, h4)) ∨ (¬ 1 + ls ≤ now - y ∧ w = u ∧ h4 = h5))) ∨
        (¬ 1 + ls ≤ now - x ∧ ((1 + ls ≤ now - y ∧ appT h3 [[.int .i64 2]] 1 8 (.v (.c .nils)) (.lsl 0 1) = some (w, h4)) ∨ (¬ 1 + ls ≤ now - y ∧ w = .nils ∧ h4 = h3)))) := by
    have o0 : Ow h3 1 .nils ([] : List (List CV)) := rfl
    by_cases c1 : 1 + ls ≤ now - x
    · obtain ⟨u, h5, f1', f2', f3', f4'⟩ := o0.app (lc := [[.int .i64 1]]) (x := .lsl 0 1) (xs := [[.int .i64 1]]) rfl (by simp) (bytes := 8) (by simp [room])
      by_cases c2 : 1 + ls ≤ now - y
      · obtain ⟨u2, h6, g1', g2', g3', g4'⟩ := f2'.app (lc := [[.int .i64 2]]) (x := .lsl 0 1) (xs := [[.int .i64 2]]) rfl (by simp) (bytes := 8) (by simp [room])
        refine ⟨h6, u2, [1, 2], by rw [if_pos c1, if_pos c2]; rfl, g2', ?_, ?_, .inl ⟨c1, u, h5, f1', .inl ⟨c2, g1'⟩⟩⟩
        · refine (hs3.mono f3' (fun e => e) (fun j hj e => e)).mono g3' (fun e => ?_) (fun j hj e => ?_)
          · rcases f4' _ e with e | e
            · exact e
            · have := lt_of_g hs3.1; omega
          · rcases f4' _ e with e | e
            · exact e
            · have := hs3.2.1.lt hj; omega
        · intro j hj
          rcases g4' j hj with e | e
          · rcases f4' _ e with e | e
            · exact e.elim
            · exact e
          · have := f3'.n; omega
      · refine ⟨h5, u, [1], by rw [if_pos c1, if_neg c2]; rfl, f2', hs3.mono f3' (fun e => e) (fun j hj e => e), ?_, .inl ⟨c1, u, h5, f1', .inr ⟨c2, rfl, rfl⟩⟩⟩
        intro j hj
        rcases f4' j hj with e | e
        · exact e.elim
        · exact e
    · by_cases c2 : 1 + ls ≤ now - y
      · obtain ⟨u2, h6, g1', g2', g3', g4'⟩ := o0.app (lc := [[.int .i64 2]]) (x := .lsl 0 1) (xs := [[.int .i64 2]]) rfl (by simp) (bytes := 8) (by simp [room])
        refine ⟨h6, u2, [2], by rw [if_neg c1, if_pos c2]; rfl, g2', hs3.mono g3' (fun e => e) (fun j hj e => e), ?_, .inr ⟨c1, .inl ⟨c2, g1'⟩⟩⟩
        intro j hj
        rcases g4' j hj with e | e
        · exact e.elim
        · exact e
      · exact ⟨h3, .nils, [], by rw [if_neg c1, if_neg c2]; rfl, o0, hs3, fun j hj => hj.elim, .inr ⟨c1, .inr ⟨c2, rfl, rfl⟩⟩⟩
  obtain ⟨h4, w, W, hW, ow, hs4, hidw, ways⟩ := pre
  obtain ⟨k1, k2, k3, k4⟩ := key W hW
  rcases ways with ⟨c1, u, h5, a1, ⟨c2, a2⟩ | ⟨c2, rfl, rfl⟩⟩ | ⟨c1, ⟨c2, a1⟩ | ⟨c2, rfl, rfl⟩⟩
  all_goals first | simp (maxSteps := 200000) -implicitDefEqProofs only [KA, KB, KC, KD, KE, KF, eq_self, ne_eq, ↓reduceIte, Nat.reduceLT, Nat.reduceEqDiff, Nat.reduceAdd, Nat.reduceLeDiff, Nat.reduceSub, Nat.reduceMul, reduceCtorEq, wx, wy, c1, c2, a1, a2] | simp (maxSteps := 200000) -implicitDefEqProofs only [KA, KB, KC, KD, KE, KF, eq_self, ne_eq, ↓reduceIte, Nat.reduceLT, Nat.reduceEqDiff, Nat.reduceAdd, Nat.reduceLeDiff, Nat.reduceSub, Nat.reduceMul, reduceCtorEq, wx, wy, c1, c2, a1] | simp (maxSteps := 200000) -implicitDefEqProofs only [KA, KB, KC, KD, KE, KF, eq_self, ne_eq, ↓reduceIte, Nat.reduceLT, Nat.reduceEqDiff, Nat.reduceAdd, Nat.reduceLeDiff, Nat.reduceSub, Nat.reduceMul, reduceCtorEq, wx, wy, c1, c2]
  all_goals
    refine old_ok (k := k + 1) hs4 v2.1 (by omega) (by omega) fun h6 v6 w6 T hs6 sw pT sT f6 i6 j6 => ?_
    have hTW : T = W := int_eq sT k2 fun z => by rw [pT.mem_iff, k1]
    subst hTW
    have ow6 := ow.sl.mono f6 (fun id tok off len cap e1 e2 => by
      have h1 := hidw id (by rw [e1]; rfl)
      rcases e2 with e2 | e2
      · have := lt_of_g hs3.1; omega
      · have := hs3.2.1.lt e2; omega)
    simp (maxSteps := 200000) -implicitDefEqProofs only [KA, KB, KC, KD, KE, KF, eq_self, ne_eq, ↓reduceIte, Nat.reduceLT, Nat.reduceEqDiff, Nat.reduceAdd, Nat.reduceLeDiff, Nat.reduceSub, Nat.reduceMul, reduceCtorEq]
    refine same_ok (k := k + 7) sw ow6 (by omega) ?_
    simp (maxSteps := 200000) -implicitDefEqProofs only [KA, KB, KC, KD, KE, KF, eq_self, ne_eq, ↓reduceIte, Nat.reduceLT, Nat.reduceEqDiff, Nat.reduceAdd, Nat.reduceLeDiff, Nat.reduceSub, Nat.reduceMul, reduceCtorEq]
    refine all_ok (k := k + 7) hs6 (by omega) fun h7 w7 sw7 f7 => ?_
    have len7 : ∀ h' : Hp, lenT h' .sl (.v (.c w7)) = some (2 - (T.length : Int)) := fun h' => by rw [sw7.len h', List.length_map, List.length_map, k3]; congr 1; omega
    have lenw : ∀ h' : Hp, _ = some (T.length : Int) := fun h' => (ow6.len h').trans (by rw [List.length_map])
    have wl := wrap_i64 (n := 2 - (T.length : Int)) (by omega)
    have dl : decide (2 - (T.length : Int) = 2 - (T.length : Int)) = true := by simp
    simp (maxSteps := 200000) -implicitDefEqProofs only [KA, KB, KC, KD, KE, KF, eq_self, ne_eq, ↓reduceIte, Nat.reduceLT, Nat.reduceEqDiff, Nat.reduceAdd, Nat.reduceLeDiff, Nat.reduceSub, Nat.reduceMul, reduceCtorEq, len7, lenw, wl, dl]
    refine awakeP_ok (k := k) fun h' _ => ?_
    simp (maxSteps := 200000) -implicitDefEqProofs only [KA, KB, KC, KD, KE, KF, eq_self, ne_eq, ↓reduceIte, Nat.reduceLT, Nat.reduceEqDiff, Nat.reduceAdd, Nat.reduceLeDiff, Nat.reduceSub, Nat.reduceMul, reduceCtorEq]
    exact hP _
end
end Camp

/-! CvPar8 -/
namespace Camp
open Go
set_option linter.unusedVariables false
set_option linter.unusedSimpArgs false
set_option maxHeartbeats 4000000
section
variable {k : Nat} {h : Hp} {P : AV → Hp → Prop} {s : Nat} {me rank : Int} {v : CV} {L : List Pr}
theorem hearOne {rank r now : Int} {L : List Pr} (hL : keepN L 4 = []) (hr : 0 ≤ r ∧ r ≤ 255) (hn : 0 ≤ now) : hearS 3 rank L 4 r now = if rank ≤ r then (rank, [], false) else (min rank (r + 1), [⟨r, 4, now⟩], true) := by
  have hm : mayP 3 4 r now := ⟨by omega, by omega, hr, by omega⟩
  unfold hearS
  rw [if_pos hm, hL]
  by_cases c : rank ≤ r
  · rw [if_pos c, if_pos c]
  · rw [if_neg c, if_neg c]
    have : hearL rank L ⟨r, 4, now⟩ = [⟨r, 4, now⟩] := by
      unfold hearL insP
      rw [hL]
      have : ¬ (min rank (r + 1) ≤ r) := by omega
      simp [List.filter_cons, this]
    rw [this]
    rfl
theorem s2_ok {y : Bool} (hP : ∀ h' w, SL h' 1 w ((if y = true then [4] else []).map encI) → Fn h h' → P (.c w) h') : callW N (k + 1) 72 [.c (.bool y)] h P := by
  refine call_intro rfl (by simp only [List.length_cons, List.length_nil]; omega) ?_
  cases y with
  | true =>
    simp (maxSteps := 200000) -implicitDefEqProofs only [KA, KB, KC, KD, KE, KF, eq_self, ne_eq, ↓reduceIte, Nat.reduceLT, Nat.reduceEqDiff, Nat.reduceAdd, Nat.reduceLeDiff, Nat.reduceSub, Nat.reduceMul, reduceCtorEq]
    exact hP _ _ (sl_push h _ 1 1 [[.int .i64 4]] rfl rfl (some 1)) (Fm.push _ _ _)
  | false =>
    simp (maxSteps := 200000) -implicitDefEqProofs only [KA, KB, KC, KD, KE, KF, eq_self, ne_eq, ↓reduceIte, Nat.reduceLT, Nat.reduceEqDiff, Nat.reduceAdd, Nat.reduceLeDiff, Nat.reduceSub, Nat.reduceMul, reduceCtorEq]
    exact hP _ _ rfl (Fm.refl _ _)
theorem parentsAgain_ok {a0 b0 : Int} (hP : ∀ h', P (.c (.bool true)) h') : callW N (k + 9) 71 [.c (.int .i64 a0), .c (.int .i64 b0)] h P := by
  obtain ⟨a, ha, ha1, ha2⟩ : ∃ x', (IntKind.wrap .u64 a0).tmod 256 = x' ∧ 0 ≤ x' ∧ x' < 256 := ⟨_, rfl, u64_tmod _ _ (by omega)⟩
  obtain ⟨b, hb, hb1, hb2⟩ : ∃ x', (IntKind.wrap .u64 b0).tmod 256 = x' ∧ 0 ≤ x' ∧ x' < 256 := ⟨_, rfl, u64_tmod _ _ (by omega)⟩
  have w1 := wrap_i64 (n := a) (by omega)
  have w2 := wrap_i64 (n := b) (by omega)
  have w3 := wrap_i64 (n := b + 1) (by omega)
  have z : ¬ ((256 : Int) = 0) := by decide
  refine call_intro rfl (by simp only [List.length_cons, List.length_nil]; omega) ?_
  simp (maxSteps := 200000) -implicitDefEqProofs only [KA, KB, KC, KD, KE, KF, eq_self, ne_eq, ↓reduceIte, Nat.reduceLT, Nat.reduceEqDiff, Nat.reduceAdd, Nat.reduceLeDiff, Nat.reduceSub, Nat.reduceMul, reduceCtorEq, ha, hb, w1, w2, z]
  refine pnew_ok (k := k + 6) (fun _ _ h1 s hs1 f1 n1 => ?_) (fun hm => absurd ⟨⟨by omega, by omega⟩, by omega, by omega⟩ hm)
  simp (maxSteps := 200000) -implicitDefEqProofs only [KA, KB, KC, KD, KE, KF, eq_self, ne_eq, ↓reduceIte, Nat.reduceLT, Nat.reduceEqDiff, Nat.reduceAdd, Nat.reduceLeDiff, Nat.reduceSub, Nat.reduceMul, reduceCtorEq]
  refine hear_ok (k := k + 1) hs1 (Iv.nil _ _) (by omega) fun h2 v2 hs2 f2 i2 => ?_
  have v1 := (Iv.nil 3 200).hear (by omega) 4 a 1
  obtain ⟨r1, L1, x1, e1⟩ : ∃ r1 L1 x1, hearS 3 200 [] 4 a 1 = (r1, L1, x1) := ⟨_, _, _, rfl⟩
  rw [e1] at hs2 v1 ⊢
  simp only at hs2 v1
  rw [hearOne rfl (by omega) (by omega)] at e1
  have hk1 : keepN L1 4 = [] := by
    split at e1 <;> injection e1 with e1 e2 <;> injection e2 with e2 e3 <;> subst e2 <;> rfl
  have x1d : x1 = decide (a < 200) := by
    split at e1 <;> injection e1 with e1 e2 <;> injection e2 with e2 e3 <;> subst e3
    · exact (decide_eq_false (by omega)).symm
    · exact (decide_eq_true (by omega)).symm
  simp (maxSteps := 200000) -implicitDefEqProofs only [KA, KB, KC, KD, KE, KF, eq_self, ne_eq, ↓reduceIte, Nat.reduceLT, Nat.reduceEqDiff, Nat.reduceAdd, Nat.reduceLeDiff, Nat.reduceSub, Nat.reduceMul, reduceCtorEq]
  refine rank_ok (k := k + 7) hs2 ?_
  simp (maxSteps := 200000) -implicitDefEqProofs only [KA, KB, KC, KD, KE, KF, eq_self, ne_eq, ↓reduceIte, Nat.reduceLT, Nat.reduceEqDiff, Nat.reduceAdd, Nat.reduceLeDiff, Nat.reduceSub, Nat.reduceMul, reduceCtorEq]
  refine hear_ok (k := k + 1) hs2 v1.1 (by omega) fun h3 v3 hs3 f3 i3 => ?_
  have v2 := v1.1.hear (by omega) 4 b 2
  obtain ⟨r2, L2, y, e2⟩ : ∃ r1' L1' x1', hearS 3 r1 L1 4 b 2 = (r1', L1', x1') := ⟨_, _, _, rfl⟩
  rw [e2] at hs3 v2 ⊢
  simp only at hs3 v2
  rw [hearOne hk1 (by omega) (by omega)] at e2
  have yd : y = decide (b < r1) := by
    split at e2 <;> injection e2 with e2 e3 <;> injection e3 with e3 e4 <;> subst e4
    · exact (decide_eq_false (by omega)).symm
    · exact (decide_eq_true (by omega)).symm
  have shape : (¬ b < r1 ∧ r2 = r1 ∧ L2 = []) ∨ (b < r1 ∧ r2 = min r1 (b + 1) ∧ L2 = [⟨b, 4, 2⟩]) := by
    split at e2 <;> injection e2 with e2 e3 <;> injection e3 with e3 e4
    · exact .inl ⟨by omega, e2.symm, e3.symm⟩
    · exact .inr ⟨by omega, e2.symm, e3.symm⟩
  have bq : ∀ b : Bool, (b == b) = true := fun b => by cases b <;> rfl
  subst x1d yd
  simp (maxSteps := 200000) -implicitDefEqProofs only [KA, KB, KC, KD, KE, KF, eq_self, ne_eq, ↓reduceIte, Nat.reduceLT, Nat.reduceEqDiff, Nat.reduceAdd, Nat.reduceLeDiff, Nat.reduceSub, Nat.reduceMul, reduceCtorEq, bq]
  have hl3 := v2.1.len
  refine all_ok (k := k + 7) hs3 (by omega) fun h4 w4 sw4 f4 => ?_
  have hs4 := hs3.new f4
  have hL21 : L2.length ≤ 1 := by rcases shape with ⟨_, _, rfl⟩ | ⟨_, _, rfl⟩ <;> simp
  have len4 : ∀ h' : Hp, lenT h' .sl (.v (.c w4)) = some (L2.length : Int) := fun h' => by rw [sw4.len h', List.length_map, List.length_map]
  have z4 : ¬ (1 < (L2.length : Int)) := by omega
  simp (maxSteps := 200000) -implicitDefEqProofs only [KA, KB, KC, KD, KE, KF, eq_self, ne_eq, ↓reduceIte, Nat.reduceLT, Nat.reduceEqDiff, Nat.reduceAdd, Nat.reduceLeDiff, Nat.reduceSub, Nat.reduceMul, reduceCtorEq, len4, z4]
  refine rankOf_ok (k := k + 7) hs4 (by omega) ?_
  rcases shape with ⟨hbr, rfl, rfl⟩ | ⟨hbr, rfl, rfl⟩
  · have er : rankOf [] 4 = none := rfl
    have er1 : (none : Option Int).isSome = false := rfl
    have bf : (false == false) = true := rfl
    have ed : decide (b < r2) = false := decide_eq_false hbr
    simp (maxSteps := 200000) -implicitDefEqProofs only [KA, KB, KC, KD, KE, KF, eq_self, ne_eq, ↓reduceIte, Nat.reduceLT, Nat.reduceEqDiff, Nat.reduceAdd, Nat.reduceLeDiff, Nat.reduceSub, Nat.reduceMul, reduceCtorEq, er, er1, bf, ed]
    refine old_ok (k := k + 1) hs4 v2.1 (by omega) (by omega) fun h6 v6 w6 T hs6 sw pT sT f6 i6 j6 => ?_
    have hT : T = [] := List.Perm.eq_nil (by simpa [goneP] using pT)
    subst hT
    simp (maxSteps := 200000) -implicitDefEqProofs only [KA, KB, KC, KD, KE, KF, eq_self, ne_eq, ↓reduceIte, Nat.reduceLT, Nat.reduceEqDiff, Nat.reduceAdd, Nat.reduceLeDiff, Nat.reduceSub, Nat.reduceMul, reduceCtorEq]
    refine s2_ok (k := k + 7) fun h7 w7 sw7 f7 => ?_
    simp (maxSteps := 200000) -implicitDefEqProofs only [KA, KB, KC, KD, KE, KF, eq_self, ne_eq, ↓reduceIte, Nat.reduceLT, Nat.reduceEqDiff, Nat.reduceAdd, Nat.reduceLeDiff, Nat.reduceSub, Nat.reduceMul, reduceCtorEq]
    refine same_ok (k := k + 7) (sw.new f7) sw7 (by simp) ?_
    simp (maxSteps := 200000) -implicitDefEqProofs only [KA, KB, KC, KD, KE, KF, eq_self, ne_eq, ↓reduceIte, Nat.reduceLT, Nat.reduceEqDiff, Nat.reduceAdd, Nat.reduceLeDiff, Nat.reduceSub, Nat.reduceMul, reduceCtorEq]
    refine awakeP_ok (k := k) fun h' _ => ?_
    simp (maxSteps := 200000) -implicitDefEqProofs only [KA, KB, KC, KD, KE, KF, eq_self, ne_eq, ↓reduceIte, Nat.reduceLT, Nat.reduceEqDiff, Nat.reduceAdd, Nat.reduceLeDiff, Nat.reduceSub, Nat.reduceMul, reduceCtorEq]
    exact hP _
  · have er : rankOf [⟨b, 4, 2⟩] 4 = some b := rfl
    have er1 : (some b : Option Int).isSome = true := rfl
    have er2 : (some b : Option Int).getD 0 = b := rfl
    have bt : (true == true) = true := rfl
    have ed : decide (b < r1) = true := decide_eq_true hbr
    have db : decide (b = b) = true := by simp
    have dm : decide (min r1 (b + 1) = min r1 (b + 1)) = true := by simp
    simp (maxSteps := 200000) -implicitDefEqProofs only [KA, KB, KC, KD, KE, KF, eq_self, ne_eq, ↓reduceIte, Nat.reduceLT, Nat.reduceEqDiff, Nat.reduceAdd, Nat.reduceLeDiff, Nat.reduceSub, Nat.reduceMul, reduceCtorEq, er, er1, er2, bt, ed, db]
    refine rank_ok (k := k + 7) hs4 ?_
    simp (maxSteps := 200000) -implicitDefEqProofs only [KA, KB, KC, KD, KE, KF, eq_self, ne_eq, ↓reduceIte, Nat.reduceLT, Nat.reduceEqDiff, Nat.reduceAdd, Nat.reduceLeDiff, Nat.reduceSub, Nat.reduceMul, reduceCtorEq, w3, dm]
    refine old_ok (k := k + 1) hs4 v2.1 (by omega) (by omega) fun h6 v6 w6 T hs6 sw pT sT f6 i6 j6 => ?_
    have hg4 : (goneP [⟨b, 4, 2⟩] 1000 5).map (·.n) = [4] := rfl
    rw [hg4] at pT
    have hT : T = [4] := List.perm_singleton.mp pT
    subst hT
    simp (maxSteps := 200000) -implicitDefEqProofs only [KA, KB, KC, KD, KE, KF, eq_self, ne_eq, ↓reduceIte, Nat.reduceLT, Nat.reduceEqDiff, Nat.reduceAdd, Nat.reduceLeDiff, Nat.reduceSub, Nat.reduceMul, reduceCtorEq]
    refine s2_ok (k := k + 7) fun h7 w7 sw7 f7 => ?_
    simp (maxSteps := 200000) -implicitDefEqProofs only [KA, KB, KC, KD, KE, KF, eq_self, ne_eq, ↓reduceIte, Nat.reduceLT, Nat.reduceEqDiff, Nat.reduceAdd, Nat.reduceLeDiff, Nat.reduceSub, Nat.reduceMul, reduceCtorEq]
    refine same_ok (k := k + 7) (sw.new f7) sw7 (by simp) ?_
    simp (maxSteps := 200000) -implicitDefEqProofs only [KA, KB, KC, KD, KE, KF, eq_self, ne_eq, ↓reduceIte, Nat.reduceLT, Nat.reduceEqDiff, Nat.reduceAdd, Nat.reduceLeDiff, Nat.reduceSub, Nat.reduceMul, reduceCtorEq]
    refine awakeP_ok (k := k) fun h' _ => ?_
    simp (maxSteps := 200000) -implicitDefEqProofs only [KA, KB, KC, KD, KE, KF, eq_self, ne_eq, ↓reduceIte, Nat.reduceLT, Nat.reduceEqDiff, Nat.reduceAdd, Nat.reduceLeDiff, Nat.reduceSub, Nat.reduceMul, reduceCtorEq]
    exact hP _
end
end Camp

/-! CvPar9 -/
namespace Camp
open Go
set_option linter.unusedVariables false
set_option linter.unusedSimpArgs false
set_option maxHeartbeats 4000000
/-- Those below m among the first i. -/
def selP (x : Nat → Int) (i : Nat) (m : Int) : List Pr := ((List.range i).filter fun j => decide (x j < m)).map fun j : Nat => ⟨x j, j, 5⟩
theorem selP_succ (x : Nat → Int) (i : Nat) (m : Int) : selP x (i + 1) m = selP x i m ++ (if x i < m then [⟨x i, i, 5⟩] else []) := by
  unfold selP
  rw [List.range_succ, List.filter_append, List.map_append]
  congr 1
  by_cases h : x i < m
  · simp [List.filter_cons, h]
  · rw [if_neg h]
    simp only [List.filter_cons, List.filter_nil, decide_eq_true_eq, h, if_false, List.map_nil]
theorem mem_selP {x : Nat → Int} {i : Nat} {m : Int} {p : Pr} : p ∈ selP x i m ↔ ∃ j, j < i ∧ x j < m ∧ p = ⟨x j, j, 5⟩ := by
  simp only [selP, List.mem_map, List.mem_filter, List.mem_range, decide_eq_true_eq]
  constructor
  · rintro ⟨j, ⟨h1, h2⟩, rfl⟩; exact ⟨j, h1, h2, rfl⟩
  · rintro ⟨j, h1, h2, rfl⟩; exact ⟨j, ⟨h1, h2⟩, rfl⟩
/-- The least bound so far. -/
def leastP (rank : Int) (x : Nat → Int) : Nat → Int
  | 0 => rank
  | i + 1 => min (leastP rank x i) (x i + 1)
theorem leastP_le (rank : Int) (x : Nat → Int) : ∀ (i j : Nat), j < i → leastP rank x i ≤ x j + 1
  | 0, j, h => by omega
  | i + 1, j, h => by
    rw [leastP]
    by_cases c : j = i
    · subst c; omega
    · have := leastP_le rank x i j (by omega); omega
theorem leastP_rk (rank : Int) (x : Nat → Int) : ∀ i, leastP rank x i ≤ rank
  | 0 => Int.le_refl _
  | i + 1 => by have := leastP_rk rank x i; rw [leastP]; omega
theorem leastP_pos {rank : Int} {x : Nat → Int} (h : 1 ≤ rank) (hx : ∀ j, 0 ≤ x j) : ∀ i, 1 ≤ leastP rank x i
  | 0 => h
  | i + 1 => by have := leastP_pos h hx i; have := hx i; rw [leastP]; omega
theorem best_step {rank : Int} {x : Nat → Int} (hx : ∀ j, 0 ≤ x j ∧ x j ≤ 255) {i : Nat} (hi : i < 15) :
    hearS 15 (leastP rank x i) ((selP x i (leastP rank x i)).take 3) i (x i) 5 = (leastP rank x (i + 1), (selP x (i + 1) (leastP rank x (i + 1))).take 3, (hearS 15 (leastP rank x i) ((selP x i (leastP rank x i)).take 3) i (x i) 5).2.2) := by
  have hm : mayP 15 i (x i) 5 := ⟨by omega, by omega, hx i, by omega⟩
  have hk : keepN ((selP x i (leastP rank x i)).take 3) i = (selP x i (leastP rank x i)).take 3 := by
    unfold keepN
    rw [List.filter_eq_self]
    intro p hp
    obtain ⟨j, h1, h2, rfl⟩ := mem_selP.mp (List.mem_of_mem_take hp)
    simp only [Bool.not_eq_true', decide_eq_false_iff_not]
    omega
  have hL := leastP_le rank x i
  unfold hearS
  rw [if_pos hm, hk]
  by_cases c : leastP rank x i ≤ x i
  · rw [if_pos c]
    have e1 : leastP rank x (i + 1) = leastP rank x i := by rw [leastP]; omega
    rw [e1, selP_succ, if_neg (by omega), List.append_nil]
  · rw [if_neg c]
    have e1 : leastP rank x (i + 1) = x i + 1 := by rw [leastP]; omega
    simp only [Prod.mk.injEq, and_true]
    refine ⟨by rw [leastP], ?_⟩
    unfold hearL
    simp only
    rw [hk, show min (leastP rank x i) (x i + 1) = x i + 1 by omega]
    rw [e1]
    by_cases c2 : x i + 1 = leastP rank x i
    · -- as good as those before
      have hall : ∀ p ∈ (selP x i (leastP rank x i)).take 3, ltP p ⟨x i, i, 5⟩ := by
        intro p hp
        obtain ⟨j, h1, h2, rfl⟩ := mem_selP.mp (List.mem_of_mem_take hp)
        have := hL j h1
        unfold ltP
        simp only
        omega
      have hins : insP ⟨x i, i, 5⟩ ((selP x i (leastP rank x i)).take 3) = (selP x i (leastP rank x i)).take 3 ++ [⟨x i, i, 5⟩] := by
        unfold insP
        rw [List.filter_eq_self.mpr (fun p hp => decide_eq_true (hall p hp)), List.filter_eq_nil_iff.mpr (fun p hp => by simp [hall p hp])]
      rw [hins]
      have hkeep : (((selP x i (leastP rank x i)).take 3 ++ [(⟨x i, i, 5⟩ : Pr)]).filter fun y => !decide (x i + 1 ≤ y.r)) = (selP x i (leastP rank x i)).take 3 ++ [⟨x i, i, 5⟩] := by
        rw [List.filter_eq_self]
        intro p hp
        simp only [Bool.not_eq_true', decide_eq_false_iff_not]
        rcases List.mem_append.mp hp with hp | hp
        · obtain ⟨j, h1, h2, rfl⟩ := mem_selP.mp (List.mem_of_mem_take hp)
          simp only
          omega
        · simp at hp
          subst hp
          simp only
          omega
      rw [hkeep, selP_succ, if_pos (by omega), c2]
      generalize selP x i (leastP rank x i) = S
      rw [List.take_append, List.take_append, List.take_take, Nat.min_self]
      congr 1
      rw [List.length_take]
      by_cases c3 : S.length < 3
      · rw [Nat.min_eq_right (by omega)]
      · rw [Nat.min_eq_left (by omega), show 3 - S.length = 0 by omega]
    · -- better than all before
      have hins : ((insP ⟨x i, i, 5⟩ ((selP x i (leastP rank x i)).take 3)).filter fun y => !decide (x i + 1 ≤ y.r)) = [⟨x i, i, 5⟩] := by
        unfold insP
        have hout : ∀ p ∈ (selP x i (leastP rank x i)).take 3, x i + 1 ≤ p.r := by
          intro p hp
          obtain ⟨j, h1, h2, rfl⟩ := mem_selP.mp (List.mem_of_mem_take hp)
          have := hL j h1
          simp only
          omega
        rw [List.filter_append, List.filter_cons]
        rw [List.filter_eq_nil_iff.mpr (fun p hp => by simp [hout p (List.mem_filter.mp hp).1]), List.filter_eq_nil_iff.mpr (fun p hp => by simp [hout p (List.mem_filter.mp hp).1])]
        simp
        omega
      rw [hins, selP_succ, if_pos (by omega)]
      have hnil : selP x i (x i + 1) = [] := by
        rw [List.eq_nil_iff_forall_not_mem]
        intro p hp
        obtain ⟨j, h1, h2, rfl⟩ := mem_selP.mp hp
        have := hL j h1
        omega
      rw [hnil]
      rfl
section
variable {k : Nat} {h : Hp} {P : AV → Hp → Prop} {s : Nat} {me rank : Int} {v : CV} {L : List Pr}
def xOf (l : List Int) (j : Nat) : Int := (IntKind.wrap .u64 ((l[j]?).getD 0)).tmod 256
theorem xOf_ok (l : List Int) (j : Nat) : 0 ≤ xOf l j ∧ xOf l j ≤ 255 := by
  have := u64_tmod ((l[j]?).getD 0) 256 (by omega)
  unfold xOf
  omega
def BesA (s : Nat) (rank : Int) (v : CV) (l0 : List Int) (h : Hp) (n : Nat) (st : St) : Prop :=
  ∃ (i : Nat) (u : CV) (h' : Hp) (l : List (Nat × TV)) (lc : List (List CV)), st = ST 110 l lc h' ∧ i ≤ l0.length ∧ n = l0.length - i ∧ PS h' s 15 (leastP rank (xOf l0) i) u ((selP (xOf l0) i (leastP rank (xOf l0) i)).take 3) ∧ Iv 15 (leastP rank (xOf l0) i) ((selP (xOf l0) i (leastP rank (xOf l0) i)).take 3) ∧ (∀ j, ownId u j → h.n ≤ j) ∧ Fn h h' ∧
    lk l 0 = .v (.c v) ∧ lk l 5 = .v (.c (.ptr s 0 0 0)) ∧ lk l 6 = .v (.c (.int .i64 (leastP rank (xOf l0) i))) ∧ lk l 30 = .v (.c v) ∧ lk l 31 = .v (.c (.int .i64 l0.length)) ∧ lk l 32 = .v (.c (.int .i64 i))
def BesB (s : Nat) (m : Int) (v : CV) (l0 : List Int) (h' : Hp) (n : Nat) (st : St) : Prop :=
  ∃ (i : Nat) (l : List (Nat × TV)) (lc : List (List CV)), st = ST 110 l lc h' ∧ i ≤ l0.length ∧ n = l0.length - i ∧
    lk l 5 = .v (.c (.ptr s 0 0 0)) ∧ lk l 6 = .v (.c (.int .i64 m)) ∧ lk l 9 = .v (.c (.int .i64 (selP (xOf l0) i m).length)) ∧ lk l 50 = .v (.c v) ∧ lk l 51 = .v (.c (.int .i64 l0.length)) ∧ lk l 52 = .v (.c (.int .i64 i))
theorem selP_len (x : Nat → Int) (i : Nat) (m : Int) : (selP x i m).length ≤ i := by
  unfold selP
  have := List.length_filter_le (fun j => decide (x j < m)) (List.range i)
  simpa using this
theorem parentsBest_ok {r0 : Int} {l0 : List Int} (hv : SL h 1 v (l0.map encI)) (hP : ∀ h', P (.c (.bool true)) h') : callW N (k + 9) 70 [.c v, .c (.int .i64 r0)] h P := by
  have hlen : ∀ h' : Hp, lenT h' .sl (.v (.c v)) = some (l0.length : Int) := fun h' => by rw [hv.len h', List.length_map]
  refine call_intro rfl (by simp only [List.length_cons, List.length_nil]; omega) ?_
  by_cases c15 : 15 < (l0.length : Int)
  · simp (maxSteps := 200000) -implicitDefEqProofs only [KA, KB, KC, KD, KE, KF, eq_self, ne_eq, ↓reduceIte, Nat.reduceLT, Nat.reduceEqDiff, Nat.reduceAdd, Nat.reduceLeDiff, Nat.reduceSub, Nat.reduceMul, reduceCtorEq, hlen, c15]
    refine awakeP_ok (k := k) fun h' _ => ?_
    simp (maxSteps := 200000) -implicitDefEqProofs only [KA, KB, KC, KD, KE, KF, eq_self, ne_eq, ↓reduceIte, Nat.reduceLT, Nat.reduceEqDiff, Nat.reduceAdd, Nat.reduceLeDiff, Nat.reduceSub, Nat.reduceMul, reduceCtorEq]
    exact hP _
  obtain ⟨m, hm, hm1, hm2⟩ : ∃ x', (IntKind.wrap .u64 r0).tmod 250 = x' ∧ 0 ≤ x' ∧ x' < 250 := ⟨_, rfl, u64_tmod _ _ (by omega)⟩
  have w1 := wrap_i64 (n := m) (by omega)
  have w2 := wrap_i64 (n := 1 + m) (by omega)
  have z : ¬ ((250 : Int) = 0) := by decide
  have z256 : ¬ ((256 : Int) = 0) := by decide
  simp (maxSteps := 200000) -implicitDefEqProofs only [KA, KB, KC, KD, KE, KF, eq_self, ne_eq, ↓reduceIte, Nat.reduceLT, Nat.reduceEqDiff, Nat.reduceAdd, Nat.reduceLeDiff, Nat.reduceSub, Nat.reduceMul, reduceCtorEq, hlen, c15, hm, w1, w2, z]
  refine pnew_ok (k := k + 6) (fun _ _ h1 s hs1 f1 n1 => ?_) (fun hm => absurd ⟨⟨by omega, by omega⟩, by omega, by omega⟩ hm)
  simp (maxSteps := 200000) -implicitDefEqProofs only [KA, KB, KC, KD, KE, KF, eq_self, ne_eq, ↓reduceIte, Nat.reduceLT, Nat.reduceEqDiff, Nat.reduceAdd, Nat.reduceLeDiff, Nat.reduceSub, Nat.reduceMul, reduceCtorEq, hlen]
  generalize hrk : 1 + m = rank at *
  refine loop_rd (callW_mono N _) (BesA s rank v l0 h) (n := l0.length) ⟨0, .nils, h1, _, _, rfl, by omega, by omega, hs1, Iv.nil _ _, fun _ h => h.elim, f1, rfl, rfl, rfl, rfl, rfl, rfl⟩ ?_
  clear hs1 f1
  rintro n st ⟨i, u, h2, l, lc, rfl, hi, hn, hs2, iv2, hid, hf2, e0, e5, e6, e30, e31, e32⟩
  have hx := xOf_ok l0
  have hlr := leastP_rk rank (xOf l0) i
  have hlp := leastP_pos (x := xOf l0) (rank := rank) (by omega) (fun j => (hx j).1) i
  by_cases hlt : (i : Int) < l0.length
  · have hil : i < l0.length := by omega
    obtain ⟨y, hy⟩ : ∃ y, l0[i]? = some y := ⟨_, List.getElem?_eq_getElem hil⟩
    have hrow : (l0.map encI)[((i : Int)).toNat]? = some [.int .i64 y] := by simp [hy, encI]
    obtain ⟨p1, p2, p3, a1, a2⟩ := (hv.new hf2).at (by omega) hrow
    have hxy : (IntKind.wrap .u64 y).tmod 256 = xOf l0 i := by unfold xOf; rw [hy]; rfl
    have hxi := hx i
    have w3 := wrap_i64 (n := xOf l0 i) (by omega)
    have w4 := wrap_i64 (n := xOf l0 i + 1) (by omega)
    have w5 := wrap_i64 (n := (i : Int) + 1) (by omega)
    simp (maxSteps := 200000) -implicitDefEqProofs only [KA, KB, KC, KD, KE, KF, eq_self, ne_eq, ↓reduceIte, Nat.reduceLT, Nat.reduceEqDiff, Nat.reduceAdd, Nat.reduceLeDiff, Nat.reduceSub, Nat.reduceMul, reduceCtorEq, e0, e5, e6, e30, e31, e32, hlt, a1, a2, hxy, w3, z256]
    refine hear_ok (k := k + 1) hs2 iv2 (by omega) fun h3 v3 hs3 f3 i3 => ?_
    have iv3 := iv2.hear (by omega) i (xOf l0 i) 5
    rw [best_step hx (by omega)] at hs3 iv3 ⊢
    simp only at hs3 iv3
    have hle : min (leastP rank (xOf l0) i) (xOf l0 i + 1) = leastP rank (xOf l0) (i + 1) := rfl
    have hf3 : Fn h h3 := hf2.comp f3 (fun j hj e => by
      rcases e with e | e
      · omega
      · have := hid j e; omega)
    simp (maxSteps := 200000) -implicitDefEqProofs only [KA, KB, KC, KD, KE, KF, eq_self, ne_eq, ↓reduceIte, Nat.reduceLT, Nat.reduceEqDiff, Nat.reduceAdd, Nat.reduceLeDiff, Nat.reduceSub, Nat.reduceMul, reduceCtorEq, w4, w5, hle, rd_n]
    exact ⟨n - 1, by omega, i + 1, v3, h3, _, _, rfl, by omega, by omega, hs3, iv3.1, (fun j hj => (i3 j hj).elim (hid j) (fun e => Nat.le_trans hf2.n e)), hf3, rfl, rfl, rfl, rfl, rfl, rfl⟩
  · have hil : i = l0.length := by omega
    subst hil
    simp (maxSteps := 200000) -implicitDefEqProofs only [KA, KB, KC, KD, KE, KF, eq_self, ne_eq, ↓reduceIte, Nat.reduceLT, Nat.reduceEqDiff, Nat.reduceAdd, Nat.reduceLeDiff, Nat.reduceSub, Nat.reduceMul, reduceCtorEq, e0, e5, e6, e30, e31, e32, hlt, hlen]
    clear e0 e5 e6 e30 e31 e32
    generalize hmm : leastP rank (xOf l0) l0.length = lm at *
    refine loop_rd (callW_mono N _) (BesB s lm v l0 h2) (n := l0.length) ⟨0, _, _, rfl, by omega, by omega, rfl, rfl, rfl, rfl, rfl, rfl⟩ ?_
    rintro n2 st ⟨j, l, lc, rfl, hj, hn2, e5, e6, e9, e50, e51, e52⟩
    have hsl := selP_len (xOf l0) j lm
    by_cases hlt2 : (j : Int) < l0.length
    · have hjl : j < l0.length := by omega
      obtain ⟨y, hy⟩ : ∃ y, l0[j]? = some y := ⟨_, List.getElem?_eq_getElem hjl⟩
      have hrow : (l0.map encI)[((j : Int)).toNat]? = some [.int .i64 y] := by simp [hy, encI]
      obtain ⟨p1, p2, p3, a1, a2⟩ := (hv.new hf2).at (by omega) hrow
      have hxy : (IntKind.wrap .u64 y).tmod 256 = xOf l0 j := by unfold xOf; rw [hy]; rfl
      have hxi := hx j
      have w3 := wrap_i64 (n := xOf l0 j) (by omega)
      have w5 := wrap_i64 (n := (j : Int) + 1) (by omega)
      have w6 := wrap_i64 (n := ((selP (xOf l0) j lm).length : Int) + 1) (by omega)
      by_cases c : xOf l0 j < lm
      · simp (maxSteps := 200000) -implicitDefEqProofs only [KA, KB, KC, KD, KE, KF, eq_self, ne_eq, ↓reduceIte, Nat.reduceLT, Nat.reduceEqDiff, Nat.reduceAdd, Nat.reduceLeDiff, Nat.reduceSub, Nat.reduceMul, reduceCtorEq, e5, e6, e9, e50, e51, e52, hlt2, a1, a2, hxy, w3, w5, w6, z256, c, rd_n]
        exact ⟨n2 - 1, by omega, j + 1, _, _, rfl, by omega, by omega, rfl, rfl, by rw [selP_succ, if_pos c, List.length_append]; rfl, rfl, rfl, rfl⟩
      · simp (maxSteps := 200000) -implicitDefEqProofs only [KA, KB, KC, KD, KE, KF, eq_self, ne_eq, ↓reduceIte, Nat.reduceLT, Nat.reduceEqDiff, Nat.reduceAdd, Nat.reduceLeDiff, Nat.reduceSub, Nat.reduceMul, reduceCtorEq, e5, e6, e9, e50, e51, e52, hlt2, a1, a2, hxy, w3, w5, z256, c, rd_n]
        exact ⟨n2 - 1, by omega, j + 1, _, _, rfl, by omega, by omega, rfl, rfl, by rw [selP_succ, if_neg c, List.append_nil]; rfl, rfl, rfl, rfl⟩
    · have hjl : j = l0.length := by omega
      subst hjl
      simp (maxSteps := 200000) -implicitDefEqProofs only [KA, KB, KC, KD, KE, KF, eq_self, ne_eq, ↓reduceIte, Nat.reduceLT, Nat.reduceEqDiff, Nat.reduceAdd, Nat.reduceLeDiff, Nat.reduceSub, Nat.reduceMul, reduceCtorEq, e5, e6, e9, e50, e51, e52, hlt2]
      refine first_ok (k := k + 7) hs2 ?_
      simp (maxSteps := 200000) -implicitDefEqProofs only [KA, KB, KC, KD, KE, KF, eq_self, ne_eq, ↓reduceIte, Nat.reduceLT, Nat.reduceEqDiff, Nat.reduceAdd, Nat.reduceLeDiff, Nat.reduceSub, Nat.reduceMul, reduceCtorEq]
      have hl3 : ((selP (xOf l0) l0.length lm).take 3).length ≤ 3 := List.length_take_le _ _
      refine rankOf_ok (k := k + 7) hs2 (by omega) ?_
      simp (maxSteps := 200000) -implicitDefEqProofs only [KA, KB, KC, KD, KE, KF, eq_self, ne_eq, ↓reduceIte, Nat.reduceLT, Nat.reduceEqDiff, Nat.reduceAdd, Nat.reduceLeDiff, Nat.reduceSub, Nat.reduceMul, reduceCtorEq]
      refine rank_ok (k := k + 7) hs2 ?_
      have dl : decide (lm = lm) = true := by simp
      simp (maxSteps := 200000) -implicitDefEqProofs only [KA, KB, KC, KD, KE, KF, eq_self, ne_eq, ↓reduceIte, Nat.reduceLT, Nat.reduceEqDiff, Nat.reduceAdd, Nat.reduceLeDiff, Nat.reduceSub, Nat.reduceMul, reduceCtorEq, dl]
      refine all_ok (k := k + 7) hs2 (by omega) fun h4 w4 sw4 f4 => ?_
      have len4 : ∀ h' : Hp, lenT h' .sl (.v (.c w4)) = some (min ((selP (xOf l0) l0.length lm).length : Int) 3) := fun h' => by rw [sw4.len h', List.length_map, List.length_map, List.length_take]; congr 1; omega
      have dm : decide (min ((selP (xOf l0) l0.length lm).length : Int) 3 = min ((selP (xOf l0) l0.length lm).length : Int) 3) = true := by simp
      have w7 := wrap_i64 (n := lm - 1) (by omega)
      have bt : (true == true) = true := rfl
      have bf : (false == false) = true := rfl
      have hS : ∀ p ∈ selP (xOf l0) l0.length lm, p.r = lm - 1 := by
        intro p hp
        obtain ⟨j, h1, h2, rfl⟩ := mem_selP.mp hp
        have := leastP_le rank (xOf l0) l0.length j h1
        rw [hmm] at this
        simp only
        omega
      generalize selP (xOf l0) l0.length lm = S at *
      cases S with
      | nil =>
        have z0 : ¬ ((0 : Int) < (([] : List Pr).length : Int)) := by simp
        have eh : Option.isSome (([] : List Pr).head?) = false := rfl
        generalize ((([] : List Pr).length : Int)) = q at *
        simp (maxSteps := 200000) -implicitDefEqProofs only [KA, KB, KC, KD, KE, KF, eq_self, ne_eq, ↓reduceIte, Nat.reduceLT, Nat.reduceEqDiff, Nat.reduceAdd, Nat.reduceLeDiff, Nat.reduceSub, Nat.reduceMul, reduceCtorEq, len4, dm, eh, z0, bf]
        refine awakeP_ok (k := k) fun h' _ => ?_
        simp (maxSteps := 200000) -implicitDefEqProofs only [KA, KB, KC, KD, KE, KF, eq_self, ne_eq, ↓reduceIte, Nat.reduceLT, Nat.reduceEqDiff, Nat.reduceAdd, Nat.reduceLeDiff, Nat.reduceSub, Nat.reduceMul, reduceCtorEq]
        exact hP _
      | cons p S =>
        have z0 : (0 : Int) < ((p :: S).length : Int) := by simp only [List.length_cons]; omega
        have eh : (Option.isSome (((p :: S).take 3).head?)) = true := rfl
        have eh2 : (Option.map (fun x : Pr => x.n) ((p :: S).take 3).head?).getD 0 = p.n := rfl
        have er : rankOf ((p :: S).take 3) p.n = some (lm - 1) := by
          unfold rankOf
          rw [List.take_succ_cons, List.find?_cons_of_pos (by simp)]
          rw [Option.map_some, hS p (by simp)]
        have er1 : (some (lm - 1)).isSome = true := rfl
        have er2 : (some (lm - 1)).getD 0 = lm - 1 := rfl
        have dr : decide (lm - 1 = lm - 1) = true := by simp
        rw [eh2, er, er1, er2]
        generalize (((p :: S).length : Int)) = q at *
        generalize (p :: S).take 3 = T at *
        simp (maxSteps := 200000) -implicitDefEqProofs only [KA, KB, KC, KD, KE, KF, eq_self, ne_eq, ↓reduceIte, Nat.reduceLT, Nat.reduceEqDiff, Nat.reduceAdd, Nat.reduceLeDiff, Nat.reduceSub, Nat.reduceMul, reduceCtorEq, len4, dm, eh, z0, bt, w7, dr]
        refine awakeP_ok (k := k) fun h' _ => ?_
        simp (maxSteps := 200000) -implicitDefEqProofs only [KA, KB, KC, KD, KE, KF, eq_self, ne_eq, ↓reduceIte, Nat.reduceLT, Nat.reduceEqDiff, Nat.reduceAdd, Nat.reduceLeDiff, Nat.reduceSub, Nat.reduceMul, reduceCtorEq]
        exact hP _
end
end Camp

/-! CvParA -/
namespace Camp
open Go
set_option linter.unusedVariables false
set_option linter.unusedSimpArgs false
set_option maxHeartbeats 4000000
structure Cl where
  old : Bool
  n : Int
  r : Int
  now : Int
  loss : Int
def encC (c : Cl) : List CV := [.bool c.old, .int .i64 c.n, .int .i64 c.r, .int .i64 c.now, .int .i64 c.loss]
def okC (c : Cl) : Prop := (-9223372036854775808 ≤ c.now ∧ c.now ≤ 9223372036854775807) ∧ c.loss ≤ 9223372036854775807
theorem wf_i64 {n : Int} (h : (Lit.int .i64 n).wf = true) : -9223372036854775808 ≤ n ∧ n ≤ 9223372036854775807 := by
  simp only [Lit.wf, Bool.and_eq_true, decide_eq_true_eq] at h
  exact h
theorem sl_take {h : Hp} {sz id n : Nat} {rows : List (List CV)} (e : h.obs[id]? = some (.rows false sz 0 0 rows)) (hn : n ≤ rows.length) (c : Option Nat) : SL h sz (.sl id 0 0 n c) (rows.take n) :=
  ⟨false, 0, 0, rows, by rw [g_def] at *; exact e, Nat.le_refl _, by omega, by simp⟩
theorem wtr_pcalls {hp : Hp} {rows : List (List CV)} {b : Nat} (h : WTR hp [.bool, .int .i64, .int .i64, .int .i64, .int .i64] rows b) : ∃ L : List Cl, rows = L.map encC ∧ ∀ c ∈ L, okC c := by
  induction rows generalizing b with
  | nil => exact ⟨[], rfl, by simp⟩
  | cons r rs ih =>
    cases h with
    | cons h1 h2 =>
      obtain ⟨L, rfl, hL⟩ := ih h2
      cases h1 with
      | bool h1 => cases h1 with
        | int _ h1 => cases h1 with
          | int _ h1 => cases h1 with
            | int q1 h1 => cases h1 with
              | int q2 h1 =>
                cases h1
                refine ⟨⟨_, _, _, _, _⟩ :: L, rfl, ?_⟩
                intro c hc
                rcases List.mem_cons.mp hc with rfl | hc
                · exact ⟨wf_i64 q1, (wf_i64 q2).2⟩
                · exact hL c hc
theorem wt_pcalls {hp : Hp} {w : CV} {b : Nat} (h : WT hp [.sl [.bool, .int .i64, .int .i64, .int .i64, .int .i64]] [w] b) : ∃ C : List Cl, SL hp 5 w (C.map encC) ∧ ∀ c ∈ C, okC c := by
  cases h with
  | nils h => exact ⟨[], rfl, by simp⟩
  | sl e hn hr h =>
    rename_i id n c rows b'
    obtain ⟨C, rfl, hC⟩ := wtr_pcalls hr
    refine ⟨C.take n, ?_, fun c hc => hC c (List.mem_of_mem_take hc)⟩
    have := sl_take e hn (some (C.map encC).length)
    rw [List.map_take]
    exact this
theorem wtr_ints {hp : Hp} {rows : List (List CV)} {b : Nat} (h : WTR hp [.int .i64] rows b) : ∃ L : List Int, rows = L.map encI := by
  induction rows generalizing b with
  | nil => exact ⟨[], rfl⟩
  | cons r rs ih =>
    cases h with
    | cons h1 h2 =>
      obtain ⟨L, rfl⟩ := ih h2
      cases h1 with
      | int _ h1 => cases h1; exact ⟨_ :: L, rfl⟩
theorem wt_ints {hp : Hp} {w : CV} {b : Nat} (h : WT hp [.sl [.int .i64]] [w] b) : ∃ C : List Int, SL hp 1 w (C.map encI) := by
  cases h with
  | nils h => exact ⟨[], rfl⟩
  | sl e hn hr h =>
    rename_i id n c rows b'
    obtain ⟨C, rfl⟩ := wtr_ints hr
    refine ⟨C.take n, ?_⟩
    have := sl_take e hn (some (C.map encI).length)
    rw [List.map_take]
    exact this
theorem rankOf_mem {L : List Pr} (hn : (L.map (·.n)).Nodup) {i : Nat} {x : Pr} (hx : L[i]? = some x) : rankOf L x.n = some x.r := by
  have hil : i < L.length := by
    rcases Nat.lt_or_ge i L.length with h | h
    · exact h
    · rw [List.getElem?_eq_none h] at hx; cases hx
  have hdr : L.drop i = x :: L.drop (i + 1) := by
    rw [List.drop_eq_getElem_cons hil]
    rw [List.getElem?_eq_getElem hil] at hx
    injection hx with hx
    rw [hx]
  unfold rankOf
  have hno : (L.take i).find? (fun y => y.n == x.n) = none := by
    rw [List.find?_eq_none]
    intro y hy hyx
    rw [← List.take_append_drop i L, hdr, List.map_append, List.nodup_append] at hn
    exact hn.2.2 y.n (List.mem_map_of_mem hy) x.n (by simp) (by simpa using hyx)
  rw [← List.take_append_drop i L, List.find?_append, hno, hdr, List.find?_cons_of_pos (by simp)]
  rfl
section
variable {k : Nat} {h : Hp} {P : AV → Hp → Prop}
def FalI (s : Nat) (me : Int) (v : CV) (C : List Cl) (h : Hp) (n : Nat) (st : St) : Prop :=
  ∃ (i : Nat) (rk : Int) (u : CV) (L : List Pr) (h' : Hp) (l : List (Nat × TV)) (lc : List (List CV)), st = ST 123 l lc h' ∧ i ≤ C.length ∧ n = C.length - i ∧ PS h' s me rk u L ∧ Iv me rk L ∧ (0 ≤ rk ∧ rk ≤ 255) ∧ (∀ j, ownId u j → h.n ≤ j) ∧ Fn h h' ∧
    lk l 0 = .v (.c (.int .i64 me)) ∧ lk l 7 = .v (.c (.ptr s 0 0 0)) ∧ lk l 8 = .v (.c (.int .i64 rk)) ∧ lk l 33 = .v (.c v) ∧ lk l 34 = .v (.c (.int .i64 C.length)) ∧ lk l 35 = .v (.c (.int .i64 i))
def FalJ (s : Nat) (me rk : Int) (v w : CV) (C : List Cl) (L : List Pr) (i : Nat) (h' : Hp) (n : Nat) (st : St) : Prop :=
  ∃ (j : Nat) (bf : Int) (l : List (Nat × TV)) (lc : List (List CV)), st = ST 123 l lc h' ∧ j ≤ L.length ∧ n = L.length - j ∧ (∀ x, L[j]? = some x → bf ≤ x.r) ∧
    lk l 0 = .v (.c (.int .i64 me)) ∧ lk l 7 = .v (.c (.ptr s 0 0 0)) ∧ lk l 8 = .v (.c (.int .i64 rk)) ∧ lk l 12 = .v (.c (.int .i64 bf)) ∧ lk l 33 = .v (.c v) ∧ lk l 34 = .v (.c (.int .i64 C.length)) ∧ lk l 35 = .v (.c (.int .i64 i)) ∧ lk l 71 = .v (.c w) ∧ lk l 72 = .v (.c (.int .i64 L.length)) ∧ lk l 73 = .v (.c (.int .i64 j))
theorem parentsFall_ok {me0 r0 : Int} {v : CV} {C : List Cl} (hC : SL h 5 v (C.map encC)) (hok : ∀ c ∈ C, okC c) (hP : ∀ h', P (.c (.bool true)) h') : callW N (k + 9) 68 [.c (.int .i64 me0), .c (.int .i64 r0), .c v] h P := by
  have hlen : ∀ h' : Hp, lenT h' .sl (.v (.c v)) = some (C.length : Int) := fun h' => by rw [hC.len h', List.length_map]
  obtain ⟨me, hm, hm1, hm2⟩ : ∃ x', (IntKind.wrap .u64 me0).tmod 16 = x' ∧ 0 ≤ x' ∧ x' < 16 := ⟨_, rfl, u64_tmod _ _ (by omega)⟩
  obtain ⟨rk0, hr, hr1, hr2⟩ : ∃ x', (IntKind.wrap .u64 r0).tmod 256 = x' ∧ 0 ≤ x' ∧ x' < 256 := ⟨_, rfl, u64_tmod _ _ (by omega)⟩
  have w1 := wrap_i64 (n := me) (by omega)
  have w2 := wrap_i64 (n := rk0) (by omega)
  have z16 : ¬ ((16 : Int) = 0) := by decide
  have z256 : ¬ ((256 : Int) = 0) := by decide
  refine call_intro rfl (by simp only [List.length_cons, List.length_nil]; omega) ?_
  simp (maxSteps := 200000) -implicitDefEqProofs only [KA, KB, KC, KD, KE, KF, eq_self, ne_eq, ↓reduceIte, Nat.reduceLT, Nat.reduceEqDiff, Nat.reduceAdd, Nat.reduceLeDiff, Nat.reduceSub, Nat.reduceMul, reduceCtorEq, hm, hr, w1, w2, z16, z256]
  refine pnew_ok (k := k + 6) (fun _ _ h1 s hs1 f1 n1 => ?_) (fun hm => absurd ⟨⟨by omega, by omega⟩, by omega, by omega⟩ hm)
  simp (maxSteps := 200000) -implicitDefEqProofs only [KA, KB, KC, KD, KE, KF, eq_self, ne_eq, ↓reduceIte, Nat.reduceLT, Nat.reduceEqDiff, Nat.reduceAdd, Nat.reduceLeDiff, Nat.reduceSub, Nat.reduceMul, reduceCtorEq, hlen]
  refine loop_rd (callW_mono N _) (FalI s me v C h) (n := C.length) ⟨0, rk0, .nils, [], h1, _, _, rfl, by omega, by omega, hs1, Iv.nil _ _, by omega, fun _ h => h.elim, f1, rfl, rfl, rfl, rfl, rfl, rfl⟩ ?_
  clear hs1 f1 hr1 hr2 w2 hr
  rintro n st ⟨i, rk, u, L, h2, l, lc, rfl, hi, hn, hs2, iv2, hrk, hid, hf2, e0, e7, e8, e33, e34, e35⟩
  have row : (i : Int) < C.length → ∃ c p1 p2 p3, C[i]? = some c ∧ iaddrT h2 5 (.v (.c v)) i = some (.v (.c (.ptr p1 p2 p3 0))) ∧ rowO (h2.g p1) p2 p3 = some [.bool c.old, .int .i64 c.n, .int .i64 c.r, .int .i64 c.now, .int .i64 c.loss] := by
    intro hlt
    have hil : i < C.length := by omega
    obtain ⟨c, hc⟩ : ∃ c, C[i]? = some c := ⟨_, List.getElem?_eq_getElem hil⟩
    have hr : (C.map encC)[(i : Int).toNat]? = some (encC c) := by simp [hc]
    obtain ⟨p1, p2, p3, a1, a2⟩ := (hC.new hf2).at (by omega) hr
    exact ⟨c, p1, p2, p3, hc, a1, a2⟩
  by_cases go : (i : Int) < C.length ∧ ¬ (300 : Int) ≤ i
  · obtain ⟨hlt, h300⟩ := go
    obtain ⟨⟨old, cn, cr, now, loss⟩, p1, p2, p3, hc, a1, a2⟩ := row hlt
    have hcok := hok _ (List.mem_of_getElem? hc)
    simp only at a2
    have hw := wrap_i64 (n := (i : Int) + 1) (by omega)
    cases old
    case' true =>
      simp (maxSteps := 200000) -implicitDefEqProofs only [KA, KB, KC, KD, KE, KF, eq_self, ne_eq, ↓reduceIte, Nat.reduceLT, Nat.reduceEqDiff, Nat.reduceAdd, Nat.reduceLeDiff, Nat.reduceSub, Nat.reduceMul, reduceCtorEq, e0, e7, e8, e33, e34, e35, hlt, a1, a2, h300]
      refine old_ok (k := k + 1) hs2 iv2 hcok.1.2 hcok.2 fun h3 v3 w3 T hs3 _ _ _ f3 i3 _ => ?_
      obtain ⟨rk', hrk'⟩ : ∃ rk', rk' = rk := ⟨_, rfl⟩
      have iv3 := iv2.kept now loss
      rw [← hrk'] at hs3 iv3
      have hle : 0 ≤ rk' ∧ rk' ≤ rk := by omega
      generalize keptP L now loss = L3 at *
      clear hrk'
    case' false =>
      simp (maxSteps := 200000) -implicitDefEqProofs only [KA, KB, KC, KD, KE, KF, eq_self, ne_eq, ↓reduceIte, Nat.reduceLT, Nat.reduceEqDiff, Nat.reduceAdd, Nat.reduceLeDiff, Nat.reduceSub, Nat.reduceMul, reduceCtorEq, e0, e7, e8, e33, e34, e35, hlt, a1, a2, h300]
      refine hear_ok (k := k + 1) hs2 iv2 hrk fun h3 v3 hs3 f3 i3 => ?_
      have iv3' := iv2.hear hrk cn cr now
      have iv3 := iv3'.1
      have hle := iv3'.2
      clear iv3'
      generalize (hearS me rk L cn cr now).1 = rk' at *
      generalize (hearS me rk L cn cr now).2.1 = L3 at *
    all_goals
      have hf3 : Fn h h3 := hf2.comp f3 (fun j hj e => by
        rcases e with e | e
        · omega
        · have := hid j e; omega)
      have hid3 : ∀ j, ownId v3 j → h.n ≤ j := fun j hj => (i3 j hj).elim (hid j) (fun e => Nat.le_trans hf2.n e)
      have hl3 := iv3.len
      clear e0 e7 e8 e33 e34 e35
      simp (maxSteps := 200000) -implicitDefEqProofs only [KA, KB, KC, KD, KE, KF, eq_self, ne_eq, ↓reduceIte, Nat.reduceLT, Nat.reduceEqDiff, Nat.reduceAdd, Nat.reduceLeDiff, Nat.reduceSub, Nat.reduceMul, reduceCtorEq]
      refine all_ok (k := k + 7) hs3 (by omega) fun h4 w4 sw4 f4 => ?_
      have hs4 := hs3.new f4
      have len4 : ∀ h' : Hp, lenT h' .sl (.v (.c w4)) = some (L3.length : Int) := fun h' => by rw [sw4.len h', List.length_map, List.length_map]
      simp (maxSteps := 200000) -implicitDefEqProofs only [KA, KB, KC, KD, KE, KF, eq_self, ne_eq, ↓reduceIte, Nat.reduceLT, Nat.reduceEqDiff, Nat.reduceAdd, Nat.reduceLeDiff, Nat.reduceSub, Nat.reduceMul, reduceCtorEq]
      refine rank_ok (k := k + 7) hs4 ?_
      have z1 : ¬ (rk < rk') := by omega
      have z3 : ¬ (3 < (L3.length : Int)) := by omega
      simp (maxSteps := 200000) -implicitDefEqProofs only [KA, KB, KC, KD, KE, KF, eq_self, ne_eq, ↓reduceIte, Nat.reduceLT, Nat.reduceEqDiff, Nat.reduceAdd, Nat.reduceLeDiff, Nat.reduceSub, Nat.reduceMul, reduceCtorEq, z1, len4, z3]
      refine rank_ok (k := k + 7) hs4 ?_
      simp (maxSteps := 200000) -implicitDefEqProofs only [KA, KB, KC, KD, KE, KF, eq_self, ne_eq, ↓reduceIte, Nat.reduceLT, Nat.reduceEqDiff, Nat.reduceAdd, Nat.reduceLeDiff, Nat.reduceSub, Nat.reduceMul, reduceCtorEq, len4]
      refine loop_rd (callW_mono N _) (FalJ s me rk' v w4 C L3 i h4) (n := L3.length) ⟨0, -1, _, _, rfl, by omega, by omega, ?_, rfl, rfl, rfl, rfl, rfl, rfl, rfl, rfl, rfl, rfl⟩ ?_
      · intro x hx
        have := (iv3.mem x (List.mem_of_getElem? hx)).2.2.1
        omega
      rintro n2 st ⟨j, bf, l, lc, rfl, hj, hn2, hbf, e0, e7, e8, e12, e33, e34, e35, e71, e72, e73⟩
      by_cases hlt2 : (j : Int) < L3.length
      · have hjl : j < L3.length := by omega
        obtain ⟨x, hx⟩ : ∃ x, L3[j]? = some x := ⟨_, List.getElem?_eq_getElem hjl⟩
        have hrow2 : ((L3.map (·.n)).map encI)[(j : Int).toNat]? = some [.int .i64 x.n] := by simp [hx, encI]
        obtain ⟨q1, q2, q3, b1, b2⟩ := sw4.at (by omega) hrow2
        have hwj := wrap_i64 (n := (j : Int) + 1) (by omega)
        have hxm := iv3.mem x (List.mem_of_getElem? hx)
        simp (maxSteps := 200000) -implicitDefEqProofs only [KA, KB, KC, KD, KE, KF, eq_self, ne_eq, ↓reduceIte, Nat.reduceLT, Nat.reduceEqDiff, Nat.reduceAdd, Nat.reduceLeDiff, Nat.reduceSub, Nat.reduceMul, reduceCtorEq, e0, e7, e8, e12, e33, e34, e35, e71, e72, e73, hlt2, b1, b2]
        refine rankOf_ok (k := k + 7) hs4 (by omega) ?_
        rw [rankOf_mem iv3.nd hx]
        have er1 : (some x.r).isSome = true := rfl
        have er2 : (some x.r).getD 0 = x.r := rfl
        simp (maxSteps := 200000) -implicitDefEqProofs only [KA, KB, KC, KD, KE, KF, eq_self, ne_eq, ↓reduceIte, Nat.reduceLT, Nat.reduceEqDiff, Nat.reduceAdd, Nat.reduceLeDiff, Nat.reduceSub, Nat.reduceMul, reduceCtorEq, er1, er2]
        refine first_ok (k := k + 7) hs4 ?_
        have eh : L3.head?.isSome = true := by
          cases L3 with
          | nil => simp at hjl
          | cons a L => rfl
        have y1 : ¬ (rk' ≤ x.r) := by omega
        have y2 : ¬ (x.r < bf) := by have := hbf x hx; omega
        have y3 : ¬ (x.n = me) := hxm.2.1
        have nxt : ∀ y, L3[j + 1]? = some y → x.r ≤ y.r := by
          intro y hy
          have h1 := List.pairwise_iff_getElem.mp iv3.lt
          obtain ⟨i1, i2⟩ := List.getElem?_eq_some_iff.mp hx
          obtain ⟨i3, i4⟩ := List.getElem?_eq_some_iff.mp hy
          have := h1 j (j + 1) i1 i3 (by omega)
          rw [i2, i4] at this
          unfold ltP at this
          omega
        by_cases y4 : (j : Int) = 0
        · have d4 : decide ((j : Int) = 0) = true := decide_eq_true y4
          have d5 : decide ((Option.map (fun x : Pr => x.n) L3.head?).getD 0 = x.n) = true := by
            have : j = 0 := by omega
            subst this
            cases L3 with
            | nil => cases hx
            | cons a L => injection hx with hx; subst hx; simp
          simp (maxSteps := 200000) -implicitDefEqProofs only [KA, KB, KC, KD, KE, KF, eq_self, ne_eq, ↓reduceIte, Nat.reduceLT, Nat.reduceEqDiff, Nat.reduceAdd, Nat.reduceLeDiff, Nat.reduceSub, Nat.reduceMul, reduceCtorEq, eh, y1, y2, y3, d4, d5, hwj, rd_n]
          exact ⟨n2 - 1, by omega, j + 1, x.r, _, _, rfl, by omega, by omega, nxt, rfl, rfl, rfl, rfl, rfl, rfl, rfl, rfl, rfl, rfl⟩
        · simp (maxSteps := 200000) -implicitDefEqProofs only [KA, KB, KC, KD, KE, KF, eq_self, ne_eq, ↓reduceIte, Nat.reduceLT, Nat.reduceEqDiff, Nat.reduceAdd, Nat.reduceLeDiff, Nat.reduceSub, Nat.reduceMul, reduceCtorEq, eh, y1, y2, y3, y4, hwj, rd_n]
          exact ⟨n2 - 1, by omega, j + 1, x.r, _, _, rfl, by omega, by omega, nxt, rfl, rfl, rfl, rfl, rfl, rfl, rfl, rfl, rfl, rfl⟩
      · simp (maxSteps := 200000) -implicitDefEqProofs only [KA, KB, KC, KD, KE, KF, eq_self, ne_eq, ↓reduceIte, Nat.reduceLT, Nat.reduceEqDiff, Nat.reduceAdd, Nat.reduceLeDiff, Nat.reduceSub, Nat.reduceMul, reduceCtorEq, e0, e7, e8, e12, e33, e34, e35, e71, e72, e73, hlt2, hw, rd_n]
        exact ⟨n - 1, by omega, i + 1, rk', v3, L3, h4, _, _, rfl, by omega, by omega, hs4, iv3, by omega, hid3, hf3.trans f4, rfl, rfl, rfl, rfl, rfl, rfl⟩
  · have dd : (¬ (i : Int) < C.length) ∨ ((i : Int) < C.length ∧ (300 : Int) ≤ i ∧ ∃ c p1 p2 p3, C[i]? = some c ∧ iaddrT h2 5 (.v (.c v)) i = some (.v (.c (.ptr p1 p2 p3 0))) ∧ rowO (h2.g p1) p2 p3 = some [.bool c.old, .int .i64 c.n, .int .i64 c.r, .int .i64 c.now, .int .i64 c.loss]) := by
      by_cases hlt : (i : Int) < C.length
      · exact .inr ⟨hlt, by omega, row hlt⟩
      · exact .inl hlt
    rcases dd with hlt | ⟨hlt, h300, c, p1, p2, p3, _, a1, a2⟩
    all_goals first | simp (maxSteps := 200000) -implicitDefEqProofs only [KA, KB, KC, KD, KE, KF, eq_self, ne_eq, ↓reduceIte, Nat.reduceLT, Nat.reduceEqDiff, Nat.reduceAdd, Nat.reduceLeDiff, Nat.reduceSub, Nat.reduceMul, reduceCtorEq, e0, e7, e8, e33, e34, e35, hlt, a1, a2, h300] | simp (maxSteps := 200000) -implicitDefEqProofs only [KA, KB, KC, KD, KE, KF, eq_self, ne_eq, ↓reduceIte, Nat.reduceLT, Nat.reduceEqDiff, Nat.reduceAdd, Nat.reduceLeDiff, Nat.reduceSub, Nat.reduceMul, reduceCtorEq, e0, e7, e8, e33, e34, e35, hlt]
    all_goals
      refine awakeP_ok (k := k) fun h' _ => ?_
      simp (maxSteps := 200000) -implicitDefEqProofs only [KA, KB, KC, KD, KE, KF, eq_self, ne_eq, ↓reduceIte, Nat.reduceLT, Nat.reduceEqDiff, Nat.reduceAdd, Nat.reduceLeDiff, Nat.reduceSub, Nat.reduceMul, reduceCtorEq]
      exact hP _
end
end Camp
