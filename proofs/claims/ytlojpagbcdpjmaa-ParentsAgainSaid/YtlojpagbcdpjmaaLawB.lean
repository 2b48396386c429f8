/- Parents: the law of the old ones. Parents: the law of who is heard again. -/
import Derived.Test.YtlojpagbcdpjmaaLaw

set_option linter.unnecessarySimpa false
set_option linter.unusedVariables false
set_option linter.unusedSimpArgs false
set_option linter.unusedSectionVars false
/-! CvPar7 -/
namespace Camp
open Go
set_option linter.unusedVariables false
set_option linter.unusedSimpArgs false
set_option maxHeartbeats 4000000
section
variable {k : Nat} {h : Hp} {P : AV → Hp → Prop} {s : Nat} {me rank : Int} {v : CV} {L : List Pr}
theorem hears1 (x : Int) (hx : 0 ≤ x) : hearS 9 200 [] 1 5 x = (6, [⟨5, 1, x⟩], true) := by
  have hm : mayP 9 1 5 x := ⟨by omega, by omega, by omega, by omega⟩
  unfold hearS
  rw [if_pos hm]
  rfl
theorem hears2 (x y : Int) (hy : 0 ≤ y) : hearS 9 6 [⟨5, 1, x⟩] 2 5 y = (6, [⟨5, 1, x⟩, ⟨5, 2, y⟩], true) := by
  have hm : mayP 9 2 5 y := ⟨by omega, by omega, by omega, by omega⟩
  unfold hearS
  rw [if_pos hm]
  rfl
theorem parentsOld_ok {a b loss0 now0 : Int} (hP : ∀ h', P (.c (.bool true)) h') : callW N (k + 9) 69 [.c (.int .i64 a), .c (.int .i64 b), .c (.int .i64 loss0), .c (.int .i64 now0)] h P := by
  obtain ⟨now, hn, hn1, hn2⟩ : ∃ x', (IntKind.wrap .u64 now0).tmod 1000 = x' ∧ 0 ≤ x' ∧ x' < 1000 := ⟨_, rfl, u64_tmod _ _ (by omega)⟩
  obtain ⟨ls, hl, hl1, hl2⟩ : ∃ x', (IntKind.wrap .u64 loss0).tmod 50 = x' ∧ 0 ≤ x' ∧ x' < 50 := ⟨_, rfl, u64_tmod _ _ (by omega)⟩
  obtain ⟨x, hx, hx1, hx2⟩ : ∃ x', (IntKind.wrap .u64 a).tmod 100 = x' ∧ 0 ≤ x' ∧ x' < 100 := ⟨_, rfl, u64_tmod _ _ (by omega)⟩
  obtain ⟨y, hy, hy1, hy2⟩ : ∃ x', (IntKind.wrap .u64 b).tmod 100 = x' ∧ 0 ≤ x' ∧ x' < 100 := ⟨_, rfl, u64_tmod _ _ (by omega)⟩
  have w1 := wrap_i64 (n := now) (by omega)
  have w2 := wrap_i64 (n := ls) (by omega)
  have w3 := wrap_i64 (n := x) (by omega)
  have w4 := wrap_i64 (n := y) (by omega)
  have w5 := wrap_i64 (n := 1 + ls) (by omega)
  have z1 : ¬ ((1000 : Int) = 0) := by decide
  have z2 : ¬ ((50 : Int) = 0) := by decide
  have z3 : ¬ ((100 : Int) = 0) := by decide
  refine call_intro rfl (by simp only [List.length_cons, List.length_nil]; omega) ?_
  simp (maxSteps := 200000) -implicitDefEqProofs only [KA, KB, KC, KD, KE, KF, eq_self, ne_eq, ↓reduceIte, Nat.reduceLT, Nat.reduceEqDiff, Nat.reduceAdd, Nat.reduceLeDiff, Nat.reduceSub, Nat.reduceMul, reduceCtorEq, hn, hl, hx, hy, w1, w2, w3, w4, w5, z1, z2, z3]
  refine pnew_ok (k := k + 6) (fun _ _ h1 s hs1 f1 n1 => ?_) (fun hm => absurd ⟨⟨by omega, by omega⟩, by omega, by omega⟩ hm)
  simp (maxSteps := 200000) -implicitDefEqProofs only [KA, KB, KC, KD, KE, KF, eq_self, ne_eq, ↓reduceIte, Nat.reduceLT, Nat.reduceEqDiff, Nat.reduceAdd, Nat.reduceLeDiff, Nat.reduceSub, Nat.reduceMul, reduceCtorEq]
  refine hear_ok (k := k + 1) hs1 (Iv.nil _ _) (by omega) fun h2 v2 hs2 f2 i2 => ?_
  have v1 := (Iv.nil 9 200).hear (by omega) 1 5 x
  rw [hears1 x hx1] at hs2 v1 ⊢
  simp only at hs2 v1
  simp (maxSteps := 200000) -implicitDefEqProofs only [KA, KB, KC, KD, KE, KF, eq_self, ne_eq, ↓reduceIte, Nat.reduceLT, Nat.reduceEqDiff, Nat.reduceAdd, Nat.reduceLeDiff, Nat.reduceSub, Nat.reduceMul, reduceCtorEq]
  refine hear_ok (k := k + 1) hs2 v1.1 (by omega) fun h3 v3 hs3 f3 i3 => ?_
  have v2 := v1.1.hear (by omega) 2 5 y
  rw [hears2 x y hy1] at hs3 v2 ⊢
  simp only at hs3 v2
  have wx := wrap_i64 (n := now - x) (by omega)
  have wy := wrap_i64 (n := now - y) (by omega)
  have key : ∀ (W : List Int), W = (if 1 + ls ≤ now - x then [1] else []) ++ (if 1 + ls ≤ now - y then [2] else []) → (goneP [⟨5, 1, x⟩, ⟨5, 2, y⟩] now (1 + ls)).map (·.n) = W ∧ W.Pairwise (· < ·) ∧ (keptP [⟨5, 1, x⟩, ⟨5, 2, y⟩] now (1 + ls)).length = 2 - W.length ∧ W.length ≤ 2 := by
    rintro W rfl
    have hnow : ¬ now < 0 := by omega
    have m1 : max 1 (1 + ls) = 1 + ls := by omega
    unfold goneP keptP lastP
    rw [if_neg hnow, if_neg hnow, m1]
    by_cases c1 : 1 + ls ≤ now - x
    · by_cases c2 : 1 + ls ≤ now - y
      · simp [List.filter_cons, c1, c2, show x ≤ now - (1 + ls) by omega, show y ≤ now - (1 + ls) by omega]
      · simp [List.filter_cons, c1, c2, show x ≤ now - (1 + ls) by omega, show ¬ y ≤ now - (1 + ls) by omega]
    · by_cases c2 : 1 + ls ≤ now - y
      · simp [List.filter_cons, c1, c2, show ¬ x ≤ now - (1 + ls) by omega, show y ≤ now - (1 + ls) by omega]
      · simp [List.filter_cons, c1, c2, show ¬ x ≤ now - (1 + ls) by omega, show ¬ y ≤ now - (1 + ls) by omega]
  have pre : ∃ (h4 : Hp) (w : CV) (W : List Int), W = (if 1 + ls ≤ now - x then [1] else []) ++ (if 1 + ls ≤ now - y then [2] else []) ∧ Ow h4 1 w (W.map encI) ∧ PS h4 s 9 6 v3 [⟨5, 1, x⟩, ⟨5, 2, y⟩] ∧ (∀ j, ownId w j → h3.n ≤ j) ∧
      ((1 + ls ≤ now - x ∧ ∃ u h5, appT h3 [[.int .i64 1]] 1 8 (.v (.c .nils)) (.lsl 0 1) = some (u, h5) ∧ ((1 + ls ≤ now - y ∧ appT h5 [[.int .i64 2]] 1 8 (.v (.c u)) (.lsl 0 1) = some (w, h4)) ∨ (¬ 1 + ls ≤ now - y ∧ w = u ∧ h4 = h5))) ∨
        (¬ 1 + ls ≤ now - x ∧ ((1 + ls ≤ now - y ∧ appT h3 [[.int .i64 2]] 1 8 (.v (.c .nils)) (.lsl 0 1) = some (w, h4)) ∨ (¬ 1 + ls ≤ now - y ∧ w = .nils ∧ h4 = h3)))) := by
    have o0 : Ow h3 1 .nils ([] : List (List CV)) := rfl
    by_cases c1 : 1 + ls ≤ now - x
    · obtain ⟨u, h5, f1', f2', f3', f4'⟩ := o0.app (lc := [[.int .i64 1]]) (x := .lsl 0 1) (xs := [[.int .i64 1]]) rfl (by simp) (bytes := 8) (by simp [room])
      by_cases c2 : 1 + ls ≤ now - y
      · obtain ⟨u2, h6, g1', g2', g3', g4'⟩ := f2'.app (lc := [[.int .i64 2]]) (x := .lsl 0 1) (xs := [[.int .i64 2]]) rfl (by simp) (bytes := 8) (by simp [room])
        refine ⟨h6, u2, [1, 2], by rw [if_pos c1, if_pos c2]; rfl, g2', ?_, ?_, .inl ⟨c1, u, h5, f1', .inl ⟨c2, g1'⟩⟩⟩
        · refine (hs3.mono f3' (fun e => e) (fun j hj e => e)).mono g3' (fun e => ?_) (fun j hj e => ?_)
          · rcases f4' _ e with e | e
            · exact e
            · have := lt_of_g hs3.1; omega
          · rcases f4' _ e with e | e
            · exact e
            · have := hs3.2.1.lt hj; omega
        · intro j hj
          rcases g4' j hj with e | e
          · rcases f4' _ e with e | e
            · exact e.elim
            · exact e
          · have := f3'.n; omega
      · refine ⟨h5, u, [1], by rw [if_pos c1, if_neg c2]; rfl, f2', hs3.mono f3' (fun e => e) (fun j hj e => e), ?_, .inl ⟨c1, u, h5, f1', .inr ⟨c2, rfl, rfl⟩⟩⟩
        intro j hj
        rcases f4' j hj with e | e
        · exact e.elim
        · exact e
    · by_cases c2 : 1 + ls ≤ now - y
      · obtain ⟨u2, h6, g1', g2', g3', g4'⟩ := o0.app (lc := [[.int .i64 2]]) (x := .lsl 0 1) (xs := [[.int .i64 2]]) rfl (by simp) (bytes := 8) (by simp [room])
        refine ⟨h6, u2, [2], by rw [if_neg c1, if_pos c2]; rfl, g2', hs3.mono g3' (fun e => e) (fun j hj e => e), ?_, .inr ⟨c1, .inl ⟨c2, g1'⟩⟩⟩
        intro j hj
        rcases g4' j hj with e | e
        · exact e.elim
        · exact e
      · exact ⟨h3, .nils, [], by rw [if_neg c1, if_neg c2]; rfl, o0, hs3, fun j hj => hj.elim, .inr ⟨c1, .inr ⟨c2, rfl, rfl⟩⟩⟩
  obtain ⟨h4, w, W, hW, ow, hs4, hidw, ways⟩ := pre
  obtain ⟨k1, k2, k3, k4⟩ := key W hW
  rcases ways with ⟨c1, u, h5, a1, ⟨c2, a2⟩ | ⟨c2, rfl, rfl⟩⟩ | ⟨c1, ⟨c2, a1⟩ | ⟨c2, rfl, rfl⟩⟩
  all_goals first | simp (maxSteps := 200000) -implicitDefEqProofs only [KA, KB, KC, KD, KE, KF, eq_self, ne_eq, ↓reduceIte, Nat.reduceLT, Nat.reduceEqDiff, Nat.reduceAdd, Nat.reduceLeDiff, Nat.reduceSub, Nat.reduceMul, reduceCtorEq, wx, wy, c1, c2, a1, a2] | simp (maxSteps := 200000) -implicitDefEqProofs only [KA, KB, KC, KD, KE, KF, eq_self, ne_eq, ↓reduceIte, Nat.reduceLT, Nat.reduceEqDiff, Nat.reduceAdd, Nat.reduceLeDiff, Nat.reduceSub, Nat.reduceMul, reduceCtorEq, wx, wy, c1, c2, a1] | simp (maxSteps := 200000) -implicitDefEqProofs only [KA, KB, KC, KD, KE, KF, eq_self, ne_eq, ↓reduceIte, Nat.reduceLT, Nat.reduceEqDiff, Nat.reduceAdd, Nat.reduceLeDiff, Nat.reduceSub, Nat.reduceMul, reduceCtorEq, wx, wy, c1, c2]
  all_goals
    refine old_ok (k := k + 1) hs4 v2.1 (by omega) (by omega) fun h6 v6 w6 T hs6 sw pT sT f6 i6 j6 => ?_
    have hTW : T = W := int_eq sT k2 fun z => by rw [pT.mem_iff, k1]
    subst hTW
    have ow6 := ow.sl.mono f6 (fun id tok off len cap e1 e2 => by
      have h1 := hidw id (by rw [e1]; rfl)
      rcases e2 with e2 | e2
      · have := lt_of_g hs3.1; omega
      · have := hs3.2.1.lt e2; omega)
    simp (maxSteps := 200000) -implicitDefEqProofs only [KA, KB, KC, KD, KE, KF, eq_self, ne_eq, ↓reduceIte, Nat.reduceLT, Nat.reduceEqDiff, Nat.reduceAdd, Nat.reduceLeDiff, Nat.reduceSub, Nat.reduceMul, reduceCtorEq]
    refine same_ok (k := k + 7) sw ow6 (by omega) ?_
    simp (maxSteps := 200000) -implicitDefEqProofs only [KA, KB, KC, KD, KE, KF, eq_self, ne_eq, ↓reduceIte, Nat.reduceLT, Nat.reduceEqDiff, Nat.reduceAdd, Nat.reduceLeDiff, Nat.reduceSub, Nat.reduceMul, reduceCtorEq]
    refine all_ok (k := k + 7) hs6 (by omega) fun h7 w7 sw7 f7 => ?_
    have len7 : ∀ h' : Hp, lenT h' .sl (.v (.c w7)) = some (2 - (T.length : Int)) := fun h' => by rw [sw7.len h', List.length_map, List.length_map, k3]; congr 1; omega
    have lenw : ∀ h' : Hp, _ = some (T.length : Int) := fun h' => (ow6.len h').trans (by rw [List.length_map])
    have wl := wrap_i64 (n := 2 - (T.length : Int)) (by omega)
    have dl : decide (2 - (T.length : Int) = 2 - (T.length : Int)) = true := by simp
    simp (maxSteps := 200000) -implicitDefEqProofs only [KA, KB, KC, KD, KE, KF, eq_self, ne_eq, ↓reduceIte, Nat.reduceLT, Nat.reduceEqDiff, Nat.reduceAdd, Nat.reduceLeDiff, Nat.reduceSub, Nat.reduceMul, reduceCtorEq, len7, lenw, wl, dl]
    refine awakeP_ok (k := k) fun h' _ => ?_
    simp (maxSteps := 200000) -implicitDefEqProofs only [KA, KB, KC, KD, KE, KF, eq_self, ne_eq, ↓reduceIte, Nat.reduceLT, Nat.reduceEqDiff, Nat.reduceAdd, Nat.reduceLeDiff, Nat.reduceSub, Nat.reduceMul, reduceCtorEq]
    exact hP _
end
end Camp

/-! CvPar8 -/
namespace Camp
open Go
set_option linter.unusedVariables false
set_option linter.unusedSimpArgs false
set_option maxHeartbeats 4000000
section
variable {k : Nat} {h : Hp} {P : AV → Hp → Prop} {s : Nat} {me rank : Int} {v : CV} {L : List Pr}
theorem hearOne {rank r now : Int} {L : List Pr} (hL : keepN L 4 = []) (hr : 0 ≤ r ∧ r ≤ 255) (hn : 0 ≤ now) : hearS 3 rank L 4 r now = if rank ≤ r then (rank, [], false) else (min rank (r + 1), [⟨r, 4, now⟩], true) := by
  have hm : mayP 3 4 r now := ⟨by omega, by omega, hr, by omega⟩
  unfold hearS
  rw [if_pos hm, hL]
  by_cases c : rank ≤ r
  · rw [if_pos c, if_pos c]
  · rw [if_neg c, if_neg c]
    have : hearL rank L ⟨r, 4, now⟩ = [⟨r, 4, now⟩] := by
      unfold hearL insP
      rw [hL]
      have : ¬ (min rank (r + 1) ≤ r) := by omega
      simp [List.filter_cons, this]
    rw [this]
    rfl
theorem s2_ok {y : Bool} (hP : ∀ h' w, SL h' 1 w ((if y = true then [4] else []).map encI) → Fn h h' → P (.c w) h') : callW N (k + 1) 72 [.c (.bool y)] h P := by
  refine call_intro rfl (by simp only [List.length_cons, List.length_nil]; omega) ?_
  cases y with
  | true =>
    simp (maxSteps := 200000) -implicitDefEqProofs only [KA, KB, KC, KD, KE, KF, eq_self, ne_eq, ↓reduceIte, Nat.reduceLT, Nat.reduceEqDiff, Nat.reduceAdd, Nat.reduceLeDiff, Nat.reduceSub, Nat.reduceMul, reduceCtorEq]
    exact hP _ _ (sl_push h _ 1 1 [[.int .i64 4]] rfl rfl (some 1)) (Fm.push _ _ _)
  | false =>
    simp (maxSteps := 200000) -implicitDefEqProofs only [KA, KB, KC, KD, KE, KF, eq_self, ne_eq, ↓reduceIte, Nat.reduceLT, Nat.reduceEqDiff, Nat.reduceAdd, Nat.reduceLeDiff, Nat.reduceSub, Nat.reduceMul, reduceCtorEq]
    exact hP _ _ rfl (Fm.refl _ _)
theorem parentsAgain_ok {a0 b0 : Int} (hP : ∀ h', P (.c (.bool true)) h') : callW N (k + 9) 71 [.c (.int .i64 a0), .c (.int .i64 b0)] h P := by
  obtain ⟨a, ha, ha1, ha2⟩ : ∃ x', (IntKind.wrap .u64 a0).tmod 256 = x' ∧ 0 ≤ x' ∧ x' < 256 := ⟨_, rfl, u64_tmod _ _ (by omega)⟩
  obtain ⟨b, hb, hb1, hb2⟩ : ∃ x', (IntKind.wrap .u64 b0).tmod 256 = x' ∧ 0 ≤ x' ∧ x' < 256 := ⟨_, rfl, u64_tmod _ _ (by omega)⟩
  have w1 := wrap_i64 (n := a) (by omega)
  have w2 := wrap_i64 (n := b) (by omega)
  have w3 := wrap_i64 (n := b + 1) (by omega)
  have z : ¬ ((256 : Int) = 0) := by decide
  refine call_intro rfl (by simp only [List.length_cons, List.length_nil]; omega) ?_
  simp (maxSteps := 200000) -implicitDefEqProofs only [KA, KB, KC, KD, KE, KF, eq_self, ne_eq, ↓reduceIte, Nat.reduceLT, Nat.reduceEqDiff, Nat.reduceAdd, Nat.reduceLeDiff, Nat.reduceSub, Nat.reduceMul, reduceCtorEq, ha, hb, w1, w2, z]
  refine pnew_ok (k := k + 6) (fun _ _ h1 s hs1 f1 n1 => ?_) (fun hm => absurd ⟨⟨by omega, by omega⟩, by omega, by omega⟩ hm)
  simp (maxSteps := 200000) -implicitDefEqProofs only [KA, KB, KC, KD, KE, KF, eq_self, ne_eq, ↓reduceIte, Nat.reduceLT, Nat.reduceEqDiff, Nat.reduceAdd, Nat.reduceLeDiff, Nat.reduceSub, Nat.reduceMul, reduceCtorEq]
  refine hear_ok (k := k + 1) hs1 (Iv.nil _ _) (by omega) fun h2 v2 hs2 f2 i2 => ?_
  have v1 := (Iv.nil 3 200).hear (by omega) 4 a 1
  obtain ⟨r1, L1, x1, e1⟩ : ∃ r1 L1 x1, hearS 3 200 [] 4 a 1 = (r1, L1, x1) := ⟨_, _, _, rfl⟩
  rw [e1] at hs2 v1 ⊢
  simp only at hs2 v1
  rw [hearOne rfl (by omega) (by omega)] at e1
  have hk1 : keepN L1 4 = [] := by
    split at e1 <;> injection e1 with e1 e2 <;> injection e2 with e2 e3 <;> subst e2 <;> rfl
  have x1d : x1 = decide (a < 200) := by
    split at e1 <;> injection e1 with e1 e2 <;> injection e2 with e2 e3 <;> subst e3
    · exact (decide_eq_false (by omega)).symm
    · exact (decide_eq_true (by omega)).symm
  simp (maxSteps := 200000) -implicitDefEqProofs only [KA, KB, KC, KD, KE, KF, eq_self, ne_eq, ↓reduceIte, Nat.reduceLT, Nat.reduceEqDiff, Nat.reduceAdd, Nat.reduceLeDiff, Nat.reduceSub, Nat.reduceMul, reduceCtorEq]
  refine rank_ok (k := k + 7) hs2 ?_
  simp (maxSteps := 200000) -implicitDefEqProofs only [KA, KB, KC, KD, KE, KF, eq_self, ne_eq, ↓reduceIte, Nat.reduceLT, Nat.reduceEqDiff, Nat.reduceAdd, Nat.reduceLeDiff, Nat.reduceSub, Nat.reduceMul, reduceCtorEq]
  refine hear_ok (k := k + 1) hs2 v1.1 (by omega) fun h3 v3 hs3 f3 i3 => ?_
  have v2 := v1.1.hear (by omega) 4 b 2
  obtain ⟨r2, L2, y, e2⟩ : ∃ r1' L1' x1', hearS 3 r1 L1 4 b 2 = (r1', L1', x1') := ⟨_, _, _, rfl⟩
  rw [e2] at hs3 v2 ⊢
  simp only at hs3 v2
  rw [hearOne hk1 (by omega) (by omega)] at e2
  have yd : y = decide (b < r1) := by
    split at e2 <;> injection e2 with e2 e3 <;> injection e3 with e3 e4 <;> subst e4
    · exact (decide_eq_false (by omega)).symm
    · exact (decide_eq_true (by omega)).symm
  have shape : (¬ b < r1 ∧ r2 = r1 ∧ L2 = []) ∨ (b < r1 ∧ r2 = min r1 (b + 1) ∧ L2 = [⟨b, 4, 2⟩]) := by
    split at e2 <;> injection e2 with e2 e3 <;> injection e3 with e3 e4
    · exact .inl ⟨by omega, e2.symm, e3.symm⟩
    · exact .inr ⟨by omega, e2.symm, e3.symm⟩
  have bq : ∀ b : Bool, (b == b) = true := fun b => by cases b <;> rfl
  subst x1d yd
  simp (maxSteps := 200000) -implicitDefEqProofs only [KA, KB, KC, KD, KE, KF, eq_self, ne_eq, ↓reduceIte, Nat.reduceLT, Nat.reduceEqDiff, Nat.reduceAdd, Nat.reduceLeDiff, Nat.reduceSub, Nat.reduceMul, reduceCtorEq, bq]
  have hl3 := v2.1.len
  refine all_ok (k := k + 7) hs3 (by omega) fun h4 w4 sw4 f4 => ?_
  have hs4 := hs3.new f4
  have hL21 : L2.length ≤ 1 := by rcases shape with ⟨_, _, rfl⟩ | ⟨_, _, rfl⟩ <;> simp
  have len4 : ∀ h' : Hp, lenT h' .sl (.v (.c w4)) = some (L2.length : Int) := fun h' => by rw [sw4.len h', List.length_map, List.length_map]
  have z4 : ¬ (1 < (L2.length : Int)) := by omega
  simp (maxSteps := 200000) -implicitDefEqProofs only [KA, KB, KC, KD, KE, KF, eq_self, ne_eq, ↓reduceIte, Nat.reduceLT, Nat.reduceEqDiff, Nat.reduceAdd, Nat.reduceLeDiff, Nat.reduceSub, Nat.reduceMul, reduceCtorEq, len4, z4]
  refine rankOf_ok (k := k + 7) hs4 (by omega) ?_
  rcases shape with ⟨hbr, rfl, rfl⟩ | ⟨hbr, rfl, rfl⟩
  · have er : rankOf [] 4 = none := rfl
    have er1 : (none : Option Int).isSome = false := rfl
    have bf : (false == false) = true := rfl
    have ed : decide (b < r2) = false := decide_eq_false hbr
    simp (maxSteps := 200000) -implicitDefEqProofs only [KA, KB, KC, KD, KE, KF, eq_self, ne_eq, ↓reduceIte, Nat.reduceLT, Nat.reduceEqDiff, Nat.reduceAdd, Nat.reduceLeDiff, Nat.reduceSub, Nat.reduceMul, reduceCtorEq, er, er1, bf, ed]
    refine old_ok (k := k + 1) hs4 v2.1 (by omega) (by omega) fun h6 v6 w6 T hs6 sw pT sT f6 i6 j6 => ?_
    have hT : T = [] := List.Perm.eq_nil (by simpa [goneP] using pT)
    subst hT
    simp (maxSteps := 200000) -implicitDefEqProofs only [KA, KB, KC, KD, KE, KF, eq_self, ne_eq, ↓reduceIte, Nat.reduceLT, Nat.reduceEqDiff, Nat.reduceAdd, Nat.reduceLeDiff, Nat.reduceSub, Nat.reduceMul, reduceCtorEq]
    refine s2_ok (k := k + 7) fun h7 w7 sw7 f7 => ?_
    simp (maxSteps := 200000) -implicitDefEqProofs only [KA, KB, KC, KD, KE, KF, eq_self, ne_eq, ↓reduceIte, Nat.reduceLT, Nat.reduceEqDiff, Nat.reduceAdd, Nat.reduceLeDiff, Nat.reduceSub, Nat.reduceMul, reduceCtorEq]
    refine same_ok (k := k + 7) (sw.new f7) sw7 (by simp) ?_
    simp (maxSteps := 200000) -implicitDefEqProofs only [KA, KB, KC, KD, KE, KF, eq_self, ne_eq, ↓reduceIte, Nat.reduceLT, Nat.reduceEqDiff, Nat.reduceAdd, Nat.reduceLeDiff, Nat.reduceSub, Nat.reduceMul, reduceCtorEq]
    refine awakeP_ok (k := k) fun h' _ => ?_
    simp (maxSteps := 200000) -implicitDefEqProofs only [KA, KB, KC, KD, KE, KF, eq_self, ne_eq, ↓reduceIte, Nat.reduceLT, Nat.reduceEqDiff, Nat.reduceAdd, Nat.reduceLeDiff, Nat.reduceSub, Nat.reduceMul, reduceCtorEq]
    exact hP _
  · have er : rankOf [⟨b, 4, 2⟩] 4 = some b := rfl
    have er1 : (some b : Option Int).isSome = true := rfl
    have er2 : (some b : Option Int).getD 0 = b := rfl
    have bt : (true == true) = true := rfl
    have ed : decide (b < r1) = true := decide_eq_true hbr
    have db : decide (b = b) = true := by simp
    have dm : decide (min r1 (b + 1) = min r1 (b + 1)) = true := by simp
    simp (maxSteps := 200000) -implicitDefEqProofs only [KA, KB, KC, KD, KE, KF, eq_self, ne_eq, ↓reduceIte, Nat.reduceLT, Nat.reduceEqDiff, Nat.reduceAdd, Nat.reduceLeDiff, Nat.reduceSub, Nat.reduceMul, reduceCtorEq, er, er1, er2, bt, ed, db]
    refine rank_ok (k := k + 7) hs4 ?_
    simp (maxSteps := 200000) -implicitDefEqProofs only [KA, KB, KC, KD, KE, KF, eq_self, ne_eq, ↓reduceIte, Nat.reduceLT, Nat.reduceEqDiff, Nat.reduceAdd, Nat.reduceLeDiff, Nat.reduceSub, Nat.reduceMul, reduceCtorEq, w3, dm]
    refine old_ok (k := k + 1) hs4 v2.1 (by omega) (by omega) fun h6 v6 w6 T hs6 sw pT sT f6 i6 j6 => ?_
    have hg4 : (goneP [⟨b, 4, 2⟩] 1000 5).map (·.n) = [4] := rfl
    rw [hg4] at pT
    have hT : T = [4] := List.perm_singleton.mp pT
    subst hT
    simp (maxSteps := 200000) -implicitDefEqProofs only [KA, KB, KC, KD, KE, KF, eq_self, ne_eq, ↓reduceIte, Nat.reduceLT, Nat.reduceEqDiff, Nat.reduceAdd, Nat.reduceLeDiff, Nat.reduceSub, Nat.reduceMul, reduceCtorEq]
    refine s2_ok (k := k + 7) fun h7 w7 sw7 f7 => ?_
    simp (maxSteps := 200000) -implicitDefEqProofs only [KA, KB, KC, KD, KE, KF, eq_self, ne_eq, ↓reduceIte, Nat.reduceLT, Nat.reduceEqDiff, Nat.reduceAdd, Nat.reduceLeDiff, Nat.reduceSub, Nat.reduceMul, reduceCtorEq]
    refine same_ok (k := k + 7) (sw.new f7) sw7 (by simp) ?_
    simp (maxSteps := 200000) -implicitDefEqProofs only [KA, KB, KC, KD, KE, KF, eq_self, ne_eq, ↓reduceIte, Nat.reduceLT, Nat.reduceEqDiff, Nat.reduceAdd, Nat.reduceLeDiff, Nat.reduceSub, Nat.reduceMul, reduceCtorEq]
    refine awakeP_ok (k := k) fun h' _ => ?_
    simp (maxSteps := 200000) -implicitDefEqProofs only [KA, KB, KC, KD, KE, KF, eq_self, ne_eq, ↓reduceIte, Nat.reduceLT, Nat.reduceEqDiff, Nat.reduceAdd, Nat.reduceLeDiff, Nat.reduceSub, Nat.reduceMul, reduceCtorEq]
    exact hP _
end
end Camp
