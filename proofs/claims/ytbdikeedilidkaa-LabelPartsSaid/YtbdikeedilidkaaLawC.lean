/- Labels: the answers: runes, texts of runes, names, what is small, cut, summed, turned. Labels: the answer's names and small letters; the laws Parts, Forms. Labels: the laws Parts, Forms. -/
import Derived.Test.YtbdikeedilidkaaLawB

set_option linter.unnecessarySimpa false
set_option linter.unusedVariables false
set_option linter.unusedSimpArgs false
set_option linter.unusedSectionVars false
/-! CvLab6 -/
namespace Camp
open Go Camp.U
set_option linter.unusedVariables false
set_option linter.unusedSimpArgs false
set_option maxHeartbeats 4000000
section
variable {k : Nat} {h : Hp} {P : AV → Hp → Prop} {L : List UInt8}
def RuI (L : List UInt8) (h : Hp) (m : Nat) (st : St) : Prop :=
  ∃ (pos : Nat) (R : List Int) (w : CV) (h' : Hp) (l : List (Nat × TV)) (lc : List (List CV)), st = ST 16 l lc h' ∧ pos ≤ L.length ∧ m = L.length - pos ∧ runs L = R ++ runs (L.drop pos) ∧ Ow h' 1 w (R.map encR) ∧ (∀ j, ownId w j → h.n + 1 ≤ j) ∧ h'.g h.n = some (.siter (bs L) pos) ∧ Fn h h' ∧ h.n + 1 ≤ h'.n ∧
    lk l 3 = .v (.c w) ∧ lk l 7 = .v (.c (.it h.n))
theorem rrunes_ok (hL : L.length ≤ 1000000000) (hP : ∀ h' u, Ow h' 1 u ((runs L).map encR) → (∀ j, ownId u j → h.n ≤ j) → Fn h h' → P (.c u) h') : callW N (k + 1) 182 [.c (.str (bs L))] h P := by
  refine call_intro rfl (by simp only [List.length_cons, List.length_nil]; omega) ?_
  obtain ⟨h1, hh1⟩ : ∃ h1, h1 = h.push (.siter (bs L) 0) := ⟨_, rfl⟩
  have e1 := hh1.symm
  simp (maxSteps := 200000) -implicitDefEqProofs only [KA, KB, KC, KD, KE, KF, eq_self, ne_eq, ↓reduceIte, Nat.reduceLT, Nat.reduceEqDiff, Nat.reduceAdd, Nat.reduceLeDiff, Nat.reduceSub, Nat.reduceMul, reduceCtorEq, rgn_str, e1]
  refine loop_rd (callW_mono N _) (RuI L h) (n := L.length) ⟨0, [], .nils, h1, _, _, rfl, Nat.zero_le _, rfl, by simp, rfl, fun _ e => e.elim, by rw [hh1, g_push_eq], by rw [hh1]; exact Fm.push _ _ _, by rw [hh1, n_push]; exact Nat.le_refl _, rfl, rfl⟩ ?_
  rintro m st ⟨pos, R, w, h2, l, lc, rfl, hp, hm, hR, how, hid, hi, hf, hn, e3, e7⟩
  simp (maxSteps := 200000) -implicitDefEqProofs only [KA, KB, KC, KD, KE, KF, eq_self, ne_eq, ↓reduceIte, Nat.reduceLT, Nat.reduceEqDiff, Nat.reduceAdd, Nat.reduceLeDiff, Nat.reduceSub, Nat.reduceMul, reduceCtorEq, e3, e7]
  refine nx_str (id := h.n) (by simp only [evN_t, lk_cons, lk_nil]; rfl) hi (fun hlt => ?_) fun hge => ?_
  · obtain ⟨s1, s2, s3, s4⟩ := step_at hlt
    have hlr := runs_len L
    have hRl := congrArg List.length hR
    rw [s4, List.length_append, List.length_cons] at hRl
    have hf2 := hf.putNew (.siter (bs L) (pos + (dec (L.drop pos)).2)) (Nat.le_refl h.n)
    have hi2 : (h2.put h.n (.siter (bs L) (pos + (dec (L.drop pos)).2))).g h.n = some (.siter (bs L) (pos + (dec (L.drop pos)).2)) := by rw [g_put_eq, hi]; rfl
    have ho2 := how.mono (Fm.put (S := fun j => j = h.n) h2 (.siter (bs L) (pos + (dec (L.drop pos)).2)) rfl) (fun j hj e => by have := hid j hj; omega)
    have hn2 : (h2.put h.n (.siter (bs L) (pos + (dec (L.drop pos)).2))).n = h2.n := n_put _ _ _
    generalize hh3 : h2.put h.n (.siter (bs L) (pos + (dec (L.drop pos)).2)) = h3 at *
    generalize hx : ((dec (L.drop pos)).1 : Int) = x at *
    obtain ⟨u, h4, f1, f2, f3, f4⟩ := ho2.app (lc := [[.int .i32 x]]) (x := .lsl 0 1) (xs := [[.int .i32 x]]) rfl (by simp) (bytes := 4) (by rw [List.length_map]; simp only [room, List.length_singleton]; omega)
    simp (maxSteps := 200000) -implicitDefEqProofs only [KA, KB, KC, KD, KE, KF, eq_self, ne_eq, ↓reduceIte, Nat.reduceLT, Nat.reduceEqDiff, Nat.reduceAdd, Nat.reduceLeDiff, Nat.reduceSub, Nat.reduceMul, reduceCtorEq, f1, rd_n]
    refine ⟨L.length - (pos + (dec (L.drop pos)).2), by omega, pos + (dec (L.drop pos)).2, R ++ [x], u, h4, _, _, rfl, by omega, rfl, by rw [hR, s4, List.append_assoc]; rfl, by rw [List.map_append]; exact f2, fun j hj => (f4 j hj).elim (hid j) (fun e => by omega), f3.some hi2 (fun e => by have := hid _ e; omega), hf2.comp f3 (fun j hj e => by have := hid _ e; omega), by have := f3.n; omega, rfl, rfl⟩
  · rw [List.drop_of_length_le (by omega), runs_nil, List.append_nil] at hR
    rw [hR] at hP
    simp (maxSteps := 200000) -implicitDefEqProofs only [KA, KB, KC, KD, KE, KF, eq_self, ne_eq, ↓reduceIte, Nat.reduceLT, Nat.reduceEqDiff, Nat.reduceAdd, Nat.reduceLeDiff, Nat.reduceSub, Nat.reduceMul, reduceCtorEq, rd_e]
    exact hP _ _ how (fun j hj => by have := hid j hj; omega) hf
def TxI (v : CV) (R : List Int) (h : Hp) (m : Nat) (st : St) : Prop :=
  ∃ (i : Nat) (l : List (Nat × TV)) (lc : List (List CV)), st = ST 18 l lc h ∧ i ≤ R.length ∧ m = R.length - i ∧
    lk l 3 = .v (.c (.str (bs (encs (R.take i))))) ∧ lk l 6 = .v (.c v) ∧ lk l 7 = .v (.c (.int .i64 R.length)) ∧ lk l 8 = .v (.c (.int .i64 i))
theorem text_ok {v : CV} {R : List Int} (hs : SL h 1 v (R.map encR)) (hn : R.length ≤ 1000000000) (hP : P (.c (.str (bs (encs R)))) h) : callW N (k + 1) 192 [.c v] h P := by
  have hlen : ∀ h' : Hp, lenT h' .sl (.v (.c v)) = some (R.length : Int) := fun h' => by rw [hs.len h', List.length_map]
  refine call_intro rfl (by simp only [List.length_cons, List.length_nil]; omega) ?_
  simp (maxSteps := 200000) -implicitDefEqProofs only [KA, KB, KC, KD, KE, KF, eq_self, ne_eq, ↓reduceIte, Nat.reduceLT, Nat.reduceEqDiff, Nat.reduceAdd, Nat.reduceLeDiff, Nat.reduceSub, Nat.reduceMul, reduceCtorEq, hlen]
  refine loop_rd (callW_mono N _) (TxI v R h) (n := R.length) ⟨0, _, _, rfl, Nat.zero_le _, rfl, rfl, rfl, rfl, rfl⟩ ?_
  rintro m st ⟨i, l, lc, rfl, hi, hm, e3, e6, e7, e8⟩
  by_cases hlt : (i : Int) < R.length
  · have hil : i < R.length := by omega
    obtain ⟨x, hx⟩ : ∃ x, R[i]? = some x := ⟨_, List.getElem?_eq_getElem hil⟩
    have hr : (R.map encR)[(i : Int).toNat]? = some [.int .i32 x] := by simp [hx, encR]
    obtain ⟨p1, p2, p3, a1, a2⟩ := hs.at (by omega) hr
    have hw := wrap_i64 (n := (i : Int) + 1) (by omega)
    have hlb := encs_len_le (R.take i)
    rw [List.length_take] at hlb
    have hle := enc_len x
    have hadd := bs_add (A := encs (R.take i)) (B := enc x) (by simp only [room]; omega)
    simp (maxSteps := 200000) -implicitDefEqProofs only [KA, KB, KC, KD, KE, KF, eq_self, ne_eq, ↓reduceIte, Nat.reduceLT, Nat.reduceEqDiff, Nat.reduceAdd, Nat.reduceLeDiff, Nat.reduceSub, Nat.reduceMul, reduceCtorEq, e3, e6, e7, e8, hlt, a1, a2, c_i2s, hadd, hw, rd_n]
    refine ⟨m - 1, by omega, i + 1, _, _, rfl, by omega, by omega, ?_, rfl, rfl, rfl⟩
    simp only [lk_cons, lk_nil]
    rw [take_snoc hx, encs_append, encs_cons, encs_nil, List.append_nil]
    rfl
  · rw [List.take_of_length_le (by omega)] at e3
    simp (maxSteps := 200000) -implicitDefEqProofs only [KA, KB, KC, KD, KE, KF, eq_self, ne_eq, ↓reduceIte, Nat.reduceLT, Nat.reduceEqDiff, Nat.reduceAdd, Nat.reduceLeDiff, Nat.reduceSub, Nat.reduceMul, reduceCtorEq, e3, e6, e7, e8, hlt, rd_e]
    exact hP
/-! ### Cut, sum -/
def RcI (L : List UInt8) (q : Int) (h : Hp) (m : Nat) (st : St) : Prop :=
  ∃ (pos j : Nat) (h' : Hp) (l : List (Nat × TV)) (lc : List (List CV)), st = ST 23 l lc h' ∧ pos ≤ L.length ∧ m = L.length - pos ∧ j ≤ pos ∧ (j : Int) ≤ max q 0 ∧ ucut q.toNat L = L.take pos ++ ucut (q - j).toNat (L.drop pos) ∧ h'.g h.n = some (.siter (bs L) pos) ∧ Fn h h' ∧
    lk l 0 = .v (.c (.str (bs L))) ∧ lk l 1 = .v (.c (.int .i64 q)) ∧ lk l 5 = .v (.c (.int .i64 j)) ∧ lk l 8 = .v (.c (.it h.n))
theorem rcut_ok {q : Int} (hL : L.length ≤ 1000000000) (hP : ∀ h', Fn h h' → P (.c (.str (bs (ucut q.toNat L)))) h') : callW N (k + 1) 184 [.c (.str (bs L)), .c (.int .i64 q)] h P := by
  refine call_intro rfl (by simp only [List.length_cons, List.length_nil]; omega) ?_
  obtain ⟨h1, hh1⟩ : ∃ h1, h1 = h.push (.siter (bs L) 0) := ⟨_, rfl⟩
  have e1 := hh1.symm
  simp (maxSteps := 200000) -implicitDefEqProofs only [KA, KB, KC, KD, KE, KF, eq_self, ne_eq, ↓reduceIte, Nat.reduceLT, Nat.reduceEqDiff, Nat.reduceAdd, Nat.reduceLeDiff, Nat.reduceSub, Nat.reduceMul, reduceCtorEq, rgn_str, e1]
  refine loop_rd (callW_mono N _) (RcI L q h) (n := L.length) ⟨0, 0, h1, _, _, rfl, Nat.zero_le _, rfl, Nat.le_refl _, by omega, by simp, by rw [hh1, g_push_eq], by rw [hh1]; exact Fm.push _ _ _, rfl, rfl, rfl, rfl⟩ ?_
  rintro m st ⟨pos, j, h2, l, lc, rfl, hp, hm, hjp, hjq, hc, hi, hf, e0, e1, e5, e8⟩
  simp (maxSteps := 200000) -implicitDefEqProofs only [KA, KB, KC, KD, KE, KF, eq_self, ne_eq, ↓reduceIte, Nat.reduceLT, Nat.reduceEqDiff, Nat.reduceAdd, Nat.reduceLeDiff, Nat.reduceSub, Nat.reduceMul, reduceCtorEq, e0, e1, e5, e8]
  refine nx_str (id := h.n) (by simp only [evN_t, lk_cons, lk_nil]; rfl) hi (fun hlt => ?_) fun hge => ?_
  · obtain ⟨s1, s2, s3, s4⟩ := step_at hlt
    by_cases hz : q ≤ (j : Int)
    · have hs := bs_hi (h2.put h.n (.siter (bs L) (pos + (dec (L.drop pos)).2))) hp
      rw [show (q - j).toNat = 0 by omega, show ucut 0 (L.drop pos) = [] from rfl, List.append_nil] at hc
      simp (maxSteps := 200000) -implicitDefEqProofs only [KA, KB, KC, KD, KE, KF, eq_self, ne_eq, ↓reduceIte, Nat.reduceLT, Nat.reduceEqDiff, Nat.reduceAdd, Nat.reduceLeDiff, Nat.reduceSub, Nat.reduceMul, reduceCtorEq, hz, hs]
      rw [← hc]
      exact hP _ (hf.putNew _ (Nat.le_refl _))
    · have hw := wrap_i64 (n := (j : Int) + 1) (by omega)
      rw [show (q - j).toNat = (q - ((j + 1 : Nat) : Int)).toNat + 1 by omega, ucut_succ (drop_ne hlt), ← List.append_assoc, ← List.take_add, List.drop_drop] at hc
      simp (maxSteps := 200000) -implicitDefEqProofs only [KA, KB, KC, KD, KE, KF, eq_self, ne_eq, ↓reduceIte, Nat.reduceLT, Nat.reduceEqDiff, Nat.reduceAdd, Nat.reduceLeDiff, Nat.reduceSub, Nat.reduceMul, reduceCtorEq, hz, hw, rd_n]
      refine ⟨L.length - (pos + (dec (L.drop pos)).2), by omega, pos + (dec (L.drop pos)).2, j + 1, _, _, _, rfl, by omega, rfl, by omega, by omega, hc, by rw [g_put_eq, hi]; rfl, hf.putNew _ (Nat.le_refl _), rfl, rfl, rfl, rfl⟩
  · rw [List.drop_of_length_le (by omega), ucut_nil, List.append_nil, List.take_of_length_le (by omega)] at hc
    by_cases hz : q ≤ 0
    · have hc0 : ucut q.toNat L = [] := by rw [show q.toNat = 0 by omega]; rfl
      rw [hc0] at hP
      simp (maxSteps := 200000) -implicitDefEqProofs only [KA, KB, KC, KD, KE, KF, eq_self, ne_eq, ↓reduceIte, Nat.reduceLT, Nat.reduceEqDiff, Nat.reduceAdd, Nat.reduceLeDiff, Nat.reduceSub, Nat.reduceMul, reduceCtorEq, rd_e, hz]
      exact hP _ hf
    · simp (maxSteps := 200000) -implicitDefEqProofs only [KA, KB, KC, KD, KE, KF, eq_self, ne_eq, ↓reduceIte, Nat.reduceLT, Nat.reduceEqDiff, Nat.reduceAdd, Nat.reduceLeDiff, Nat.reduceSub, Nat.reduceMul, reduceCtorEq, rd_e, hz]
      rw [hc] at hP
      exact hP _ hf
def RsI (v : CV) (R : List Int) (h : Hp) (m : Nat) (st : St) : Prop :=
  ∃ (i : Nat) (l : List (Nat × TV)) (lc : List (List CV)), st = ST 25 l lc h ∧ i ≤ R.length ∧ m = R.length - i ∧
    lk l 3 = .v (.c (.int .i64 (sumT 0 (R.take i) % 65521))) ∧ lk l 7 = .v (.c v) ∧ lk l 8 = .v (.c (.int .i64 R.length)) ∧ lk l 9 = .v (.c (.int .i64 i))
theorem rsum_ok (hL : L.length ≤ 60000) (hP : ∀ h', Fn h h' → P (.c (.int .i64 (sumT 0 (runs L) % 65521))) h') : callW N (k + 2) 185 [.c (.str (bs L))] h P := by
  have hrl := runs_len L
  have hvr := runs_vr L
  refine call_intro rfl (by simp only [List.length_cons, List.length_nil]; omega) ?_
  simp (maxSteps := 200000) -implicitDefEqProofs only [KA, KB, KC, KD, KE, KF, eq_self, ne_eq, ↓reduceIte, Nat.reduceLT, Nat.reduceEqDiff, Nat.reduceAdd, Nat.reduceLeDiff, Nat.reduceSub, Nat.reduceMul, reduceCtorEq]
  refine rrunes_ok (k := k) (by omega) fun h1 v how hid f1 => ?_
  generalize hR : runs L = R at *
  have hlen : ∀ h' : Hp, lenT h' .sl (.v (.c v)) = some (R.length : Int) := fun h' => by rw [how.sl.len h', List.length_map]
  simp (maxSteps := 200000) -implicitDefEqProofs only [KA, KB, KC, KD, KE, KF, eq_self, ne_eq, ↓reduceIte, Nat.reduceLT, Nat.reduceEqDiff, Nat.reduceAdd, Nat.reduceLeDiff, Nat.reduceSub, Nat.reduceMul, reduceCtorEq, hlen]
  refine loop_rd (callW_mono N _) (RsI v R h1) (n := R.length) ⟨0, _, _, rfl, Nat.zero_le _, rfl, rfl, rfl, rfl, rfl⟩ ?_
  rintro m st ⟨i, l, lc, rfl, hi, hm, e3, e7, e8, e9⟩
  by_cases hlt : (i : Int) < R.length
  · have hil : i < R.length := by omega
    obtain ⟨x, hx⟩ : ∃ x, R[i]? = some x := ⟨_, List.getElem?_eq_getElem hil⟩
    have hr : (R.map encR)[(i : Int).toNat]? = some [.int .i32 x] := by simp [hx, encR]
    obtain ⟨p1, p2, p3, a1, a2⟩ := how.sl.at (by omega) hr
    have hv := hvr x (List.mem_of_getElem? hx)
    unfold vr at hv
    have w0 := wrap_i64 (n := (i : Int) + 1) (by omega)
    have w2 := wrap_i64 (n := x) (by omega)
    have z : ¬ ((65521 : Int) = 0) := by decide
    have t1 : (i : Int).tmod 65521 = (i : Int) := Int.tmod_eq_of_lt (by omega) (by omega)
    have m0 : 0 ≤ sumT 0 (R.take i) % 65521 := Int.emod_nonneg _ (by decide)
    have m1 : sumT 0 (R.take i) % 65521 < 65521 := Int.emod_lt_of_pos _ (by decide)
    have x0 : 0 ≤ x * ((i : Int) + 1) := Int.mul_nonneg (by omega) (by omega)
    have x1 : x * ((i : Int) + 1) ≤ 1114111 * ((i : Int) + 1) := Int.mul_le_mul_of_nonneg_right (by omega) (by omega)
    have w3 := wrap_i64 (n := x * ((i : Int) + 1)) (by omega)
    have w4 := wrap_i64 (n := sumT 0 (R.take i) % 65521 + x * ((i : Int) + 1)) (by omega)
    have hil2 : (R.take i).length = i := by rw [List.length_take]; omega
    have t2 : (sumT 0 (R.take i) % 65521 + x * ((i : Int) + 1)).tmod 65521 = sumT 0 (R.take (i + 1)) % 65521 := by
      rw [Int.tmod_eq_emod_of_nonneg (by omega), take_snoc hx, sumT_app, hil2]
      simp only [sumT, Int.zero_add, Int.add_zero]
      rw [Int.emod_add_emod]
    simp (maxSteps := 200000) -implicitDefEqProofs only [KA, KB, KC, KD, KE, KF, eq_self, ne_eq, ↓reduceIte, Nat.reduceLT, Nat.reduceEqDiff, Nat.reduceAdd, Nat.reduceLeDiff, Nat.reduceSub, Nat.reduceMul, reduceCtorEq, e3, e7, e8, e9, hlt, a1, a2, w2, z, t1, w0, w3, w4, t2, rd_n]
    exact ⟨m - 1, by omega, i + 1, _, _, rfl, by omega, by omega, rfl, rfl, rfl, rfl⟩
  · rw [List.take_of_length_le (by omega)] at e3
    simp (maxSteps := 200000) -implicitDefEqProofs only [KA, KB, KC, KD, KE, KF, eq_self, ne_eq, ↓reduceIte, Nat.reduceLT, Nat.reduceEqDiff, Nat.reduceAdd, Nat.reduceLeDiff, Nat.reduceSub, Nat.reduceMul, reduceCtorEq, e3, e7, e8, e9, hlt, rd_e]
    exact hP _ f1
/-! ### Turned -/
def RtI (v : CV) (R : List Int) (h0 h : Hp) (m : Nat) (st : St) : Prop :=
  ∃ (i : Nat) (w : CV) (h' : Hp) (l : List (Nat × TV)) (lc : List (List CV)), st = ST 24 l lc h' ∧ i ≤ R.length ∧ m = i ∧ Ow h' 1 w ((R.drop i).reverse.map encR) ∧ (∀ j, ownId w j → h.n ≤ j) ∧ Fn h h' ∧
    lk l 3 = .v (.c v) ∧ lk l 4 = .v (.c w) ∧ lk l 5 = .v (.c (.int .i64 ((i : Int) - 1)))
theorem rturn_ok (hL : L.length ≤ 100000000) (hP : ∀ h', Fn h h' → P (.c (.str (bs (encs (runs L).reverse)))) h') : callW N (k + 2) 186 [.c (.str (bs L))] h P := by
  have hrl := runs_len L
  refine call_intro rfl (by simp only [List.length_cons, List.length_nil]; omega) ?_
  simp (maxSteps := 200000) -implicitDefEqProofs only [KA, KB, KC, KD, KE, KF, eq_self, ne_eq, ↓reduceIte, Nat.reduceLT, Nat.reduceEqDiff, Nat.reduceAdd, Nat.reduceLeDiff, Nat.reduceSub, Nat.reduceMul, reduceCtorEq]
  refine rrunes_ok (k := k) (by omega) fun h1 v how hid f1 => ?_
  generalize hR : runs L = R at *
  have hlen : ∀ h' : Hp, lenT h' .sl (.v (.c v)) = some (R.length : Int) := fun h' => by rw [how.sl.len h', List.length_map]
  have w0 := wrap_i64 (n := (R.length : Int) - 1) (by omega)
  simp (maxSteps := 200000) -implicitDefEqProofs only [KA, KB, KC, KD, KE, KF, eq_self, ne_eq, ↓reduceIte, Nat.reduceLT, Nat.reduceEqDiff, Nat.reduceAdd, Nat.reduceLeDiff, Nat.reduceSub, Nat.reduceMul, reduceCtorEq, hlen, w0]
  refine loop_rd (callW_mono N _) (RtI v R h h1) (n := R.length) ⟨R.length, .nils, h1, _, _, rfl, Nat.le_refl _, rfl, by rw [List.drop_length]; rfl, fun _ e => e.elim, Fm.refl _ _, rfl, rfl, rfl⟩ ?_
  rintro m st ⟨i, w, h2, l, lc, rfl, hi, hm, hou, hid2, f2, e3, e4, e5⟩
  by_cases hlt : (0 : Int) ≤ (i : Int) - 1
  · have hil : i - 1 < R.length := by omega
    obtain ⟨x, hx⟩ : ∃ x, R[i - 1]? = some x := ⟨_, List.getElem?_eq_getElem hil⟩
    have hr : (R.map encR)[((i : Int) - 1).toNat]? = some [.int .i32 x] := by
      rw [show ((i : Int) - 1).toNat = i - 1 by omega]
      simp [hx, encR]
    obtain ⟨p1, p2, p3, a1, a2⟩ := (how.sl.new f2).at (by omega) hr
    have hdl : (R.drop i).reverse.length ≤ R.length := by rw [List.length_reverse, List.length_drop]; omega
    obtain ⟨u, h4, g1, g2, g3, g4⟩ := hou.app (lc := [[.int .i32 x]]) (x := .lsl 0 1) (xs := [[.int .i32 x]]) rfl (by simp) (bytes := 4) (by rw [List.length_map]; simp only [room, List.length_singleton]; omega)
    have hw := wrap_i64 (n := (i : Int) - 1 - 1) (by omega)
    simp (maxSteps := 200000) -implicitDefEqProofs only [KA, KB, KC, KD, KE, KF, eq_self, ne_eq, ↓reduceIte, Nat.reduceLT, Nat.reduceEqDiff, Nat.reduceAdd, Nat.reduceLeDiff, Nat.reduceSub, Nat.reduceMul, reduceCtorEq, e3, e4, e5, hlt, a1, a2, g1, hw, rd_n]
    refine ⟨i - 1, by omega, i - 1, u, h4, _, _, rfl, by omega, rfl, ?_, fun j hj => (g4 j hj).elim (hid2 j) (fun e => by have := f2.n; omega), f2.comp g3 (fun j hj e => by have := hid2 _ e; omega), rfl, rfl, ?_⟩
    · have hd : R.drop (i - 1) = x :: R.drop i := by
        rw [List.drop_eq_getElem_cons hil]
        rw [List.getElem?_eq_getElem hil] at hx
        injection hx with hx
        rw [hx, show i - 1 + 1 = i by omega]
      rw [hd, List.reverse_cons, List.map_append]
      exact g2
    · simp only [lk_cons, lk_nil]
      rw [show ((i - 1 : Nat) : Int) - 1 = (i : Int) - 1 - 1 by omega]
      rfl
  · have h0 : i = 0 := by omega
    subst h0
    rw [List.drop_zero] at hou
    simp (maxSteps := 200000) -implicitDefEqProofs only [KA, KB, KC, KD, KE, KF, eq_self, ne_eq, ↓reduceIte, Nat.reduceLT, Nat.reduceEqDiff, Nat.reduceAdd, Nat.reduceLeDiff, Nat.reduceSub, Nat.reduceMul, reduceCtorEq, e3, e4, e5, hlt, rd_e]
    refine text_ok (k := k) hou.sl (by rw [List.length_reverse]; omega) ?_
    simp (maxSteps := 200000) -implicitDefEqProofs only [KA, KB, KC, KD, KE, KF, eq_self, ne_eq, ↓reduceIte, Nat.reduceLT, Nat.reduceEqDiff, Nat.reduceAdd, Nat.reduceLeDiff, Nat.reduceSub, Nat.reduceMul, reduceCtorEq]
    exact hP _ (f1.trans f2)
end
end Camp

/-! CvLab7 -/
namespace Camp
open Go Camp.U
set_option linter.unusedVariables false
set_option linter.unusedSimpArgs false
set_option maxHeartbeats 4000000
section
variable {k : Nat} {h : Hp} {P : AV → Hp → Prop} {L : List UInt8}
def RmI (v : CV) (R : List Int) (h : Hp) (m : Nat) (st : St) : Prop :=
  ∃ (i : Nat) (l : List (Nat × TV)) (lc : List (List CV)), st = ST 58 l lc h ∧ i ≤ R.length ∧ m = R.length - i ∧ (okA true R ↔ okA (decide (i = 0)) (R.drop i)) ∧
    lk l 17 = .v (.c v) ∧ lk l 18 = .v (.c (.int .i64 R.length)) ∧ lk l 19 = .v (.c (.int .i64 i))
theorem rmay_ok (hL : L.length ≤ 1000000000) (hP : ∀ h' (b : Bool), (b = true ↔ mayR (runs L)) → Fn h h' → P (.c (.bool b)) h') : callW N (k + 2) 180 [.c (.str (bs L))] h P := by
  have hrl := runs_len L
  refine call_intro rfl (by simp only [List.length_cons, List.length_nil]; omega) ?_
  simp (maxSteps := 200000) -implicitDefEqProofs only [KA, KB, KC, KD, KE, KF, eq_self, ne_eq, ↓reduceIte, Nat.reduceLT, Nat.reduceEqDiff, Nat.reduceAdd, Nat.reduceLeDiff, Nat.reduceSub, Nat.reduceMul, reduceCtorEq]
  refine rrunes_ok (k := k) (by omega) fun h1 v how hid f1 => ?_
  generalize hR : runs L = R at *
  have hlen : ∀ h' : Hp, lenT h' .sl (.v (.c v)) = some (R.length : Int) := fun h' => by rw [how.sl.len h', List.length_map]
  by_cases c1 : (R.length : Int) < 1
  · simp (maxSteps := 200000) -implicitDefEqProofs only [KA, KB, KC, KD, KE, KF, eq_self, ne_eq, ↓reduceIte, Nat.reduceLT, Nat.reduceEqDiff, Nat.reduceAdd, Nat.reduceLeDiff, Nat.reduceSub, Nat.reduceMul, reduceCtorEq, hlen, c1]
    exact hP _ false ⟨fun e => (by cases e), fun e => by have := e.2.1; omega⟩ f1
  by_cases c2 : (16 : Int) < (R.length : Int)
  · simp (maxSteps := 200000) -implicitDefEqProofs only [KA, KB, KC, KD, KE, KF, eq_self, ne_eq, ↓reduceIte, Nat.reduceLT, Nat.reduceEqDiff, Nat.reduceAdd, Nat.reduceLeDiff, Nat.reduceSub, Nat.reduceMul, reduceCtorEq, hlen, c1, c2]
    exact hP _ false ⟨fun e => (by cases e), fun e => by have := e.2.2; omega⟩ f1
  simp (maxSteps := 200000) -implicitDefEqProofs only [KA, KB, KC, KD, KE, KF, eq_self, ne_eq, ↓reduceIte, Nat.reduceLT, Nat.reduceEqDiff, Nat.reduceAdd, Nat.reduceLeDiff, Nat.reduceSub, Nat.reduceMul, reduceCtorEq, hlen, c1, c2]
  refine loop_rd (callW_mono N _) (RmI v R h1) (n := R.length) ⟨0, _, _, rfl, Nat.zero_le _, rfl, by simp, rfl, rfl, rfl⟩ ?_
  rintro m st ⟨i, l, lc, rfl, hi, hm, hok, e17, e18, e19⟩
  by_cases hlt : (i : Int) < R.length
  · have hil : i < R.length := by omega
    obtain ⟨x, hx⟩ : ∃ x, R[i]? = some x := ⟨_, List.getElem?_eq_getElem hil⟩
    have hr : (R.map encR)[(i : Int).toNat]? = some [.int .i32 x] := by simp [hx, encR]
    obtain ⟨p1, p2, p3, a1, a2⟩ := how.sl.at (by omega) hr
    have hw := wrap_i64 (n := (i : Int) + 1) (by omega)
    have hd : R.drop i = x :: R.drop (i + 1) := by
      rw [List.drop_eq_getElem_cons hil]
      rw [List.getElem?_eq_getElem hil] at hx
      injection hx with hx
      rw [hx]
    rw [hd, okA] at hok
    have bad : ¬ (letP x ∨ (decide (i = 0) = false ∧ digP x)) → P (.c (.bool false)) h1 := fun hn => hP _ false ⟨fun e => (by cases e), fun e => absurd (hok.mp e.1).1 hn⟩ f1
    have fin : (letP x ∨ (decide (i = 0) = false ∧ digP x)) → ∀ (l : List (Nat × TV)) (lc : List (List CV)), lk l 17 = .v (.c v) → lk l 18 = .v (.c (.int .i64 R.length)) → lk l 19 = .v (.c (.int .i64 ((i : Int) + 1))) → ∃ m', m' < m ∧ RmI v R h1 m' (ST 58 l lc h1) := by
      intro hg l lc k0 k1 k2
      refine ⟨m - 1, by omega, i + 1, l, lc, rfl, by omega, by omega, ?_, k0, k1, by rw [k2]; rfl⟩
      rw [hok, show decide (i + 1 = 0) = false from decide_eq_false (by omega)]
      exact ⟨fun e => e.2, fun e => ⟨hg, e⟩⟩
    by_cases g1 : 97 ≤ x
    · have d1 : 48 ≤ x := by omega
      have d2 : ¬ x ≤ 57 := by omega
      have nd : ¬ digP x := by unfold digP; omega
      by_cases g2 : x ≤ 122
      · simp (maxSteps := 200000) -implicitDefEqProofs only [KA, KB, KC, KD, KE, KF, eq_self, ne_eq, ↓reduceIte, Nat.reduceLT, Nat.reduceEqDiff, Nat.reduceAdd, Nat.reduceLeDiff, Nat.reduceSub, Nat.reduceMul, reduceCtorEq, e17, e18, e19, hlt, a1, a2, g1, g2, hw, rd_n]
        exact fin (.inl (by unfold letP; omega)) _ _ rfl rfl rfl
      · by_cases g3 : 945 ≤ x
        · by_cases g4 : x ≤ 969
          · by_cases g5 : x = 962
            · have g5' : decide (x = 962) = true := decide_eq_true g5
              have nl : ¬ letP x := by unfold letP; omega
              by_cases i0 : (0 : Int) < i
              · simp (maxSteps := 200000) -implicitDefEqProofs only [KA, KB, KC, KD, KE, KF, eq_self, ne_eq, ↓reduceIte, Nat.reduceLT, Nat.reduceEqDiff, Nat.reduceAdd, Nat.reduceLeDiff, Nat.reduceSub, Nat.reduceMul, reduceCtorEq, e17, e18, e19, hlt, a1, a2, g1, g2, g3, g4, g5', i0, d1, d2]
                exact bad (fun e => e.elim nl fun e => nd e.2)
              · simp (maxSteps := 200000) -implicitDefEqProofs only [KA, KB, KC, KD, KE, KF, eq_self, ne_eq, ↓reduceIte, Nat.reduceLT, Nat.reduceEqDiff, Nat.reduceAdd, Nat.reduceLeDiff, Nat.reduceSub, Nat.reduceMul, reduceCtorEq, e17, e18, e19, hlt, a1, a2, g1, g2, g3, g4, g5', i0]
                exact bad (fun e => e.elim nl fun e => nd e.2)
            · simp (maxSteps := 200000) -implicitDefEqProofs only [KA, KB, KC, KD, KE, KF, eq_self, ne_eq, ↓reduceIte, Nat.reduceLT, Nat.reduceEqDiff, Nat.reduceAdd, Nat.reduceLeDiff, Nat.reduceSub, Nat.reduceMul, reduceCtorEq, e17, e18, e19, hlt, a1, a2, g1, g2, g3, g4, g5, hw, rd_n]
              exact fin (.inl (by unfold letP; omega)) _ _ rfl rfl rfl
          · have nl : ¬ letP x := by unfold letP; omega
            by_cases i0 : (0 : Int) < i
            · simp (maxSteps := 200000) -implicitDefEqProofs only [KA, KB, KC, KD, KE, KF, eq_self, ne_eq, ↓reduceIte, Nat.reduceLT, Nat.reduceEqDiff, Nat.reduceAdd, Nat.reduceLeDiff, Nat.reduceSub, Nat.reduceMul, reduceCtorEq, e17, e18, e19, hlt, a1, a2, g1, g2, g3, g4, i0, d1, d2]
              exact bad (fun e => e.elim nl fun e => nd e.2)
            · simp (maxSteps := 200000) -implicitDefEqProofs only [KA, KB, KC, KD, KE, KF, eq_self, ne_eq, ↓reduceIte, Nat.reduceLT, Nat.reduceEqDiff, Nat.reduceAdd, Nat.reduceLeDiff, Nat.reduceSub, Nat.reduceMul, reduceCtorEq, e17, e18, e19, hlt, a1, a2, g1, g2, g3, g4, i0]
              exact bad (fun e => e.elim nl fun e => nd e.2)
        · have nl : ¬ letP x := by unfold letP; omega
          by_cases i0 : (0 : Int) < i
          · simp (maxSteps := 200000) -implicitDefEqProofs only [KA, KB, KC, KD, KE, KF, eq_self, ne_eq, ↓reduceIte, Nat.reduceLT, Nat.reduceEqDiff, Nat.reduceAdd, Nat.reduceLeDiff, Nat.reduceSub, Nat.reduceMul, reduceCtorEq, e17, e18, e19, hlt, a1, a2, g1, g2, g3, i0, d1, d2]
            exact bad (fun e => e.elim nl fun e => nd e.2)
          · simp (maxSteps := 200000) -implicitDefEqProofs only [KA, KB, KC, KD, KE, KF, eq_self, ne_eq, ↓reduceIte, Nat.reduceLT, Nat.reduceEqDiff, Nat.reduceAdd, Nat.reduceLeDiff, Nat.reduceSub, Nat.reduceMul, reduceCtorEq, e17, e18, e19, hlt, a1, a2, g1, g2, g3, i0]
            exact bad (fun e => e.elim nl fun e => nd e.2)
    · have g3 : ¬ 945 ≤ x := by omega
      have nl : ¬ letP x := by unfold letP; omega
      by_cases i0 : (0 : Int) < i
      · have hi0 : decide (i = 0) = false := decide_eq_false (by omega)
        by_cases d1 : 48 ≤ x
        · by_cases d2 : x ≤ 57
          · simp (maxSteps := 200000) -implicitDefEqProofs only [KA, KB, KC, KD, KE, KF, eq_self, ne_eq, ↓reduceIte, Nat.reduceLT, Nat.reduceEqDiff, Nat.reduceAdd, Nat.reduceLeDiff, Nat.reduceSub, Nat.reduceMul, reduceCtorEq, e17, e18, e19, hlt, a1, a2, g1, g3, i0, d1, d2, hw, rd_n]
            exact fin (.inr ⟨hi0, by unfold digP; omega⟩) _ _ rfl rfl rfl
          · simp (maxSteps := 200000) -implicitDefEqProofs only [KA, KB, KC, KD, KE, KF, eq_self, ne_eq, ↓reduceIte, Nat.reduceLT, Nat.reduceEqDiff, Nat.reduceAdd, Nat.reduceLeDiff, Nat.reduceSub, Nat.reduceMul, reduceCtorEq, e17, e18, e19, hlt, a1, a2, g1, g3, i0, d1, d2]
            exact bad (fun e => e.elim nl fun e => by have := e.2; unfold digP at this; omega)
        · simp (maxSteps := 200000) -implicitDefEqProofs only [KA, KB, KC, KD, KE, KF, eq_self, ne_eq, ↓reduceIte, Nat.reduceLT, Nat.reduceEqDiff, Nat.reduceAdd, Nat.reduceLeDiff, Nat.reduceSub, Nat.reduceMul, reduceCtorEq, e17, e18, e19, hlt, a1, a2, g1, g3, i0, d1]
          exact bad (fun e => e.elim nl fun e => by have := e.2; unfold digP at this; omega)
      · have hi0 : decide (i = 0) = true := decide_eq_true (by omega)
        simp (maxSteps := 200000) -implicitDefEqProofs only [KA, KB, KC, KD, KE, KF, eq_self, ne_eq, ↓reduceIte, Nat.reduceLT, Nat.reduceEqDiff, Nat.reduceAdd, Nat.reduceLeDiff, Nat.reduceSub, Nat.reduceMul, reduceCtorEq, e17, e18, e19, hlt, a1, a2, g1, g3, i0]
        exact bad (fun e => e.elim nl fun e => by have := e.1; rw [hi0] at this; cases this)
  · rw [List.drop_of_length_le (by omega), okA] at hok
    simp (maxSteps := 200000) -implicitDefEqProofs only [KA, KB, KC, KD, KE, KF, eq_self, ne_eq, ↓reduceIte, Nat.reduceLT, Nat.reduceEqDiff, Nat.reduceAdd, Nat.reduceLeDiff, Nat.reduceSub, Nat.reduceMul, reduceCtorEq, e17, e18, e19, hlt, rd_e]
    exact hP _ true ⟨fun _ => ⟨hok.mpr trivial, by omega, by omega⟩, fun _ => rfl⟩ f1
/-! ### Small letters, in place -/
def lowR (R : List Int) (i : Nat) : List Int := (R.take i).map Go.Proofs.Nrm.low ++ R.drop i
def RnI (v : CV) (R : List Int) (h0 h : Hp) (m : Nat) (st : St) : Prop :=
  ∃ (i : Nat) (h' : Hp) (l : List (Nat × TV)) (lc : List (List CV)), st = ST 41 l lc h' ∧ i ≤ R.length ∧ m = R.length - i ∧ Ow h' 1 v ((lowR R i).map encR) ∧ Fm (ownId v) h h' ∧
    lk l 3 = .v (.c v) ∧ lk l 8 = .v (.c v) ∧ lk l 9 = .v (.c (.int .i64 R.length)) ∧ lk l 10 = .v (.c (.int .i64 i))
theorem ow_set {v : CV} {rows : List (List CV)} {i : Nat} {r : List CV} (ho : Ow h 1 v rows) (hi : i < rows.length) (hlen : ∀ row, rows[i]? = some row → row.length = 1) (hr : r.length = 1) :
    ∃ id tok j, iaddrT h 1 (.v (.c v)) (i : Int) = some (.v (.c (.ptr id tok j 0))) ∧ rowO (h.g id) tok j = rows[i]? ∧ ∃ h', storeO (h.g id) h [] 1 id tok j 0 r = some ⟨.un, [], h'⟩ ∧ Ow h' 1 v (rows.set i r) ∧ Fm (ownId v) h h' := by
  cases v <;> simp only [Ow] at ho
  case nils => subst ho; simp at hi
  case sl id tok off len cap =>
    obtain ⟨rfl, rfl, lw, rs, hg, hlw, hle, rfl⟩ := ho
    rw [List.length_take] at hi
    have ia := iaS (n := len) (i := (i : Int)) hg hlw (by omega) none
    rw [Int.toNat_natCast] at ia
    obtain ⟨row, hrow⟩ : ∃ row, rs[i]? = some row := ⟨_, List.getElem?_eq_getElem (by omega)⟩
    have hl1 := hlen row (by rw [List.getElem?_take, if_pos (by omega)]; exact hrow)
    refine ⟨id, tok, i, ia, ?_, h.put id (.rows true 1 tok tok (rs.set i r)), ?_, ?_, Fm.put _ _ rfl⟩
    · rw [hg, rowO_some, if_pos hlw, List.getElem?_take, if_pos (by omega)]
    · rw [hg, storeO_some]
      rw [if_pos ⟨rfl, rfl⟩, hrow, Option.bind_some, if_pos (by omega)]
      congr 3
      unfold splice
      rw [List.take_zero, List.nil_append, hr, List.drop_of_length_le (by omega), List.append_nil]
    · refine ⟨rfl, rfl, tok, rs.set i r, by rw [g_put_eq, hg]; rfl, Nat.le_refl _, by rw [List.length_set]; exact hle, ?_⟩
      rw [List.take_set]
theorem rnorm_ok (hL : L.length ≤ 1000000000) (hP : ∀ h', Fn h h' → P (.c (.str (bs (encs ((runs L).map Go.Proofs.Nrm.low))))) h') : callW N (k + 2) 181 [.c (.str (bs L))] h P := by
  have hrl := runs_len L
  have hvr := runs_vr L
  refine call_intro rfl (by simp only [List.length_cons, List.length_nil]; omega) ?_
  simp (maxSteps := 200000) -implicitDefEqProofs only [KA, KB, KC, KD, KE, KF, eq_self, ne_eq, ↓reduceIte, Nat.reduceLT, Nat.reduceEqDiff, Nat.reduceAdd, Nat.reduceLeDiff, Nat.reduceSub, Nat.reduceMul, reduceCtorEq]
  refine rrunes_ok (k := k) (by omega) fun h1 v how hid f1 => ?_
  generalize hR : runs L = R at *
  have hlen : ∀ h' : Hp, lenT h' .sl (.v (.c v)) = some (R.length : Int) := fun h' => by rw [how.sl.len h', List.length_map]
  simp (maxSteps := 200000) -implicitDefEqProofs only [KA, KB, KC, KD, KE, KF, eq_self, ne_eq, ↓reduceIte, Nat.reduceLT, Nat.reduceEqDiff, Nat.reduceAdd, Nat.reduceLeDiff, Nat.reduceSub, Nat.reduceMul, reduceCtorEq, hlen]
  refine loop_rd (callW_mono N _) (RnI v R h h1) (n := R.length) ⟨0, h1, _, _, rfl, Nat.zero_le _, rfl, by simpa [lowR] using how, Fm.refl _ _, rfl, rfl, rfl, rfl⟩ ?_
  rintro m st ⟨i, h2, l, lc, rfl, hi, hm, hou, f2, e3, e8, e9, e10⟩
  by_cases hlt : (i : Int) < R.length
  · have hil : i < R.length := by omega
    obtain ⟨x, hx⟩ : ∃ x, R[i]? = some x := ⟨_, List.getElem?_eq_getElem hil⟩
    have hd : R.drop i = x :: R.drop (i + 1) := by
      rw [List.drop_eq_getElem_cons hil]
      rw [List.getElem?_eq_getElem hil] at hx
      injection hx with hx
      rw [hx]
    have htl : ((R.take i).map Go.Proofs.Nrm.low).length = i := by rw [List.length_map, List.length_take]; omega
    have hat : (lowR R i)[i]? = some x := by
      unfold lowR
      rw [List.getElem?_append_right (by omega), htl, Nat.sub_self, hd]
      rfl
    have hlow1 : lowR R (i + 1) = (R.take i).map Go.Proofs.Nrm.low ++ Go.Proofs.Nrm.low x :: R.drop (i + 1) := by
      unfold lowR
      rw [take_snoc hx, List.map_append, List.append_assoc]
      rfl
    have hlow0 : lowR R i = (R.take i).map Go.Proofs.Nrm.low ++ x :: R.drop (i + 1) := by
      unfold lowR
      rw [hd]
    have hr : ((lowR R i).map encR)[(i : Int).toNat]? = some [.int .i32 x] := by rw [Int.toNat_natCast, List.getElem?_map, hat]; rfl
    have hw := wrap_i64 (n := (i : Int) + 1) (by omega)
    have hll : (lowR R i).length = R.length := by
      rw [hlow0, List.length_append, htl, List.length_cons, List.length_drop]; omega
    obtain ⟨q1, q2, q3, a1, a2, h3, b2, b3, b4⟩ := ow_set (r := [.int .i32 (x + 32)]) hou (i := i) (by rw [List.length_map]; omega) (fun row hrow => by
      rw [List.getElem?_map, hat] at hrow
      injection hrow with hrow
      rw [← hrow]; rfl) rfl
    rw [Int.toNat_natCast] at hr
    rw [hr] at a2
    have hset : ((lowR R i).map encR).set i [.int .i32 (x + 32)] = ((R.take i).map Go.Proofs.Nrm.low ++ (x + 32) :: R.drop (i + 1)).map encR := by
      have := set_midE encR ((R.take i).map Go.Proofs.Nrm.low) x (x + 32) (R.drop (i + 1)) []
      rw [htl, List.append_nil, List.append_nil, ← hlow0] at this
      exact this
    have up : Go.Proofs.Nrm.great x → ∀ (l : List (Nat × TV)) (lc : List (List CV)), lk l 3 = .v (.c v) → lk l 8 = .v (.c v) → lk l 9 = .v (.c (.int .i64 R.length)) → lk l 10 = .v (.c (.int .i64 ((i : Int) + 1))) → ∃ m', m' < m ∧ RnI v R h h1 m' (ST 41 l lc h3) := by
      intro hg l lc k3 k8 k9 k10
      refine ⟨m - 1, by omega, i + 1, h3, l, lc, rfl, by omega, by omega, ?_, f2.trans b4, k3, k8, k9, by rw [k10]; rfl⟩
      rw [hlow1, Go.Proofs.Nrm.low, if_pos hg, ← hset]
      exact b3
    have as : ¬ Go.Proofs.Nrm.great x → ∀ (l : List (Nat × TV)) (lc : List (List CV)), lk l 3 = .v (.c v) → lk l 8 = .v (.c v) → lk l 9 = .v (.c (.int .i64 R.length)) → lk l 10 = .v (.c (.int .i64 ((i : Int) + 1))) → ∃ m', m' < m ∧ RnI v R h h1 m' (ST 41 l lc h2) := by
      intro hg l lc k3 k8 k9 k10
      refine ⟨m - 1, by omega, i + 1, h2, l, lc, rfl, by omega, by omega, ?_, f2, k3, k8, k9, by rw [k10]; rfl⟩
      rw [hlow1, Go.Proofs.Nrm.low, if_neg hg, ← hlow0]
      exact hou
    by_cases g1 : 65 ≤ x
    · by_cases g2 : x ≤ 90
      · have w32 := wrap_i32 (n := x + 32) (by omega)
        simp (maxSteps := 200000) -implicitDefEqProofs only [KA, KB, KC, KD, KE, KF, eq_self, ne_eq, ↓reduceIte, Nat.reduceLT, Nat.reduceEqDiff, Nat.reduceAdd, Nat.reduceLeDiff, Nat.reduceSub, Nat.reduceMul, reduceCtorEq, e3, e8, e9, e10, hlt, a1, a2, g1, g2, w32, b2, hw, rd_n]
        exact up (by unfold Go.Proofs.Nrm.great; omega) _ _ rfl rfl rfl rfl
      · by_cases g3 : 913 ≤ x
        · by_cases g4 : x ≤ 937
          · by_cases g5 : x = 930
            · have g5' : decide (x = 930) = true := decide_eq_true g5
              simp (maxSteps := 200000) -implicitDefEqProofs only [KA, KB, KC, KD, KE, KF, eq_self, ne_eq, ↓reduceIte, Nat.reduceLT, Nat.reduceEqDiff, Nat.reduceAdd, Nat.reduceLeDiff, Nat.reduceSub, Nat.reduceMul, reduceCtorEq, e3, e8, e9, e10, hlt, a1, a2, g1, g2, g3, g4, g5', hw, rd_n]
              exact as (by unfold Go.Proofs.Nrm.great; omega) _ _ rfl rfl rfl rfl
            · have w32 := wrap_i32 (n := x + 32) (by omega)
              simp (maxSteps := 200000) -implicitDefEqProofs only [KA, KB, KC, KD, KE, KF, eq_self, ne_eq, ↓reduceIte, Nat.reduceLT, Nat.reduceEqDiff, Nat.reduceAdd, Nat.reduceLeDiff, Nat.reduceSub, Nat.reduceMul, reduceCtorEq, e3, e8, e9, e10, hlt, a1, a2, g1, g2, g3, g4, g5, w32, b2, hw, rd_n]
              exact up (by unfold Go.Proofs.Nrm.great; omega) _ _ rfl rfl rfl rfl
          · simp (maxSteps := 200000) -implicitDefEqProofs only [KA, KB, KC, KD, KE, KF, eq_self, ne_eq, ↓reduceIte, Nat.reduceLT, Nat.reduceEqDiff, Nat.reduceAdd, Nat.reduceLeDiff, Nat.reduceSub, Nat.reduceMul, reduceCtorEq, e3, e8, e9, e10, hlt, a1, a2, g1, g2, g3, g4, hw, rd_n]
            exact as (by unfold Go.Proofs.Nrm.great; omega) _ _ rfl rfl rfl rfl
        · simp (maxSteps := 200000) -implicitDefEqProofs only [KA, KB, KC, KD, KE, KF, eq_self, ne_eq, ↓reduceIte, Nat.reduceLT, Nat.reduceEqDiff, Nat.reduceAdd, Nat.reduceLeDiff, Nat.reduceSub, Nat.reduceMul, reduceCtorEq, e3, e8, e9, e10, hlt, a1, a2, g1, g2, g3, hw, rd_n]
          exact as (by unfold Go.Proofs.Nrm.great; omega) _ _ rfl rfl rfl rfl
    · have g3 : ¬ 913 ≤ x := by omega
      simp (maxSteps := 200000) -implicitDefEqProofs only [KA, KB, KC, KD, KE, KF, eq_self, ne_eq, ↓reduceIte, Nat.reduceLT, Nat.reduceEqDiff, Nat.reduceAdd, Nat.reduceLeDiff, Nat.reduceSub, Nat.reduceMul, reduceCtorEq, e3, e8, e9, e10, hlt, a1, a2, g1, g3, hw, rd_n]
      exact as (by unfold Go.Proofs.Nrm.great; omega) _ _ rfl rfl rfl rfl
  · have hfull : lowR R i = R.map Go.Proofs.Nrm.low := by
      unfold lowR
      rw [List.take_of_length_le (by omega), List.drop_of_length_le (by omega), List.append_nil]
    rw [hfull] at hou
    simp (maxSteps := 200000) -implicitDefEqProofs only [KA, KB, KC, KD, KE, KF, eq_self, ne_eq, ↓reduceIte, Nat.reduceLT, Nat.reduceEqDiff, Nat.reduceAdd, Nat.reduceLeDiff, Nat.reduceSub, Nat.reduceMul, reduceCtorEq, e3, e8, e9, e10, hlt, rd_e]
    refine text_ok (k := k) hou.sl (by rw [List.length_map]; omega) ?_
    simp (maxSteps := 200000) -implicitDefEqProofs only [KA, KB, KC, KD, KE, KF, eq_self, ne_eq, ↓reduceIte, Nat.reduceLT, Nat.reduceEqDiff, Nat.reduceAdd, Nat.reduceLeDiff, Nat.reduceSub, Nat.reduceMul, reduceCtorEq]
    exact hP _ (f1.fresh f2 hid)
end
end Camp

/-! CvLab8 -/
namespace Camp
open Go Camp.U
set_option linter.unusedVariables false
set_option linter.unusedSimpArgs false
set_option maxHeartbeats 4000000
theorem encs_fix : ∀ l : List Int, encs (l.map fix) = encs l
  | [] => rfl
  | r :: l => by rw [List.map_cons, encs_cons, encs_cons, enc_fix, encs_fix l]
section
variable {k : Nat} {h : Hp} {P : AV → Hp → Prop}
theorem labelForms_ok {L : List UInt8} {q : Int} (hq : -9223372036854775808 ≤ q ∧ q ≤ 9223372036854775807) (hP : ∀ h', P (.c (.bool true)) h') : callW N (k + 5) 179 [.c (.str (bs L)), .c (.int .i64 q)] h P := by
  refine call_intro rfl (by simp only [List.length_cons, List.length_nil]; omega) ?_
  by_cases hl : 2000 < (L.length : Int)
  · simp (maxSteps := 200000) -implicitDefEqProofs only [KA, KB, KC, KD, KE, KF, eq_self, ne_eq, ↓reduceIte, Nat.reduceLT, Nat.reduceEqDiff, Nat.reduceAdd, Nat.reduceLeDiff, Nat.reduceSub, Nat.reduceMul, reduceCtorEq, bs_len, hl]
    refine awakeL_ok (k := k) fun h' _ => ?_
    simp (maxSteps := 200000) -implicitDefEqProofs only [KA, KB, KC, KD, KE, KF, eq_self, ne_eq, ↓reduceIte, Nat.reduceLT, Nat.reduceEqDiff, Nat.reduceAdd, Nat.reduceLeDiff, Nat.reduceSub, Nat.reduceMul, reduceCtorEq]
    exact hP _
  simp (maxSteps := 200000) -implicitDefEqProofs only [KA, KB, KC, KD, KE, KF, eq_self, ne_eq, ↓reduceIte, Nat.reduceLT, Nat.reduceEqDiff, Nat.reduceAdd, Nat.reduceLeDiff, Nat.reduceSub, Nat.reduceMul, reduceCtorEq, bs_len, hl]
  refine may_ok (k := k + 2) (by omega) fun h1 b1 hb1 f1 => ?_
  simp (maxSteps := 200000) -implicitDefEqProofs only [KA, KB, KC, KD, KE, KF, eq_self, ne_eq, ↓reduceIte, Nat.reduceLT, Nat.reduceEqDiff, Nat.reduceAdd, Nat.reduceLeDiff, Nat.reduceSub, Nat.reduceMul, reduceCtorEq]
  refine rmay_ok (k := k + 2) (by omega) fun h2 b2 hb2 f2 => ?_
  have hb : (b1 == b2) = true := by
    have : b1 = b2 := by rw [Bool.eq_iff_iff, hb1, hb2]
    rw [this]
    simp
  simp (maxSteps := 200000) -implicitDefEqProofs only [KA, KB, KC, KD, KE, KF, eq_self, ne_eq, ↓reduceIte, Nat.reduceLT, Nat.reduceEqDiff, Nat.reduceAdd, Nat.reduceLeDiff, Nat.reduceSub, Nat.reduceMul, reduceCtorEq, hb]
  refine norm_ok (k := k + 3) (by omega) ?_
  simp (maxSteps := 200000) -implicitDefEqProofs only [KA, KB, KC, KD, KE, KF, eq_self, ne_eq, ↓reduceIte, Nat.reduceLT, Nat.reduceEqDiff, Nat.reduceAdd, Nat.reduceLeDiff, Nat.reduceSub, Nat.reduceMul, reduceCtorEq]
  refine rnorm_ok (k := k + 2) (by omega) fun h3 f3 => ?_
  generalize encs ((runs L).map Go.Proofs.Nrm.low) = M
  have d1 : decide (M = M) = true := by simp
  simp (maxSteps := 200000) -implicitDefEqProofs only [KA, KB, KC, KD, KE, KF, eq_self, ne_eq, ↓reduceIte, Nat.reduceLT, Nat.reduceEqDiff, Nat.reduceAdd, Nat.reduceLeDiff, Nat.reduceSub, Nat.reduceMul, reduceCtorEq, bs_eq, d1]
  refine count_ok (k := k + 3) (by omega) fun h4 f4 => ?_
  simp (maxSteps := 200000) -implicitDefEqProofs only [KA, KB, KC, KD, KE, KF, eq_self, ne_eq, ↓reduceIte, Nat.reduceLT, Nat.reduceEqDiff, Nat.reduceAdd, Nat.reduceLeDiff, Nat.reduceSub, Nat.reduceMul, reduceCtorEq]
  refine rrunes_ok (k := k + 3) (by omega) fun h5 v how hid f5 => ?_
  have hlen : ∀ h' : Hp, lenT h' .sl (.v (.c v)) = some ((runs L).length : Int) := fun h' => by rw [how.sl.len h', List.length_map]
  have d2 : decide (((runs L).length : Int) = (runs L).length) = true := by simp
  simp (maxSteps := 200000) -implicitDefEqProofs only [KA, KB, KC, KD, KE, KF, eq_self, ne_eq, ↓reduceIte, Nat.reduceLT, Nat.reduceEqDiff, Nat.reduceAdd, Nat.reduceLeDiff, Nat.reduceSub, Nat.reduceMul, reduceCtorEq, hlen, d2]
  refine cut_ok (k := k + 3) hq fun h6 f6 => ?_
  simp (maxSteps := 200000) -implicitDefEqProofs only [KA, KB, KC, KD, KE, KF, eq_self, ne_eq, ↓reduceIte, Nat.reduceLT, Nat.reduceEqDiff, Nat.reduceAdd, Nat.reduceLeDiff, Nat.reduceSub, Nat.reduceMul, reduceCtorEq]
  refine rcut_ok (k := k + 3) (by omega) fun h7 f7 => ?_
  generalize ucut q.toNat L = C
  have d3 : decide (C = C) = true := by simp
  simp (maxSteps := 200000) -implicitDefEqProofs only [KA, KB, KC, KD, KE, KF, eq_self, ne_eq, ↓reduceIte, Nat.reduceLT, Nat.reduceEqDiff, Nat.reduceAdd, Nat.reduceLeDiff, Nat.reduceSub, Nat.reduceMul, reduceCtorEq, bs_eq, d3]
  refine sum_ok (k := k + 3) (by omega) fun h8 f8 => ?_
  simp (maxSteps := 200000) -implicitDefEqProofs only [KA, KB, KC, KD, KE, KF, eq_self, ne_eq, ↓reduceIte, Nat.reduceLT, Nat.reduceEqDiff, Nat.reduceAdd, Nat.reduceLeDiff, Nat.reduceSub, Nat.reduceMul, reduceCtorEq]
  refine rsum_ok (k := k + 2) (by omega) fun h9 f9 => ?_
  generalize sumT 0 (runs L) % 65521 = S
  have d4 : decide (S = S) = true := by simp
  simp (maxSteps := 200000) -implicitDefEqProofs only [KA, KB, KC, KD, KE, KF, eq_self, ne_eq, ↓reduceIte, Nat.reduceLT, Nat.reduceEqDiff, Nat.reduceAdd, Nat.reduceLeDiff, Nat.reduceSub, Nat.reduceMul, reduceCtorEq, d4]
  refine turn_ok (k := k + 1) (by omega) fun h10 f10 => ?_
  simp (maxSteps := 200000) -implicitDefEqProofs only [KA, KB, KC, KD, KE, KF, eq_self, ne_eq, ↓reduceIte, Nat.reduceLT, Nat.reduceEqDiff, Nat.reduceAdd, Nat.reduceLeDiff, Nat.reduceSub, Nat.reduceMul, reduceCtorEq]
  refine rturn_ok (k := k + 2) (by omega) fun h11 f11 => ?_
  generalize encs (runs L).reverse = T
  have d5 : decide (T = T) = true := by simp
  simp (maxSteps := 200000) -implicitDefEqProofs only [KA, KB, KC, KD, KE, KF, eq_self, ne_eq, ↓reduceIte, Nat.reduceLT, Nat.reduceEqDiff, Nat.reduceAdd, Nat.reduceLeDiff, Nat.reduceSub, Nat.reduceMul, reduceCtorEq, bs_eq, d5]
  refine awakeL_ok (k := k) fun h' _ => ?_
  simp (maxSteps := 200000) -implicitDefEqProofs only [KA, KB, KC, KD, KE, KF, eq_self, ne_eq, ↓reduceIte, Nat.reduceLT, Nat.reduceEqDiff, Nat.reduceAdd, Nat.reduceLeDiff, Nat.reduceSub, Nat.reduceMul, reduceCtorEq]
  exact hP _
theorem labelParts_ok {v : CV} {l : List Int} {n0 : Int} (hs : SL h 1 v (l.map encR)) (hP : ∀ h', P (.c (.bool true)) h') : callW N (k + 5) 187 [.c v, .c (.int .i64 n0)] h P := by
  have hlen : ∀ h' : Hp, lenT h' .sl (.v (.c v)) = some (l.length : Int) := fun h' => by rw [hs.len h', List.length_map]
  refine call_intro rfl (by simp only [List.length_cons, List.length_nil]; omega) ?_
  by_cases hl : 500 < (l.length : Int)
  · simp (maxSteps := 200000) -implicitDefEqProofs only [KA, KB, KC, KD, KE, KF, eq_self, ne_eq, ↓reduceIte, Nat.reduceLT, Nat.reduceEqDiff, Nat.reduceAdd, Nat.reduceLeDiff, Nat.reduceSub, Nat.reduceMul, reduceCtorEq, hlen, hl]
    refine awakeL_ok (k := k) fun h' _ => ?_
    simp (maxSteps := 200000) -implicitDefEqProofs only [KA, KB, KC, KD, KE, KF, eq_self, ne_eq, ↓reduceIte, Nat.reduceLT, Nat.reduceEqDiff, Nat.reduceAdd, Nat.reduceLeDiff, Nat.reduceSub, Nat.reduceMul, reduceCtorEq]
    exact hP _
  have hcv : ∀ tm, convV ⟨tm, [], h⟩ .runesToStr (.v (.c v)) = some ⟨.v (.c (.str (bs (encs l)))), [], h⟩ := fun tm => c_r2s hs
  have hel := encs_len_le l
  obtain ⟨S, hS⟩ : ∃ S, S = encs l := ⟨_, rfl⟩
  have hr : runs S = l.map fix := by rw [hS]; exact runs_encs' l
  have hrl : (runs S).length = l.length := by rw [hr, List.length_map]
  rw [← hS] at hcv hel
  have w1 := wrap_i64 (n := (l.length : Int) + 1) (by omega)
  have wu := wrap_u64 (n := (l.length : Int) + 1) (by omega)
  have z : ¬ ((l.length : Int) + 1 = 0) := by omega
  obtain ⟨n, hn, hn1⟩ : ∃ n : Nat, (IntKind.wrap .u64 n0).tmod ((l.length : Int) + 1) = (n : Int) ∧ n ≤ l.length := by
    have := u64_tmod n0 ((l.length : Int) + 1) (by omega)
    exact ⟨((IntKind.wrap .u64 n0).tmod ((l.length : Int) + 1)).toNat, by omega, by omega⟩
  have wn := wrap_i64 (n := (n : Int)) (by omega)
  simp (maxSteps := 200000) -implicitDefEqProofs only [KA, KB, KC, KD, KE, KF, eq_self, ne_eq, ↓reduceIte, Nat.reduceLT, Nat.reduceEqDiff, Nat.reduceAdd, Nat.reduceLeDiff, Nat.reduceSub, Nat.reduceMul, reduceCtorEq, hlen, hl, hcv]
  refine count_ok (k := k + 3) (by omega) fun h1 f1 => ?_
  rw [hrl]
  simp (maxSteps := 200000) -implicitDefEqProofs only [KA, KB, KC, KD, KE, KF, eq_self, ne_eq, ↓reduceIte, Nat.reduceLT, Nat.reduceEqDiff, Nat.reduceAdd, Nat.reduceLeDiff, Nat.reduceSub, Nat.reduceMul, reduceCtorEq, hlen, w1, wu, z, hn, wn]
  refine cut_ok (k := k + 3) (by omega) fun h2 f2 => ?_
  rw [Int.toNat_natCast]
  have hcr := ucut_rest n S
  have hcl := congrArg List.length hcr
  rw [List.length_append] at hcl
  have htake : S.take (ucut n S).length = ucut n S := by
    have := List.take_left (l₁ := ucut n S) (l₂ := rest n S)
    rw [hcr] at this
    exact this
  have hdrop : S.drop (ucut n S).length = rest n S := by
    have := List.drop_left (l₁ := ucut n S) (l₂ := rest n S)
    rw [hcr] at this
    exact this
  have hc1 : (runs (ucut n S)).length = n := by rw [runs_ucut, List.length_take]; omega
  have hc2 : (runs (rest n S)).length = l.length - n := by rw [runs_rest, List.length_drop]; omega
  generalize hC : ucut n S = C at *
  generalize hD : rest n S = D at *
  have dk : decide ((l.length : Int) = l.length) = true := by simp
  have c1 : ¬ ((S.length : Int) < C.length) := by omega
  have hhi := bs_hi h2 (A := S) (m := C.length) (by omega)
  rw [htake] at hhi
  have hlo : ∀ h' : Hp, sliceT h' 0 (.v (.c (.str (bs S)))) (some (C.length : Int)) none none = some (.str (bs D)) := fun h' => by
    rw [bs_lo h' (by omega), hdrop]
  have dc : decide (¬ C = C) = false := by simp
  have dn : decide ((n : Int) = n) = true := by simp
  have ws := wrap_i64 (n := (l.length : Int) - n) (by omega)
  simp (maxSteps := 200000) -implicitDefEqProofs only [KA, KB, KC, KD, KE, KF, eq_self, ne_eq, ↓reduceIte, Nat.reduceLT, Nat.reduceEqDiff, Nat.reduceAdd, Nat.reduceLeDiff, Nat.reduceSub, Nat.reduceMul, reduceCtorEq, hlen, dk, bs_len, c1, hhi, bs_ne, dc]
  refine count_ok (k := k + 3) (by omega) fun h3 f3 => ?_
  rw [hc1]
  simp (maxSteps := 200000) -implicitDefEqProofs only [KA, KB, KC, KD, KE, KF, eq_self, ne_eq, ↓reduceIte, Nat.reduceLT, Nat.reduceEqDiff, Nat.reduceAdd, Nat.reduceLeDiff, Nat.reduceSub, Nat.reduceMul, reduceCtorEq, dn, bs_len, hlo]
  refine count_ok (k := k + 3) (by omega) fun h4 f4 => ?_
  rw [hc2]
  have d2 : decide (((l.length - n : Nat) : Int) = (l.length : Int) - n) = true := decide_eq_true (by omega)
  simp (maxSteps := 200000) -implicitDefEqProofs only [KA, KB, KC, KD, KE, KF, eq_self, ne_eq, ↓reduceIte, Nat.reduceLT, Nat.reduceEqDiff, Nat.reduceAdd, Nat.reduceLeDiff, Nat.reduceSub, Nat.reduceMul, reduceCtorEq, ws, d2]
  refine norm_ok (k := k + 3) (by omega) ?_
  have hvr := runs_vr S
  have ht : runs (encs ((runs S).map Go.Proofs.Nrm.low)) = (runs S).map Go.Proofs.Nrm.low := by
    rw [runs_encs', map_fix]
    intro r hr
    obtain ⟨x, hx, rfl⟩ := List.mem_map.mp hr
    exact low_vr (hvr x hx)
  have htl := encs_len_le ((runs S).map Go.Proofs.Nrm.low)
  rw [List.length_map] at htl
  have hll : ((runs S).map Go.Proofs.Nrm.low).map Go.Proofs.Nrm.low = (runs S).map Go.Proofs.Nrm.low := by
    rw [List.map_map]
    exact List.map_congr_left fun r _ => low_low r
  have htn : (runs (encs ((runs S).map Go.Proofs.Nrm.low))).length = l.length := by rw [ht, List.length_map, hrl]
  have htt : encs ((runs (encs ((runs S).map Go.Proofs.Nrm.low))).map Go.Proofs.Nrm.low) = encs ((runs S).map Go.Proofs.Nrm.low) := by rw [ht, hll]
  generalize hT : encs ((runs S).map Go.Proofs.Nrm.low) = T at *
  simp (maxSteps := 200000) -implicitDefEqProofs only [KA, KB, KC, KD, KE, KF, eq_self, ne_eq, ↓reduceIte, Nat.reduceLT, Nat.reduceEqDiff, Nat.reduceAdd, Nat.reduceLeDiff, Nat.reduceSub, Nat.reduceMul, reduceCtorEq]
  refine norm_ok (k := k + 3) (by omega) ?_
  rw [htt]
  have dt : decide (T = T) = true := by simp
  simp (maxSteps := 200000) -implicitDefEqProofs only [KA, KB, KC, KD, KE, KF, eq_self, ne_eq, ↓reduceIte, Nat.reduceLT, Nat.reduceEqDiff, Nat.reduceAdd, Nat.reduceLeDiff, Nat.reduceSub, Nat.reduceMul, reduceCtorEq, bs_eq, dt]
  refine count_ok (k := k + 3) (by omega) fun h5 f5 => ?_
  rw [htn]
  simp (maxSteps := 200000) -implicitDefEqProofs only [KA, KB, KC, KD, KE, KF, eq_self, ne_eq, ↓reduceIte, Nat.reduceLT, Nat.reduceEqDiff, Nat.reduceAdd, Nat.reduceLeDiff, Nat.reduceSub, Nat.reduceMul, reduceCtorEq, dk]
  refine turn_ok (k := k + 1) (by omega) fun h6 f6 => ?_
  have hur : runs (encs (runs S).reverse) = (runs S).reverse := by
    rw [runs_encs', map_fix]
    exact fun r hr => hvr r (List.mem_reverse.mp hr)
  have hul := encs_len_le (runs S).reverse
  rw [List.length_reverse] at hul
  have huu : encs (runs (encs (runs S).reverse)).reverse = S := by
    rw [hur, List.reverse_reverse, hr, encs_fix, hS]
  generalize hU : encs (runs S).reverse = U at *
  simp (maxSteps := 200000) -implicitDefEqProofs only [KA, KB, KC, KD, KE, KF, eq_self, ne_eq, ↓reduceIte, Nat.reduceLT, Nat.reduceEqDiff, Nat.reduceAdd, Nat.reduceLeDiff, Nat.reduceSub, Nat.reduceMul, reduceCtorEq]
  refine turn_ok (k := k + 1) (by omega) fun h7 f7 => ?_
  rw [huu]
  have dS : decide (S = S) = true := by simp
  simp (maxSteps := 200000) -implicitDefEqProofs only [KA, KB, KC, KD, KE, KF, eq_self, ne_eq, ↓reduceIte, Nat.reduceLT, Nat.reduceEqDiff, Nat.reduceAdd, Nat.reduceLeDiff, Nat.reduceSub, Nat.reduceMul, reduceCtorEq, bs_eq, dS]
  refine awakeL_ok (k := k) fun h' _ => ?_
  simp (maxSteps := 200000) -implicitDefEqProofs only [KA, KB, KC, KD, KE, KF, eq_self, ne_eq, ↓reduceIte, Nat.reduceLT, Nat.reduceEqDiff, Nat.reduceAdd, Nat.reduceLeDiff, Nat.reduceSub, Nat.reduceMul, reduceCtorEq]
  exact hP _
theorem sl_take {h : Hp} {sz id n : Nat} {rows : List (List CV)} (e : h.obs[id]? = some (.rows false sz 0 0 rows)) (hn : n ≤ rows.length) (c : Option Nat) : SL h sz (.sl id 0 0 n c) (rows.take n) := by
  exact ⟨false, 0, 0, rows, e, Nat.le_refl _, by omega, by simp⟩
theorem wtr_runes {hp : Hp} {rows : List (List CV)} {b : Nat} (h : WTR hp [.int .i32] rows b) : ∃ L : List Int, rows = L.map encR := by
  induction rows generalizing b with
  | nil => exact ⟨[], rfl⟩
  | cons r rs ih =>
    cases h with
    | cons h1 h2 =>
      obtain ⟨L, rfl⟩ := ih h2
      cases h1 with
      | int _ h1 => cases h1; exact ⟨_ :: L, rfl⟩
theorem wt_runes {hp : Hp} {w : CV} {b : Nat} (h : WT hp [.sl [.int .i32]] [w] b) : ∃ C : List Int, SL hp 1 w (C.map encR) := by
  cases h with
  | nils h => exact ⟨[], rfl⟩
  | sl e hn hr h =>
    rename_i id n c rows b'
    obtain ⟨C, rfl⟩ := wtr_runes hr
    refine ⟨C.take n, ?_⟩
    have := sl_take e hn (some (C.map encR).length)
    rw [List.map_take]
    exact this
end
end Camp
